/- Functions of the program, as pure functions. -/
import Derived.Test.YtjjfoofjipafiaaMMatrixPair3
import Derived.Test.YtjjfoofjipafiaaProg
/- spec.l01Solve, as a pure function. -/
set_option linter.unusedVariables false
namespace Go.Proofs.Ytjjfoofjipafiaa.G
open Go Go.Sx Go.Proofs

def spec_l01Solve.b0 (rows1 : List (List Int)) (r_1 : List (List Int)) : (List Int) × Int → Option (LR ((List Int) × Int) ((List Int) × Bool)) := fun p => match p with | (out1, i1) => (bif (decide (i1 < (w64 (((gt rows1 0).length : Int) - 1)))) then chk i1 r_1.length ((G.spec_l01Lead.f (gt r_1 i1)).bind (fun r_2 => (bif (r_2 != i1) then some (.ret ((([] : List Int), false))) else chk (w64 (((gt rows1 0).length : Int) - 1)) ((gt r_1 i1).length) (small (out1.length + ([(gt (gt r_1 i1) (w64 (((gt rows1 0).length : Int) - 1)))] : List Int).length) (some (.next ((out1 ++ ([(gt (gt r_1 i1) (w64 (((gt rows1 0).length : Int) - 1)))] : List Int)), (w64 (i1 + 1))))))))) else some (.brk (out1, i1)))

def spec_l01Solve.f (p1 : Int) (rows1 : List (List Int)) : Option ((List Int) × Bool) := (bif ((rows1.length : Int) == 0) then some (([] : List Int), false) else chk 0 rows1.length ((G.spec_l01Echelon.f p1 rows1).bind (fun r_1 => (bif ((r_1.length : Int) != (w64 (((gt rows1 0).length : Int) - 1))) then some (([] : List Int), false) else (loop (spec_l01Solve.b0 rows1 r_1) (([] : List Int), 0)).bind (ln (fun p => match p with | (out1, i1) => some (out1, true)))))))

def spec_l01Solve.R (r : (List Int) × Bool) (v : Value) (L : List Asn) : Prop := ∃ (s0 : SV), v = .tuple #[SV.v s0, .bool r.2] ∧ L = [row Ei 2 s0 r.1]

set_option maxRecDepth 100000 in
set_option maxHeartbeats 4000000 in
theorem spec_l01Solve.calls (w : World) (p1 : Int) (s1 : SV) (ss1 : List SV) (rows1 : List (List Int)) (h1 : ReadsM Ei (hp w) s1 ss1 rows1) :
    ∀ r, spec_l01Solve.f p1 rows1 = some r → Calls Try.prog 119 #[.int .i64 p1, SV.v s1] w (Ret w (spec_l01Solve.R r)) := by

  refine calls_T (n := 49) (Γ := [(0, .int .i64 p1), (1, SV.v s1)]) (R := spec_l01Solve.R) Try.func119 rfl rfl (Nat.le_of_ble_eq_true rfl) ⟨rfl, rfl, trivial⟩ ?_
  unfold spec_l01Solve.f
  refine TC.seq ?_
  refine TC.region ?_
  refine TL.assign rfl rfl (v := SV.v ⟨none, 0, 0⟩) rfl ?_
  refine TL.assign rfl rfl (v := .bool false) rfl ?_
  refine TL.done ?_
  refine TC.seq ?_
  refine TC.seq ?_
  refine TC.region ?_
  refine TL.move rfl rfl (v := SV.v s1) rfl ?_
  refine TL.lenM (RdM.old h1) Try.underlying96 rfl rfl rfl ?_
  refine TL.bin .i64 (rows1.length : Int) 0 rfl rfl rfl rfl (v := .bool ((rows1.length : Int) == 0)) rfl ?_
  refine TL.done ?_
  refine TC.cond (b := ((rows1.length : Int) == 0)) rfl (fun c1 => ?_) (fun c2 => ?_)
  · refine TC.seq ?_
    refine TC.region ?_
    refine TL.assign rfl rfl (v := SV.v ⟨none, 0, 0⟩) rfl ?_
    refine TL.assign rfl rfl (v := .bool false) rfl ?_
    refine TL.done ?_
    refine TC.nilrow Ei 2 ?_
    exact TC.retF (Fin.body (fin2 (.inr rfl) rfl (.tmp rfl) (.tmp rfl) [0] rfl ⟨⟨none, 0, 0⟩, rfl, rfl⟩))
  · refine TC.skip ?_
    refine TC.seq ?_
    refine TC.wk (Γ' := [(0, .int .i64 p1), (1, SV.v s1), (4, SV.v ⟨none, 0, 0⟩), (5, .bool false), (10, SV.v s1), (11, .int .i64 (rows1.length : Int)), (12, .bool ((rows1.length : Int) == 0))]) ⟨rfl, rfl, rfl, rfl, rfl, rfl, rfl, trivial⟩ ?_
    refine TC.chk fun h2 => ?_
    refine TC.bindE ?_
    rintro r_1 hr1
    refine TC.drawG [(0, .int .i64 p1), (1, SV.v s1), (4, SV.v ⟨none, 0, 0⟩), (5, .bool false), (10, SV.v s1), (11, .int .i64 (rows1.length : Int)), (12, .bool ((rows1.length : Int) == 0))] [] ⟨rfl, rfl, rfl, rfl, rfl, rfl, rfl, trivial⟩ trivial (fun l_ g1 => [(bif nb l_ 7 then mat Ei 2 22 (gs (g1 56)) (g1 57) r_1 else emp)]) (fun g1 => [SV.v s1, ep s1 0, SV.v (gt ss1 0), .int .i64 ((gt rows1 0).length : Int), .int .i64 (w64 (((gt rows1 0).length : Int) - 1)), .int .i64 p1, SV.v s1, SV.v (gs (g1 56)), .int .i64 (w64 (((gt rows1 0).length : Int) - 1)), SV.v (gs (g1 56))]) [[], [0], [0, 1], [0, 1, 2], [0, 1, 2, 3], [], [], [5, 6], [0, 1, 2, 3, 4, 5, 6, 7], [0, 1, 2, 3, 4, 5, 6, 7, 8]] [[some false, some false, some false, some false, some false, none, none, none, some false, some false], [some true, some false, some false, some false, some false, none, none, none, some false, some false], [some true, some true, some false, some false, some false, none, none, none, some false, some false], [some true, some true, some true, some false, some false, none, none, none, some false, some false], [some true, some true, some true, some true, some false, none, none, none, some false, some false], [none, none, none, none, none, some false, none, some false, some false, some false], [none, none, none, none, none, none, some false, some false, some false, some false], [none, none, none, none, none, some true, some true, some false, some false, some false], [some true, some true, some true, some true, some true, some true, some true, some true, some false, some false], [some true, some true, some true, some true, some true, some true, some true, some true, some true, some false]] (by kernel_rfl) (fun _ => rfl) rfl rfl rfl rfl rfl (fun _ _ => ⟨⟨⟨⟨⟨⟨⟨⟨⟨⟨trivial, rfl⟩, rfl⟩, rfl⟩, rfl⟩, rfl⟩, rfl⟩, rfl⟩, rfl⟩, rfl⟩, rfl⟩) 1 [0] (fun _ => by kernel_rfl) ?_ ?_
    · refine ⟨rfl, ?_, rfl, ?_, rfl, ?_, rfl, ?_, rfl, ?_, rfl, ?_, rfl, ?_, rfl, ?_, rfl, ?_, rfl, ?_, trivial⟩
      · intro b5_ b6_ b7_ g1
        refine TL.move rfl rfl (v := SV.v s1) rfl ?_
        refine TL.done ?_
        exact TC.nrm () [] ⟨rfl, trivial⟩ [0] (by kernel_rfl)
      · intro b5_ b6_ b7_ g1
        refine TL.asL [(bif b7_ then mat Ei 2 22 (gs (g1 56)) (g1 57) r_1 else emp)] (by kernel_rfl) ?_
        refine TL.ixsM 0 0 (RdM.old h1) h2 Try.underlying96 Try.sizeOf22 rfl rfl rfl rfl rfl ?_
        refine TL.done ?_
        exact TC.nrm () [] ⟨rfl, trivial⟩ [0] (by kernel_rfl)
      · intro b5_ b6_ b7_ g1
        refine TL.asL [(bif b7_ then mat Ei 2 22 (gs (g1 56)) (g1 57) r_1 else emp)] (by kernel_rfl) ?_
        refine TL.loadM2 (RdM.old h1) Try.isAgg22 0 h2 rfl rfl rfl rfl ?_
        refine TL.done ?_
        exact TC.nrm () [] ⟨rfl, trivial⟩ [0] (by kernel_rfl)
      · intro b5_ b6_ b7_ g1
        refine TL.asL [(bif b7_ then mat Ei 2 22 (gs (g1 56)) (g1 57) r_1 else emp)] (by kernel_rfl) ?_
        refine TL.len (RdM.inn (RdM.old h1) h2) Try.underlying22 rfl rfl rfl ?_
        refine TL.done ?_
        exact TC.nrm () [] ⟨rfl, trivial⟩ [0] (by kernel_rfl)
      · intro b5_ b6_ b7_ g1
        refine TL.bin .i64 ((gt rows1 0).length : Int) 1 rfl rfl rfl rfl (v := .int .i64 (w64 (((gt rows1 0).length : Int) - 1))) rfl ?_
        refine TL.done ?_
        exact TC.nrm () [] ⟨rfl, trivial⟩ [0] (by kernel_rfl)
      · intro b0_ b1_ b2_ b3_ b4_ b6_ g1
        refine TL.move rfl rfl (v := .int .i64 p1) rfl ?_
        refine TL.done ?_
        exact TC.nrm () [] ⟨rfl, trivial⟩ [0] (by kernel_rfl)
      · intro b0_ b1_ b2_ b3_ b4_ b5_ g1
        refine TL.move rfl rfl (v := SV.v s1) rfl ?_
        refine TL.done ?_
        exact TC.nrm () [] ⟨rfl, trivial⟩ [0] (by kernel_rfl)
      · intro b0_ b1_ b2_ b3_ b4_ g1
        refine TL.asL [emp] (by kernel_rfl) ?_
        refine TL.callH (R := G.spec_l01Echelon.R) hr1 Try.call134 rfl rfl rfl (fun w hS => G.spec_l01Echelon.calls w p1 s1 ss1 rows1 ((RdM.old h1) w hS)) ?_
        rintro _ _ ⟨s2, ss2, rfl, rfl⟩
        refine TL.done ?_
        exact TC.nrm () [[s2], ss2] ⟨rfl, trivial⟩ [0] (by kernel_rfl)
      · intro g1
        refine TL.assign rfl rfl (v := .int .i64 (w64 (((gt rows1 0).length : Int) - 1))) rfl ?_
        refine TL.done ?_
        exact TC.nrm () [] ⟨rfl, trivial⟩ [0] (by kernel_rfl)
      · intro g1
        refine TL.assign rfl rfl (v := SV.v (gs (g1 56))) rfl ?_
        refine TL.done ?_
        exact TC.nrm () [] ⟨rfl, trivial⟩ [0] (by kernel_rfl)
    · intro g1
      refine TC.asL [mat Ei 2 22 (gs (g1 56)) (g1 57) r_1] (by kernel_rfl) ?_
      refine TC.seq ?_
      refine TC.seq ?_
      refine TC.region ?_
      refine TL.move rfl rfl (v := SV.v (gs (g1 56))) rfl ?_
      refine TL.lenM (RdM.mat 0 rfl) Try.underlying96 rfl rfl rfl ?_
      refine TL.move rfl rfl (v := .int .i64 (w64 (((gt rows1 0).length : Int) - 1))) rfl ?_
      refine TL.bin .i64 (r_1.length : Int) (w64 (((gt rows1 0).length : Int) - 1)) rfl rfl rfl rfl (v := .bool ((r_1.length : Int) != (w64 (((gt rows1 0).length : Int) - 1)))) rfl ?_
      refine TL.done ?_
      refine TC.cond (b := ((r_1.length : Int) != (w64 (((gt rows1 0).length : Int) - 1)))) rfl (fun c3 => ?_) (fun c4 => ?_)
      · refine TC.seq ?_
        refine TC.region ?_
        refine TL.assign rfl rfl (v := SV.v ⟨none, 0, 0⟩) rfl ?_
        refine TL.assign rfl rfl (v := .bool false) rfl ?_
        refine TL.done ?_
        refine TC.nilrow Ei 2 ?_
        exact TC.retF (Fin.body (fin2 (.inr rfl) rfl (.tmp rfl) (.tmp rfl) [0] rfl ⟨⟨none, 0, 0⟩, rfl, rfl⟩))
      · refine TC.skip ?_
        refine TC.seq ?_
        refine TC.region ?_
        refine TL.bslice0 Ei Try.underlying22 Try.sizeOf2 rfl rfl fun s3 => ?_
        refine TL.assign rfl rfl (v := SV.v s3) rfl ?_
        refine TL.done ?_
        refine TC.seq ?_
        refine TC.seq ?_
        refine TC.region ?_
        refine TL.assign rfl rfl (v := .int .i64 0) rfl ?_
        refine TL.done ?_
        refine TC.loopK (σ := (List Int) × Int) (γ := SV) (Γ' := (fun p q => match p, q with | (out1, i1), s4 => [(6, .int .i64 (w64 (((gt rows1 0).length : Int) - 1))), (7, SV.v (gs (g1 56))), (8, SV.v s4), (9, .int .i64 i1)])) (L' := (fun p q => match p, q with | (out1, i1), s4 => [mat Ei 2 22 (gs (g1 56)) (g1 57) r_1, row Ei 2 s4 out1])) (Γb := (fun p q => match p, q with | (out1, i1), s4 => [(6, .int .i64 (w64 (((gt rows1 0).length : Int) - 1))), (7, SV.v (gs (g1 56))), (8, SV.v s4), (9, .int .i64 i1)])) (Lb := (fun p q => match p, q with | (out1, i1), s4 => [mat Ei 2 22 (gs (g1 56)) (g1 57) r_1, row Ei 2 s4 out1])) ((([] : List Int), 0)) (s3) ⟨rfl, rfl, rfl, rfl, trivial⟩ [1, 0] rfl ?_ ?_
        · rintro ⟨out1, i1⟩ s4
          refine TC.seq ?_
          refine TC.seq ?_
          refine TC.region ?_
          refine TL.move rfl rfl (v := .int .i64 i1) rfl ?_
          refine TL.move rfl rfl (v := .int .i64 (w64 (((gt rows1 0).length : Int) - 1))) rfl ?_
          refine TL.bin .i64 i1 (w64 (((gt rows1 0).length : Int) - 1)) rfl rfl rfl rfl (v := .bool (decide (i1 < (w64 (((gt rows1 0).length : Int) - 1))))) rfl ?_
          refine TL.done ?_
          refine TC.cond (b := (decide (i1 < (w64 (((gt rows1 0).length : Int) - 1))))) rfl (fun c5 => ?_) (fun c6 => ?_)
          · refine TC.skip ?_
            refine TC.seq ?_
            refine TC.block (NoEx.loop rfl NoEx.body) ?_
            refine TC.seq ?_
            refine TC.seq ?_
            refine TC.region ?_
            refine TL.move rfl rfl (v := SV.v (gs (g1 56))) rfl ?_
            refine TL.move rfl rfl (v := .int .i64 i1) rfl ?_
            refine TL.chk fun h3 => ?_
            refine TL.ixsM i1 i1.toNat (RdM.mat 0 rfl) h3 Try.underlying96 Try.sizeOf22 rfl rfl rfl rfl (by omega) ?_
            refine TL.loadM2 (RdM.mat 0 rfl) Try.isAgg22 i1 h3 (by omega) rfl rfl rfl ?_
            refine TL.call (R := G.spec_l01Lead.R) Try.call135 rfl rfl rfl (fun w hS => G.spec_l01Lead.calls w (gt (g1 57) i1) (gt r_1 i1) ((RdM.inn (RdM.mat 0 rfl) h3) w hS)) ?_
            rintro r_2 _ _ ⟨rfl, rfl⟩
            refine TL.move rfl rfl (v := .int .i64 i1) rfl ?_
            refine TL.bin .i64 r_2 i1 rfl rfl rfl rfl (v := .bool (r_2 != i1)) rfl ?_
            refine TL.done ?_
            refine TC.cond (b := (r_2 != i1)) rfl (fun c7 => ?_) (fun c8 => ?_)
            · refine TC.seq ?_
              refine TC.region ?_
              refine TL.assign rfl rfl (v := SV.v ⟨none, 0, 0⟩) rfl ?_
              refine TL.assign rfl rfl (v := .bool false) rfl ?_
              refine TL.done ?_
              refine TC.nilrow Ei 2 ?_
              exact TC.retF (Fin.loop Far.ret (Fin.body (fin2 (.inr rfl) rfl (.tmp rfl) (.tmp rfl) [0] rfl ⟨⟨none, 0, 0⟩, rfl, rfl⟩)))
            · refine TC.skip ?_
              refine TC.region ?_
              refine TL.move rfl rfl (v := SV.v s4) rfl ?_
              refine TL.move rfl rfl (v := SV.v (gs (g1 56))) rfl ?_
              refine TL.move rfl rfl (v := .int .i64 i1) rfl ?_
              refine TL.ixsM i1 i1.toNat (RdM.mat 0 rfl) h3 Try.underlying96 Try.sizeOf22 rfl rfl rfl rfl (by omega) ?_
              refine TL.loadM2 (RdM.mat 0 rfl) Try.isAgg22 i1 h3 (by omega) rfl rfl rfl ?_
              refine TL.move rfl rfl (v := .int .i64 (w64 (((gt rows1 0).length : Int) - 1))) rfl ?_
              refine TL.chk fun h4 => ?_
              refine TL.ixs (w64 (((gt rows1 0).length : Int) - 1)) ((w64 (((gt rows1 0).length : Int) - 1)).toNat) (RdM.inn (RdM.mat 0 rfl) h3) h4 Try.underlying22 Try.sizeOf2 rfl rfl rfl rfl (by omega) ?_
              refine TL.loadE (RdM.inn (RdM.mat 0 rfl) h3) Try.isAgg2 (w64 (((gt rows1 0).length : Int) - 1)).toNat 0 (gt_spec h4) (v := .int .i64 (gt (gt r_1 i1) (w64 (((gt rows1 0).length : Int) - 1)))) rfl (by simp only [show Ei.sz = 1 from rfl] <;> omega) rfl rfl rfl ?_
              refine TL.blit Ei ([(gt (gt r_1 i1) (w64 (((gt rows1 0).length : Int) - 1)))] : List Int) Try.underlying22 Try.sizeOf2 Try.zeroValue2 rfl rfl rfl [(0, .int .i64 (gt (gt r_1 i1) (w64 (((gt rows1 0).length : Int) - 1))))] rfl ⟨rfl, rfl, trivial⟩ rfl rfl fun s5 => ?_
              refine TL.small fun h5 => ?_
              refine TL.append 2 rfl (Rd.row 0 rfl) Try.underlying22 (info_of Try.type2) (zv := (Try.t2.zero.getD (.bool false))) rfl rfl rfl (by decide) h5 rfl rfl rfl rfl fun s6 => ?_
              refine TL.assign rfl rfl (v := SV.v s6) rfl ?_
              refine TL.done ?_
              refine TC.region ?_
              refine TL.move rfl rfl (v := .int .i64 i1) rfl ?_
              refine TL.bin .i64 i1 1 rfl rfl rfl rfl (v := .int .i64 (w64 (i1 + 1))) rfl ?_
              refine TL.assign rfl rfl (v := .int .i64 (w64 (i1 + 1))) rfl ?_
              refine TL.done ?_
              exact TC.next (((out1 ++ ([(gt (gt r_1 i1) (w64 (((gt rows1 0).length : Int) - 1)))] : List Int)), (w64 (i1 + 1)))) (s6) ⟨rfl, rfl, rfl, rfl, trivial⟩ [1, 1] rfl
          · exact TC.brk ((out1, i1)) (s4) ⟨rfl, rfl, rfl, rfl, trivial⟩ [0, 0] rfl
        · rintro ⟨out1, i1⟩ s4
          refine TC.seq ?_
          refine TC.region ?_
          refine TL.move rfl rfl (v := SV.v s4) rfl ?_
          refine TL.assign rfl rfl (v := SV.v s4) rfl ?_
          refine TL.assign rfl rfl (v := .bool true) rfl ?_
          refine TL.done ?_
          exact TC.retF (Fin.body (fin2 (.inr rfl) rfl (.tmp rfl) (.tmp rfl) [1] rfl ⟨s4, rfl, rfl⟩))

end Go.Proofs.Ytjjfoofjipafiaa.G

/- spec.l01Times, as a pure function. -/
set_option linter.unusedVariables false
namespace Go.Proofs.Ytjjfoofjipafiaa.G
open Go Go.Sx Go.Proofs

def spec_l01Times.b0 (a_2 : Int) (i1 : Int) (k_1 : Int) (u1 : Nat → UInt8) (v_1 : Nat → UInt8) (a_3 : Nat → UInt8) : Int × Int → Option (LB (Int × Int)) := fun p => match p with | (sum2, j1) => (bif (decide (j1 < a_2)) then chk i1 6 (chk j1 6 (chk k_1 6 (some (.next ((w64 (sum2 + (w64 ((w64 (((u1 i1.toNat).toNat : Int) * ((v_1 j1.toNat).toNat : Int))) * ((a_3 (i1.toNat * 36 + j1.toNat * 6 + k_1.toNat)).toNat : Int))))), (w64 (j1 + 1))))))) else some (.brk (sum2, j1)))

def spec_l01Times.b1 (a_2 : Int) (k_1 : Int) (u1 : Nat → UInt8) (v_1 : Nat → UInt8) (a_3 : Nat → UInt8) : Int × Int → Option (LB (Int × Int)) := fun p => match p with | (sum1, i1) => (bif (decide (i1 < a_2)) then (loop1 (spec_l01Times.b0 a_2 i1 k_1 u1 v_1 a_3) (sum1, 0)).bind (fun p => match p with | (sum2, j1) => some (.next (sum2, (w64 (i1 + 1))))) else some (.brk (sum1, i1)))

def spec_l01Times.b2 (a_2 : Int) (u1 : Nat → UInt8) (v_1 : Nat → UInt8) (a_3 : Nat → UInt8) (a_1 : Int) : (Nat → UInt8) × Int → Option (LB ((Nat → UInt8) × Int)) := fun p => match p with | (out1, k_1) => (bif (decide (k_1 < a_2)) then (loop1 (spec_l01Times.b1 a_2 k_1 u1 v_1 a_3) (0, 0)).bind (fun p => match p with | (sum1, i1) => nz a_1 (chk k_1 6 (some (.next ((upd out1 k_1.toNat (UInt8.ofInt (Int.tmod sum1 a_1))), (w64 (k_1 + 1))))))) else some (.brk (out1, k_1)))

def spec_l01Times.f (a_1 : Int) (a_2 : Int) (a_3 : Nat → UInt8) (a_4 : Nat → UInt8) (u1 : Nat → UInt8) (v_1 : Nat → UInt8) : Option (Nat → UInt8) := (loop1 (spec_l01Times.b2 a_2 u1 v_1 a_3 a_1) ((fun _ => (0 : UInt8)), 0)).bind (fun p => match p with | (out1, k_1) => some out1)

def spec_l01Times.R (r : Nat → UInt8) (v : Value) (L : List Asn) : Prop := v = sval [.arr 6 (enf u8v r)] ∧ L = []

set_option maxRecDepth 100000 in
set_option maxHeartbeats 4000000 in
theorem spec_l01Times.calls (w : World) (a_1 : Int) (a_2 : Int) (a_3 : Nat → UInt8) (a_4 : Nat → UInt8) (u1 : Nat → UInt8) (v_1 : Nat → UInt8) :
    ∀ r, spec_l01Times.f a_1 a_2 a_3 a_4 u1 v_1 = some r → Calls Try.prog 120 #[sval [.one (.int .i64 a_1), .one (.int .i64 a_2), .arr 216 (enf u8v a_3), .arr 6 (enf u8v a_4)], sval [.arr 6 (enf u8v u1)], sval [.arr 6 (enf u8v v_1)]] w (Ret w (spec_l01Times.R r)) := by

  refine calls_T (n := 60) (Γ := [(0, sval [.one (.int .i64 a_1), .one (.int .i64 a_2), .arr 216 (enf u8v a_3), .arr 6 (enf u8v a_4)]), (1, sval [.arr 6 (enf u8v u1)]), (2, sval [.arr 6 (enf u8v v_1)])]) (R := spec_l01Times.R) Try.func120 rfl rfl (Nat.le_of_ble_eq_true rfl) ⟨rfl, rfl, rfl, trivial⟩ ?_
  unfold spec_l01Times.f
  refine TC.seq ?_
  refine TC.region ?_
  refine TL.box [.one (.int .i64 a_1), .one (.int .i64 a_2), .arr 216 (enf u8v a_3), .arr 6 (enf u8v a_4)] rfl rfl rfl rfl fun b_1 => ?_
  refine TL.box [.arr 6 (enf u8v u1)] rfl rfl rfl rfl fun b_2 => ?_
  refine TL.box [.arr 6 (enf u8v v_1)] rfl rfl rfl rfl fun b_3 => ?_
  refine TL.alloc [.arr 6 (enf u8v (fun _ => (0 : UInt8)))] rfl rfl Try.zeroValue58 rfl fun b_4 => ?_
  refine TL.done ?_
  refine TC.seq ?_
  refine TC.region ?_
  refine TL.buildA (segs0 := [.arr 6 (enf u8v (fun _ => (0 : UInt8)))]) (segs := [.arr 6 (enf u8v (fun _ => (0 : UInt8)))]) Try.underlying58 Try.sizeOf5 Try.zeroValue58 rfl [] rfl rfl rfl rfl ?_
  refine TL.alloc [.arr 6 (enf u8v (fun _ => (0 : UInt8)))] rfl rfl Try.zeroValue58 rfl fun b_5 => ?_
  refine TL.stM (news := [.arr 6 (enf u8v (fun _ => (0 : UInt8)))]) 0 0 1 rfl Try.sizeOf58 (ones_arr (fun _ => rfl) ones_nil) rfl rfl rfl rfl rfl rfl ?_
  refine TL.done ?_
  refine TC.seq ?_
  refine TC.seq ?_
  refine TC.region ?_
  refine TL.assign rfl rfl (v := .int .i64 0) rfl ?_
  refine TL.done ?_
  refine TC.loop1 (σ := (Nat → UInt8) × Int) (γ := Unit) (Γ' := (fun p q => match p, q with | (out1, k_1), _ => [(3, bp b_1 0), (4, bp b_2 0), (5, bp b_3 0), (6, bp b_4 0), (7, bp b_5 0), (8, .int .i64 k_1)])) (L' := (fun p q => match p, q with | (out1, k_1), _ => [box b_1 60 [.one (.int .i64 a_1), .one (.int .i64 a_2), .arr 216 (enf u8v a_3), .arr 6 (enf u8v a_4)], box b_2 58 [.arr 6 (enf u8v u1)], box b_3 58 [.arr 6 (enf u8v v_1)], box b_4 58 [.arr 6 (enf u8v (fun _ => (0 : UInt8)))], box b_5 58 [.arr 6 (enf u8v out1)]])) (Γb := (fun p q => match p, q with | (out1, k_1), _ => [(3, bp b_1 0), (4, bp b_2 0), (5, bp b_3 0), (6, bp b_4 0), (7, bp b_5 0), (8, .int .i64 k_1)])) (Lb := (fun p q => match p, q with | (out1, k_1), _ => [box b_1 60 [.one (.int .i64 a_1), .one (.int .i64 a_2), .arr 216 (enf u8v a_3), .arr 6 (enf u8v a_4)], box b_2 58 [.arr 6 (enf u8v u1)], box b_3 58 [.arr 6 (enf u8v v_1)], box b_4 58 [.arr 6 (enf u8v (fun _ => (0 : UInt8)))], box b_5 58 [.arr 6 (enf u8v out1)]])) (((fun _ => (0 : UInt8)), 0)) (()) ⟨rfl, rfl, rfl, rfl, rfl, rfl, trivial⟩ [4, 3, 2, 1, 0] rfl ?_ ?_
  · rintro ⟨out1, k_1⟩ _
    refine TC.seq ?_
    refine TC.seq ?_
    refine TC.region ?_
    refine TL.move rfl rfl (v := .int .i64 k_1) rfl ?_
    refine TL.fa Try.underlying60 rfl Try.sizeOf2 rfl 1 rfl rfl rfl rfl ?_
    refine TL.load1 1 (Src.box 0 rfl) Try.isAgg2 rfl rfl rfl rfl rfl ?_
    refine TL.bin .i64 k_1 a_2 rfl rfl rfl rfl (v := .bool (decide (k_1 < a_2))) rfl ?_
    refine TL.done ?_
    refine TC.cond (b := (decide (k_1 < a_2))) rfl (fun c1 => ?_) (fun c2 => ?_)
    · refine TC.skip ?_
      refine TC.seq ?_
      refine TC.block (NoEx.loop1 rfl) ?_
      refine TC.seq ?_
      refine TC.region ?_
      refine TL.assign rfl rfl (v := .int .i64 0) rfl ?_
      refine TL.done ?_
      refine TC.seq ?_
      refine TC.seq ?_
      refine TC.region ?_
      refine TL.assign rfl rfl (v := .int .i64 0) rfl ?_
      refine TL.done ?_
      refine TC.loop1 (σ := Int × Int) (γ := Unit) (Γ' := (fun p q => match p, q with | (sum1, i1), _ => [(3, bp b_1 0), (4, bp b_2 0), (5, bp b_3 0), (6, bp b_4 0), (7, bp b_5 0), (8, .int .i64 k_1), (9, .int .i64 sum1), (10, .int .i64 i1)])) (L' := (fun p q => match p, q with | (sum1, i1), _ => [box b_1 60 [.one (.int .i64 a_1), .one (.int .i64 a_2), .arr 216 (enf u8v a_3), .arr 6 (enf u8v a_4)], box b_2 58 [.arr 6 (enf u8v u1)], box b_3 58 [.arr 6 (enf u8v v_1)], box b_4 58 [.arr 6 (enf u8v (fun _ => (0 : UInt8)))], box b_5 58 [.arr 6 (enf u8v out1)]])) (Γb := (fun p q => match p, q with | (sum1, i1), _ => [(3, bp b_1 0), (4, bp b_2 0), (5, bp b_3 0), (6, bp b_4 0), (7, bp b_5 0), (8, .int .i64 k_1), (9, .int .i64 sum1), (10, .int .i64 i1)])) (Lb := (fun p q => match p, q with | (sum1, i1), _ => [box b_1 60 [.one (.int .i64 a_1), .one (.int .i64 a_2), .arr 216 (enf u8v a_3), .arr 6 (enf u8v a_4)], box b_2 58 [.arr 6 (enf u8v u1)], box b_3 58 [.arr 6 (enf u8v v_1)], box b_4 58 [.arr 6 (enf u8v (fun _ => (0 : UInt8)))], box b_5 58 [.arr 6 (enf u8v out1)]])) ((0, 0)) (()) ⟨rfl, rfl, rfl, rfl, rfl, rfl, rfl, rfl, trivial⟩ [0, 0, 0, 0, 0] rfl ?_ ?_
      · rintro ⟨sum1, i1⟩ _
        refine TC.seq ?_
        refine TC.seq ?_
        refine TC.region ?_
        refine TL.move rfl rfl (v := .int .i64 i1) rfl ?_
        refine TL.fa Try.underlying60 rfl Try.sizeOf2 rfl 1 rfl rfl rfl rfl ?_
        refine TL.load1 1 (Src.box 0 rfl) Try.isAgg2 rfl rfl rfl rfl rfl ?_
        refine TL.bin .i64 i1 a_2 rfl rfl rfl rfl (v := .bool (decide (i1 < a_2))) rfl ?_
        refine TL.done ?_
        refine TC.cond (b := (decide (i1 < a_2))) rfl (fun c3 => ?_) (fun c4 => ?_)
        · refine TC.skip ?_
          refine TC.seq ?_
          refine TC.block (NoEx.loop1 rfl) ?_
          refine TC.seq ?_
          refine TC.region ?_
          refine TL.assign rfl rfl (v := .int .i64 0) rfl ?_
          refine TL.done ?_
          refine TC.loop1 (σ := Int × Int) (γ := Unit) (Γ' := (fun p q => match p, q with | (sum2, j1), _ => [(3, bp b_1 0), (4, bp b_2 0), (5, bp b_3 0), (6, bp b_4 0), (7, bp b_5 0), (8, .int .i64 k_1), (9, .int .i64 sum2), (10, .int .i64 i1), (11, .int .i64 j1)])) (L' := (fun p q => match p, q with | (sum2, j1), _ => [box b_1 60 [.one (.int .i64 a_1), .one (.int .i64 a_2), .arr 216 (enf u8v a_3), .arr 6 (enf u8v a_4)], box b_2 58 [.arr 6 (enf u8v u1)], box b_3 58 [.arr 6 (enf u8v v_1)], box b_4 58 [.arr 6 (enf u8v (fun _ => (0 : UInt8)))], box b_5 58 [.arr 6 (enf u8v out1)]])) (Γb := (fun p q => match p, q with | (sum2, j1), _ => [(3, bp b_1 0), (4, bp b_2 0), (5, bp b_3 0), (6, bp b_4 0), (7, bp b_5 0), (8, .int .i64 k_1), (9, .int .i64 sum2), (10, .int .i64 i1), (11, .int .i64 j1)])) (Lb := (fun p q => match p, q with | (sum2, j1), _ => [box b_1 60 [.one (.int .i64 a_1), .one (.int .i64 a_2), .arr 216 (enf u8v a_3), .arr 6 (enf u8v a_4)], box b_2 58 [.arr 6 (enf u8v u1)], box b_3 58 [.arr 6 (enf u8v v_1)], box b_4 58 [.arr 6 (enf u8v (fun _ => (0 : UInt8)))], box b_5 58 [.arr 6 (enf u8v out1)]])) ((sum1, 0)) (()) ⟨rfl, rfl, rfl, rfl, rfl, rfl, rfl, rfl, rfl, trivial⟩ [0, 0, 0, 0, 0] rfl ?_ ?_
          · rintro ⟨sum2, j1⟩ _
            refine TC.seq ?_
            refine TC.seq ?_
            refine TC.region ?_
            refine TL.move rfl rfl (v := .int .i64 j1) rfl ?_
            refine TL.fa Try.underlying60 rfl Try.sizeOf2 rfl 1 rfl rfl rfl rfl ?_
            refine TL.load1 1 (Src.box 0 rfl) Try.isAgg2 rfl rfl rfl rfl rfl ?_
            refine TL.bin .i64 j1 a_2 rfl rfl rfl rfl (v := .bool (decide (j1 < a_2))) rfl ?_
            refine TL.done ?_
            refine TC.cond (b := (decide (j1 < a_2))) rfl (fun c5 => ?_) (fun c6 => ?_)
            · refine TC.skip ?_
              refine TC.seq ?_
              refine TC.block (NoEx.loop1 rfl) ?_
              refine TC.wk (Γ' := [(3, bp b_1 0), (4, bp b_2 0), (5, bp b_3 0), (6, bp b_4 0), (7, bp b_5 0), (8, .int .i64 k_1), (10, .int .i64 i1), (11, .int .i64 j1), (25, .int .i64 j1), (26, bp b_1 1), (27, .int .i64 a_2), (28, .bool (decide (j1 < a_2))), (9, .int .i64 sum2)]) ⟨rfl, rfl, rfl, rfl, rfl, rfl, rfl, rfl, rfl, rfl, rfl, rfl, rfl, trivial⟩ ?_
              refine TC.chk fun h1 => ?_
              refine TC.chk fun h2 => ?_
              refine TC.chk fun h3 => ?_
              refine TC.drawG [(3, bp b_1 0), (4, bp b_2 0), (5, bp b_3 0), (6, bp b_4 0), (7, bp b_5 0), (8, .int .i64 k_1), (10, .int .i64 i1), (11, .int .i64 j1), (25, .int .i64 j1), (26, bp b_1 1), (27, .int .i64 a_2), (28, .bool (decide (j1 < a_2)))] [(9, .int .i64 sum2, 21)] ⟨rfl, rfl, rfl, rfl, rfl, rfl, rfl, rfl, rfl, rfl, rfl, rfl, trivial⟩ ⟨rfl, trivial⟩ (fun l_ g1 => [box b_1 60 [.one (.int .i64 a_1), .one (.int .i64 a_2), .arr 216 (enf u8v a_3), .arr 6 (enf u8v a_4)], box b_2 58 [.arr 6 (enf u8v u1)], box b_3 58 [.arr 6 (enf u8v v_1)], box b_4 58 [.arr 6 (enf u8v (fun _ => (0 : UInt8)))], box b_5 58 [.arr 6 (enf u8v out1)]]) (fun g1 => [.int .i64 sum2, .int .i64 i1, bp b_2 i1.toNat, u8v (u1 i1.toNat), .int .i64 ((u1 i1.toNat).toNat : Int), .int .i64 j1, bp b_3 j1.toNat, u8v (v_1 j1.toNat), .int .i64 ((v_1 j1.toNat).toNat : Int), .int .i64 (w64 (((u1 i1.toNat).toNat : Int) * ((v_1 j1.toNat).toNat : Int))), .int .i64 i1, .int .i64 j1, .int .i64 k_1, bp b_1 2, bp b_1 (2 + i1.toNat * 36), bp b_1 (2 + (i1.toNat * 36 + j1.toNat * 6)), bp b_1 (2 + (i1.toNat * 36 + j1.toNat * 6 + k_1.toNat)), u8v (a_3 (i1.toNat * 36 + j1.toNat * 6 + k_1.toNat)), .int .i64 ((a_3 (i1.toNat * 36 + j1.toNat * 6 + k_1.toNat)).toNat : Int), .int .i64 (w64 ((w64 (((u1 i1.toNat).toNat : Int) * ((v_1 j1.toNat).toNat : Int))) * ((a_3 (i1.toNat * 36 + j1.toNat * 6 + k_1.toNat)).toNat : Int))), .int .i64 (w64 (sum2 + (w64 ((w64 (((u1 i1.toNat).toNat : Int) * ((v_1 j1.toNat).toNat : Int))) * ((a_3 (i1.toNat * 36 + j1.toNat * 6 + k_1.toNat)).toNat : Int))))), .int .i64 (w64 (sum2 + (w64 ((w64 (((u1 i1.toNat).toNat : Int) * ((v_1 j1.toNat).toNat : Int))) * ((a_3 (i1.toNat * 36 + j1.toNat * 6 + k_1.toNat)).toNat : Int)))))]) [[], [], [1], [1, 2], [1, 2, 3], [], [5], [5, 6], [5, 6, 7], [1, 2, 3, 4, 5, 6, 7, 8], [], [], [], [], [10, 13], [10, 11, 13, 14], [10, 11, 12, 13, 14, 15], [10, 11, 12, 13, 14, 15, 16], [10, 11, 12, 13, 14, 15, 16, 17], [1, 2, 3, 4, 5, 6, 7, 8, 9, 10, 11, 12, 13, 14, 15, 16, 17, 18], [0, 1, 2, 3, 4, 5, 6, 7, 8, 9, 10, 11, 12, 13, 14, 15, 16, 17, 18, 19], [0, 1, 2, 3, 4, 5, 6, 7, 8, 9, 10, 11, 12, 13, 14, 15, 16, 17, 18, 19, 20]] [[some false, none, none, none, none, none, none, none, none, none, none, none, none, none, none, none, none, none, none, none, some false, some false], [none, some false, some false, some false, some false, none, none, none, none, some false, none, none, none, none, none, none, none, none, none, some false, some false, some false], [none, some true, some false, some false, some false, none, none, none, none, some false, none, none, none, none, none, none, none, none, none, some false, some false, some false], [none, some true, some true, some false, some false, none, none, none, none, some false, none, none, none, none, none, none, none, none, none, some false, some false, some false], [none, some true, some true, some true, some false, none, none, none, none, some false, none, none, none, none, none, none, none, none, none, some false, some false, some false], [none, none, none, none, none, some false, some false, some false, some false, some false, none, none, none, none, none, none, none, none, none, some false, some false, some false], [none, none, none, none, none, some true, some false, some false, some false, some false, none, none, none, none, none, none, none, none, none, some false, some false, some false], [none, none, none, none, none, some true, some true, some false, some false, some false, none, none, none, none, none, none, none, none, none, some false, some false, some false], [none, none, none, none, none, some true, some true, some true, some false, some false, none, none, none, none, none, none, none, none, none, some false, some false, some false], [none, some true, some true, some true, some true, some true, some true, some true, some true, some false, none, none, none, none, none, none, none, none, none, some false, some false, some false], [none, none, none, none, none, none, none, none, none, none, some false, none, none, none, some false, some false, some false, some false, some false, some false, some false, some false], [none, none, none, none, none, none, none, none, none, none, none, some false, none, none, none, some false, some false, some false, some false, some false, some false, some false], [none, none, none, none, none, none, none, none, none, none, none, none, some false, none, none, none, some false, some false, some false, some false, some false, some false], [none, none, none, none, none, none, none, none, none, none, none, none, none, some false, some false, some false, some false, some false, some false, some false, some false, some false], [none, none, none, none, none, none, none, none, none, none, some true, none, none, some true, some false, some false, some false, some false, some false, some false, some false, some false], [none, none, none, none, none, none, none, none, none, none, some true, some true, none, some true, some true, some false, some false, some false, some false, some false, some false, some false], [none, none, none, none, none, none, none, none, none, none, some true, some true, some true, some true, some true, some true, some false, some false, some false, some false, some false, some false], [none, none, none, none, none, none, none, none, none, none, some true, some true, some true, some true, some true, some true, some true, some false, some false, some false, some false, some false], [none, none, none, none, none, none, none, none, none, none, some true, some true, some true, some true, some true, some true, some true, some true, some false, some false, some false, some false], [none, some true, some true, some true, some true, some true, some true, some true, some true, some true, some true, some true, some true, some true, some true, some true, some true, some true, some true, some false, some false, some false], [some true, some true, some true, some true, some true, some true, some true, some true, some true, some true, some true, some true, some true, some true, some true, some true, some true, some true, some true, some true, some false, some false], [some true, some true, some true, some true, some true, some true, some true, some true, some true, some true, some true, some true, some true, some true, some true, some true, some true, some true, some true, some true, some true, some false]] (by kernel_rfl) (fun _ => rfl) rfl rfl rfl rfl rfl (fun _ _ => ⟨⟨⟨⟨⟨⟨⟨⟨⟨⟨⟨⟨⟨⟨⟨⟨⟨⟨⟨⟨⟨⟨trivial, rfl⟩, rfl⟩, rfl⟩, rfl⟩, rfl⟩, rfl⟩, rfl⟩, rfl⟩, rfl⟩, rfl⟩, rfl⟩, rfl⟩, rfl⟩, rfl⟩, rfl⟩, rfl⟩, rfl⟩, rfl⟩, rfl⟩, rfl⟩, rfl⟩, rfl⟩) 0 [0, 0, 0, 0, 0] (fun _ => by kernel_rfl) ?_ ?_
              · refine ⟨rfl, ?_, rfl, ?_, rfl, ?_, rfl, ?_, rfl, ?_, rfl, ?_, rfl, ?_, rfl, ?_, rfl, ?_, rfl, ?_, rfl, ?_, rfl, ?_, rfl, ?_, rfl, ?_, rfl, ?_, rfl, ?_, rfl, ?_, rfl, ?_, rfl, ?_, rfl, ?_, rfl, ?_, rfl, ?_, trivial⟩
                · intro b1_ b2_ b3_ b4_ b5_ b6_ b7_ b8_ b9_ b10_ b11_ b12_ b13_ b14_ b15_ b16_ b17_ b18_ b19_ g1
                  refine TL.move rfl rfl (v := .int .i64 sum2) rfl ?_
                  refine TL.done ?_
                  exact TC.nrm () [] ⟨rfl, trivial⟩ [0, 0, 0, 0, 0] (by kernel_rfl)
                · intro b0_ b5_ b6_ b7_ b8_ b10_ b11_ b12_ b13_ b14_ b15_ b16_ b17_ b18_ g1
                  refine TL.move rfl rfl (v := .int .i64 i1) rfl ?_
                  refine TL.done ?_
                  exact TC.nrm () [] ⟨rfl, trivial⟩ [0, 0, 0, 0, 0] (by kernel_rfl)
                · intro b0_ b5_ b6_ b7_ b8_ b10_ b11_ b12_ b13_ b14_ b15_ b16_ b17_ b18_ g1
                  refine TL.asL [box b_1 60 [.one (.int .i64 a_1), .one (.int .i64 a_2), .arr 216 (enf u8v a_3), .arr 6 (enf u8v a_4)], box b_2 58 [.arr 6 (enf u8v u1)], box b_3 58 [.arr 6 (enf u8v v_1)], box b_4 58 [.arr 6 (enf u8v (fun _ => (0 : UInt8)))], box b_5 58 [.arr 6 (enf u8v out1)]] (by kernel_rfl) ?_
                  refine TL.ixa i1 i1.toNat h1 Try.underlying58 Try.sizeOf5 rfl rfl rfl rfl (by omega) ?_
                  refine TL.done ?_
                  exact TC.nrm () [] ⟨rfl, trivial⟩ [0, 0, 0, 0, 0] (by kernel_rfl)
                · intro b0_ b5_ b6_ b7_ b8_ b10_ b11_ b12_ b13_ b14_ b15_ b16_ b17_ b18_ g1
                  refine TL.asL [box b_1 60 [.one (.int .i64 a_1), .one (.int .i64 a_2), .arr 216 (enf u8v a_3), .arr 6 (enf u8v a_4)], box b_2 58 [.arr 6 (enf u8v u1)], box b_3 58 [.arr 6 (enf u8v v_1)], box b_4 58 [.arr 6 (enf u8v (fun _ => (0 : UInt8)))], box b_5 58 [.arr 6 (enf u8v out1)]] (by kernel_rfl) ?_
                  refine TL.loadA i1.toNat 0 (Src.box 1 rfl) Try.isAgg5 rfl (by omega) (v := u8v (u1 i1.toNat)) rfl (st := 0) rfl (by omega) rfl rfl rfl ?_
                  refine TL.done ?_
                  exact TC.nrm () [] ⟨rfl, trivial⟩ [0, 0, 0, 0, 0] (by kernel_rfl)
                · intro b0_ b5_ b6_ b7_ b8_ b10_ b11_ b12_ b13_ b14_ b15_ b16_ b17_ b18_ g1
                  refine TL.conv .u8 .i64 ((u1 i1.toNat).toNat : Int) _ rfl rfl rfl Try.underlying5 Try.underlying2 (v := .int .i64 ((u1 i1.toNat).toNat : Int)) (conv_u8_i64 _) ?_
                  refine TL.done ?_
                  exact TC.nrm () [] ⟨rfl, trivial⟩ [0, 0, 0, 0, 0] (by kernel_rfl)
                · intro b0_ b1_ b2_ b3_ b4_ b10_ b11_ b12_ b13_ b14_ b15_ b16_ b17_ b18_ g1
                  refine TL.move rfl rfl (v := .int .i64 j1) rfl ?_
                  refine TL.done ?_
                  exact TC.nrm () [] ⟨rfl, trivial⟩ [0, 0, 0, 0, 0] (by kernel_rfl)
                · intro b0_ b1_ b2_ b3_ b4_ b10_ b11_ b12_ b13_ b14_ b15_ b16_ b17_ b18_ g1
                  refine TL.asL [box b_1 60 [.one (.int .i64 a_1), .one (.int .i64 a_2), .arr 216 (enf u8v a_3), .arr 6 (enf u8v a_4)], box b_2 58 [.arr 6 (enf u8v u1)], box b_3 58 [.arr 6 (enf u8v v_1)], box b_4 58 [.arr 6 (enf u8v (fun _ => (0 : UInt8)))], box b_5 58 [.arr 6 (enf u8v out1)]] (by kernel_rfl) ?_
                  refine TL.ixa j1 j1.toNat h2 Try.underlying58 Try.sizeOf5 rfl rfl rfl rfl (by omega) ?_
                  refine TL.done ?_
                  exact TC.nrm () [] ⟨rfl, trivial⟩ [0, 0, 0, 0, 0] (by kernel_rfl)
                · intro b0_ b1_ b2_ b3_ b4_ b10_ b11_ b12_ b13_ b14_ b15_ b16_ b17_ b18_ g1
                  refine TL.asL [box b_1 60 [.one (.int .i64 a_1), .one (.int .i64 a_2), .arr 216 (enf u8v a_3), .arr 6 (enf u8v a_4)], box b_2 58 [.arr 6 (enf u8v u1)], box b_3 58 [.arr 6 (enf u8v v_1)], box b_4 58 [.arr 6 (enf u8v (fun _ => (0 : UInt8)))], box b_5 58 [.arr 6 (enf u8v out1)]] (by kernel_rfl) ?_
                  refine TL.loadA j1.toNat 0 (Src.box 2 rfl) Try.isAgg5 rfl (by omega) (v := u8v (v_1 j1.toNat)) rfl (st := 0) rfl (by omega) rfl rfl rfl ?_
                  refine TL.done ?_
                  exact TC.nrm () [] ⟨rfl, trivial⟩ [0, 0, 0, 0, 0] (by kernel_rfl)
                · intro b0_ b1_ b2_ b3_ b4_ b10_ b11_ b12_ b13_ b14_ b15_ b16_ b17_ b18_ g1
                  refine TL.conv .u8 .i64 ((v_1 j1.toNat).toNat : Int) _ rfl rfl rfl Try.underlying5 Try.underlying2 (v := .int .i64 ((v_1 j1.toNat).toNat : Int)) (conv_u8_i64 _) ?_
                  refine TL.done ?_
                  exact TC.nrm () [] ⟨rfl, trivial⟩ [0, 0, 0, 0, 0] (by kernel_rfl)
                · intro b0_ b10_ b11_ b12_ b13_ b14_ b15_ b16_ b17_ b18_ g1
                  refine TL.bin .i64 ((u1 i1.toNat).toNat : Int) ((v_1 j1.toNat).toNat : Int) rfl rfl rfl rfl (v := .int .i64 (w64 (((u1 i1.toNat).toNat : Int) * ((v_1 j1.toNat).toNat : Int)))) rfl ?_
                  refine TL.done ?_
                  exact TC.nrm () [] ⟨rfl, trivial⟩ [0, 0, 0, 0, 0] (by kernel_rfl)
                · intro b0_ b1_ b2_ b3_ b4_ b5_ b6_ b7_ b8_ b9_ b11_ b12_ b13_ g1
                  refine TL.move rfl rfl (v := .int .i64 i1) rfl ?_
                  refine TL.done ?_
                  exact TC.nrm () [] ⟨rfl, trivial⟩ [0, 0, 0, 0, 0] (by kernel_rfl)
                · intro b0_ b1_ b2_ b3_ b4_ b5_ b6_ b7_ b8_ b9_ b10_ b12_ b13_ b14_ g1
                  refine TL.move rfl rfl (v := .int .i64 j1) rfl ?_
                  refine TL.done ?_
                  exact TC.nrm () [] ⟨rfl, trivial⟩ [0, 0, 0, 0, 0] (by kernel_rfl)
                · intro b0_ b1_ b2_ b3_ b4_ b5_ b6_ b7_ b8_ b9_ b10_ b11_ b13_ b14_ b15_ g1
                  refine TL.move rfl rfl (v := .int .i64 k_1) rfl ?_
                  refine TL.done ?_
                  exact TC.nrm () [] ⟨rfl, trivial⟩ [0, 0, 0, 0, 0] (by kernel_rfl)
                · intro b0_ b1_ b2_ b3_ b4_ b5_ b6_ b7_ b8_ b9_ b10_ b11_ b12_ g1
                  refine TL.asL [box b_1 60 [.one (.int .i64 a_1), .one (.int .i64 a_2), .arr 216 (enf u8v a_3), .arr 6 (enf u8v a_4)], box b_2 58 [.arr 6 (enf u8v u1)], box b_3 58 [.arr 6 (enf u8v v_1)], box b_4 58 [.arr 6 (enf u8v (fun _ => (0 : UInt8)))], box b_5 58 [.arr 6 (enf u8v out1)]] (by kernel_rfl) ?_
                  refine TL.fa Try.underlying60 rfl Try.sizeOf57 rfl 2 rfl rfl rfl rfl ?_
                  refine TL.done ?_
                  exact TC.nrm () [] ⟨rfl, trivial⟩ [0, 0, 0, 0, 0] (by kernel_rfl)
                · intro b0_ b1_ b2_ b3_ b4_ b5_ b6_ b7_ b8_ b9_ b11_ b12_ g1
                  refine TL.asL [box b_1 60 [.one (.int .i64 a_1), .one (.int .i64 a_2), .arr 216 (enf u8v a_3), .arr 6 (enf u8v a_4)], box b_2 58 [.arr 6 (enf u8v u1)], box b_3 58 [.arr 6 (enf u8v v_1)], box b_4 58 [.arr 6 (enf u8v (fun _ => (0 : UInt8)))], box b_5 58 [.arr 6 (enf u8v out1)]] (by kernel_rfl) ?_
                  refine TL.ixa i1 (2 + i1.toNat * 36) h1 Try.underlying57 Try.sizeOf56 rfl rfl rfl rfl (by omega) ?_
                  refine TL.done ?_
                  exact TC.nrm () [] ⟨rfl, trivial⟩ [0, 0, 0, 0, 0] (by kernel_rfl)
                · intro b0_ b1_ b2_ b3_ b4_ b5_ b6_ b7_ b8_ b9_ b12_ g1
                  refine TL.asL [box b_1 60 [.one (.int .i64 a_1), .one (.int .i64 a_2), .arr 216 (enf u8v a_3), .arr 6 (enf u8v a_4)], box b_2 58 [.arr 6 (enf u8v u1)], box b_3 58 [.arr 6 (enf u8v v_1)], box b_4 58 [.arr 6 (enf u8v (fun _ => (0 : UInt8)))], box b_5 58 [.arr 6 (enf u8v out1)]] (by kernel_rfl) ?_
                  refine TL.ixa j1 (2 + (i1.toNat * 36 + j1.toNat * 6)) h2 Try.underlying56 Try.sizeOf55 rfl rfl rfl rfl (by omega) ?_
                  refine TL.done ?_
                  exact TC.nrm () [] ⟨rfl, trivial⟩ [0, 0, 0, 0, 0] (by kernel_rfl)
                · intro b0_ b1_ b2_ b3_ b4_ b5_ b6_ b7_ b8_ b9_ g1
                  refine TL.asL [box b_1 60 [.one (.int .i64 a_1), .one (.int .i64 a_2), .arr 216 (enf u8v a_3), .arr 6 (enf u8v a_4)], box b_2 58 [.arr 6 (enf u8v u1)], box b_3 58 [.arr 6 (enf u8v v_1)], box b_4 58 [.arr 6 (enf u8v (fun _ => (0 : UInt8)))], box b_5 58 [.arr 6 (enf u8v out1)]] (by kernel_rfl) ?_
                  refine TL.ixa k_1 (2 + (i1.toNat * 36 + j1.toNat * 6 + k_1.toNat)) h3 Try.underlying55 Try.sizeOf5 rfl rfl rfl rfl (by omega) ?_
                  refine TL.done ?_
                  exact TC.nrm () [] ⟨rfl, trivial⟩ [0, 0, 0, 0, 0] (by kernel_rfl)
                · intro b0_ b1_ b2_ b3_ b4_ b5_ b6_ b7_ b8_ b9_ g1
                  refine TL.asL [box b_1 60 [.one (.int .i64 a_1), .one (.int .i64 a_2), .arr 216 (enf u8v a_3), .arr 6 (enf u8v a_4)], box b_2 58 [.arr 6 (enf u8v u1)], box b_3 58 [.arr 6 (enf u8v v_1)], box b_4 58 [.arr 6 (enf u8v (fun _ => (0 : UInt8)))], box b_5 58 [.arr 6 (enf u8v out1)]] (by kernel_rfl) ?_
                  refine TL.loadA (i1.toNat * 36 + j1.toNat * 6 + k_1.toNat) 2 (Src.box 0 rfl) Try.isAgg5 rfl (by omega) (v := u8v (a_3 (i1.toNat * 36 + j1.toNat * 6 + k_1.toNat))) rfl (st := 2) rfl (by omega) rfl rfl rfl ?_
                  refine TL.done ?_
                  exact TC.nrm () [] ⟨rfl, trivial⟩ [0, 0, 0, 0, 0] (by kernel_rfl)
                · intro b0_ b1_ b2_ b3_ b4_ b5_ b6_ b7_ b8_ b9_ g1
                  refine TL.conv .u8 .i64 ((a_3 (i1.toNat * 36 + j1.toNat * 6 + k_1.toNat)).toNat : Int) _ rfl rfl rfl Try.underlying5 Try.underlying2 (v := .int .i64 ((a_3 (i1.toNat * 36 + j1.toNat * 6 + k_1.toNat)).toNat : Int)) (conv_u8_i64 _) ?_
                  refine TL.done ?_
                  exact TC.nrm () [] ⟨rfl, trivial⟩ [0, 0, 0, 0, 0] (by kernel_rfl)
                · intro b0_ g1
                  refine TL.bin .i64 (w64 (((u1 i1.toNat).toNat : Int) * ((v_1 j1.toNat).toNat : Int))) ((a_3 (i1.toNat * 36 + j1.toNat * 6 + k_1.toNat)).toNat : Int) rfl rfl rfl rfl (v := .int .i64 (w64 ((w64 (((u1 i1.toNat).toNat : Int) * ((v_1 j1.toNat).toNat : Int))) * ((a_3 (i1.toNat * 36 + j1.toNat * 6 + k_1.toNat)).toNat : Int)))) rfl ?_
                  refine TL.done ?_
                  exact TC.nrm () [] ⟨rfl, trivial⟩ [0, 0, 0, 0, 0] (by kernel_rfl)
                · intro g1
                  refine TL.bin .i64 sum2 (w64 ((w64 (((u1 i1.toNat).toNat : Int) * ((v_1 j1.toNat).toNat : Int))) * ((a_3 (i1.toNat * 36 + j1.toNat * 6 + k_1.toNat)).toNat : Int))) rfl rfl rfl rfl (v := .int .i64 (w64 (sum2 + (w64 ((w64 (((u1 i1.toNat).toNat : Int) * ((v_1 j1.toNat).toNat : Int))) * ((a_3 (i1.toNat * 36 + j1.toNat * 6 + k_1.toNat)).toNat : Int)))))) rfl ?_
                  refine TL.done ?_
                  exact TC.nrm () [] ⟨rfl, trivial⟩ [0, 0, 0, 0, 0] (by kernel_rfl)
                · intro g1
                  refine TL.assign rfl rfl (v := .int .i64 (w64 (sum2 + (w64 ((w64 (((u1 i1.toNat).toNat : Int) * ((v_1 j1.toNat).toNat : Int))) * ((a_3 (i1.toNat * 36 + j1.toNat * 6 + k_1.toNat)).toNat : Int)))))) rfl ?_
                  refine TL.done ?_
                  exact TC.nrm () [] ⟨rfl, trivial⟩ [0, 0, 0, 0, 0] (by kernel_rfl)
              · intro g1
                refine TC.asL [box b_1 60 [.one (.int .i64 a_1), .one (.int .i64 a_2), .arr 216 (enf u8v a_3), .arr 6 (enf u8v a_4)], box b_2 58 [.arr 6 (enf u8v u1)], box b_3 58 [.arr 6 (enf u8v v_1)], box b_4 58 [.arr 6 (enf u8v (fun _ => (0 : UInt8)))], box b_5 58 [.arr 6 (enf u8v out1)]] (by kernel_rfl) ?_
                refine TC.region ?_
                refine TL.move rfl rfl (v := .int .i64 j1) rfl ?_
                refine TL.bin .i64 j1 1 rfl rfl rfl rfl (v := .int .i64 (w64 (j1 + 1))) rfl ?_
                refine TL.assign rfl rfl (v := .int .i64 (w64 (j1 + 1))) rfl ?_
                refine TL.done ?_
                exact TC.next1 (((w64 (sum2 + (w64 ((w64 (((u1 i1.toNat).toNat : Int) * ((v_1 j1.toNat).toNat : Int))) * ((a_3 (i1.toNat * 36 + j1.toNat * 6 + k_1.toNat)).toNat : Int))))), (w64 (j1 + 1)))) (()) ⟨rfl, rfl, rfl, rfl, rfl, rfl, rfl, rfl, rfl, trivial⟩ [0, 0, 0, 0, 0] rfl
            · exact TC.brk1 ((sum2, j1)) (()) ⟨rfl, rfl, rfl, rfl, rfl, rfl, rfl, rfl, rfl, trivial⟩ [0, 0, 0, 0, 0] rfl
          · rintro ⟨sum2, j1⟩ _
            refine TC.region ?_
            refine TL.move rfl rfl (v := .int .i64 i1) rfl ?_
            refine TL.bin .i64 i1 1 rfl rfl rfl rfl (v := .int .i64 (w64 (i1 + 1))) rfl ?_
            refine TL.assign rfl rfl (v := .int .i64 (w64 (i1 + 1))) rfl ?_
            refine TL.done ?_
            exact TC.next1 ((sum2, (w64 (i1 + 1)))) (()) ⟨rfl, rfl, rfl, rfl, rfl, rfl, rfl, rfl, trivial⟩ [0, 0, 0, 0, 0] rfl
        · exact TC.brk1 ((sum1, i1)) (()) ⟨rfl, rfl, rfl, rfl, rfl, rfl, rfl, rfl, trivial⟩ [0, 0, 0, 0, 0] rfl
      · rintro ⟨sum1, i1⟩ _
        refine TC.region ?_
        refine TL.move rfl rfl (v := .int .i64 k_1) rfl ?_
        refine TL.move rfl rfl (v := .int .i64 sum1) rfl ?_
        refine TL.fa Try.underlying60 rfl Try.sizeOf2 rfl 0 rfl rfl rfl rfl ?_
        refine TL.load1 0 (Src.box 0 rfl) Try.isAgg2 rfl rfl rfl rfl rfl ?_
        refine TL.nz fun z1 => ?_
        refine TL.rem .i64 sum1 a_1 z1 rfl rfl rfl rfl ?_
        refine TL.conv .i64 .u8 (Int.tmod sum1 a_1) _ rfl rfl rfl Try.underlying2 Try.underlying5 (v := u8v (UInt8.ofInt (Int.tmod sum1 a_1))) (conv_i64_u8 _) ?_
        refine TL.chk fun h4 => ?_
        refine TL.ixa k_1 k_1.toNat h4 Try.underlying58 Try.sizeOf5 rfl rfl rfl rfl (by omega) ?_
        refine TL.stA (e := u8v) (z := (UInt8.ofInt (Int.tmod sum1 a_1))) 4 0 k_1.toNat rfl Try.sizeOf5 rfl (by omega) (s := 0) rfl (by omega) rfl rfl rfl rfl rfl ?_
        refine TL.done ?_
        refine TC.region ?_
        refine TL.move rfl rfl (v := .int .i64 k_1) rfl ?_
        refine TL.bin .i64 k_1 1 rfl rfl rfl rfl (v := .int .i64 (w64 (k_1 + 1))) rfl ?_
        refine TL.assign rfl rfl (v := .int .i64 (w64 (k_1 + 1))) rfl ?_
        refine TL.done ?_
        exact TC.next1 (((upd out1 k_1.toNat (UInt8.ofInt (Int.tmod sum1 a_1))), (w64 (k_1 + 1)))) (()) ⟨rfl, rfl, rfl, rfl, rfl, rfl, trivial⟩ [0, 0, 0, 0, 0] rfl
    · exact TC.brk1 ((out1, k_1)) (()) ⟨rfl, rfl, rfl, rfl, rfl, rfl, trivial⟩ [0, 0, 0, 0, 0] rfl
  · rintro ⟨out1, k_1⟩ _
    refine TC.seq ?_
    refine TC.region ?_
    refine TL.loadM 0 1 (Src.box 4 rfl) Try.isAgg58 Try.sizeOf58 (mid := [.arr 6 (enf u8v out1)]) rfl rfl rfl rfl rfl rfl ?_
    refine TL.stM (news := [.arr 6 (enf u8v out1)]) 3 0 1 rfl Try.sizeOf58 (ones_arr (fun _ => rfl) ones_nil) rfl rfl rfl rfl rfl rfl ?_
    refine TL.done ?_
    exact TC.retF (Fin.body (fin1 (.inr rfl) rfl (.cellN rfl (Src.box 3 rfl) Try.isAgg58 Try.sizeOf58 rfl) [] rfl ⟨rfl, rfl⟩))

end Go.Proofs.Ytjjfoofjipafiaa.G

/- spec.l01Basis, as a pure function. -/
set_option linter.unusedVariables false
namespace Go.Proofs.Ytjjfoofjipafiaa.G
open Go Go.Sx Go.Proofs

def spec_l01Basis.f (i1 : Int) : Option (Nat → UInt8) := chk i1 6 (some (upd (fun _ => (0 : UInt8)) i1.toNat (1 : UInt8)))

def spec_l01Basis.R (r : Nat → UInt8) (v : Value) (L : List Asn) : Prop := v = sval [.arr 6 (enf u8v r)] ∧ L = []

set_option maxRecDepth 100000 in
set_option maxHeartbeats 4000000 in
theorem spec_l01Basis.calls (w : World) (i1 : Int) :
    ∀ r, spec_l01Basis.f i1 = some r → Calls Try.prog 121 #[.int .i64 i1] w (Ret w (spec_l01Basis.R r)) := by

  refine calls_T (n := 8) (Γ := [(0, .int .i64 i1)]) (R := spec_l01Basis.R) Try.func121 rfl rfl (Nat.le_of_ble_eq_true rfl) ⟨rfl, trivial⟩ ?_
  unfold spec_l01Basis.f
  refine TC.seq ?_
  refine TC.region ?_
  refine TL.alloc [.arr 6 (enf u8v (fun _ => (0 : UInt8)))] rfl rfl Try.zeroValue58 rfl fun b_1 => ?_
  refine TL.done ?_
  refine TC.seq ?_
  refine TC.region ?_
  refine TL.buildA (segs0 := [.arr 6 (enf u8v (fun _ => (0 : UInt8)))]) (segs := [.arr 6 (enf u8v (fun _ => (0 : UInt8)))]) Try.underlying58 Try.sizeOf5 Try.zeroValue58 rfl [] rfl rfl rfl rfl ?_
  refine TL.alloc [.arr 6 (enf u8v (fun _ => (0 : UInt8)))] rfl rfl Try.zeroValue58 rfl fun b_2 => ?_
  refine TL.stM (news := [.arr 6 (enf u8v (fun _ => (0 : UInt8)))]) 0 0 1 rfl Try.sizeOf58 (ones_arr (fun _ => rfl) ones_nil) rfl rfl rfl rfl rfl rfl ?_
  refine TL.done ?_
  refine TC.seq ?_
  refine TC.region ?_
  refine TL.move rfl rfl (v := .int .i64 i1) rfl ?_
  refine TL.chk fun h1 => ?_
  refine TL.ixa i1 i1.toNat h1 Try.underlying58 Try.sizeOf5 rfl rfl rfl rfl (by omega) ?_
  refine TL.stA (e := u8v) (z := (1 : UInt8)) 0 0 i1.toNat rfl Try.sizeOf5 rfl (by omega) (s := 0) rfl (by omega) rfl rfl rfl rfl rfl ?_
  refine TL.done ?_
  refine TC.seq ?_
  refine TC.region ?_
  refine TL.loadM 0 1 (Src.box 0 rfl) Try.isAgg58 Try.sizeOf58 (mid := [.arr 6 (enf u8v (upd (fun _ => (0 : UInt8)) i1.toNat (1 : UInt8)))]) rfl rfl rfl rfl rfl rfl ?_
  refine TL.stM (news := [.arr 6 (enf u8v (upd (fun _ => (0 : UInt8)) i1.toNat (1 : UInt8)))]) 1 0 1 rfl Try.sizeOf58 (ones_arr (fun _ => rfl) ones_nil) rfl rfl rfl rfl rfl rfl ?_
  refine TL.done ?_
  exact TC.retF (Fin.body (fin1 (.inr rfl) rfl (.cellN rfl (Src.box 1 rfl) Try.isAgg58 Try.sizeOf58 rfl) [] rfl ⟨rfl, rfl⟩))

end Go.Proofs.Ytjjfoofjipafiaa.G

/- spec.l01Find, as a pure function. -/
set_option linter.unusedVariables false
namespace Go.Proofs.Ytjjfoofjipafiaa.G
open Go Go.Sx Go.Proofs

def spec_l01Find.b0 (x2 : Int) (x6 : Int) (x8 : Int) (x3 : Nat → UInt8) : (List Int) × Int → Option (LB ((List Int) × Int)) := fun p => match p with | (x9, x10) => (bif (decide (x10 < x2)) then chk x10 6 (chk x6 6 (chk x8 6 (small (x9.length + ([((x3 (x10.toNat * 36 + x6.toNat * 6 + x8.toNat)).toNat : Int)] : List Int).length) (some (.next ((x9 ++ ([((x3 (x10.toNat * 36 + x6.toNat * 6 + x8.toNat)).toNat : Int)] : List Int)), (w64 (x10 + 1)))))))) else some (.brk (x9, x10)))

def spec_l01Find.b1 (x2 : Int) (x6 : Int) (x3 : Nat → UInt8) : (List (List Int)) × Int → Option (LB ((List (List Int)) × Int)) := fun p => match p with | (x7, x8) => (bif (decide (x8 < x2)) then (loop1 (spec_l01Find.b0 x2 x6 x8 x3) (([] : List Int), 0)).bind (fun p => match p with | (x9, x10) => ((bif (x6 == x8) then small (x9.length + ([1] : List Int).length) (some (x9 ++ ([1] : List Int))) else small (x9.length + ([0] : List Int).length) (some (x9 ++ ([0] : List Int))))).bind (fun x11 => small (x7.length + 1) (some (.next ((x7 ++ [x11]), (w64 (x8 + 1))))))) else some (.brk (x7, x8)))

def spec_l01Find.b2 (x2 : Int) (x3 : Nat → UInt8) : (List (List Int)) × Int → Option (LB ((List (List Int)) × Int)) := fun p => match p with | (x5, x6) => (bif (decide (x6 < x2)) then (loop1 (spec_l01Find.b1 x2 x6 x3) (x5, 0)).bind (fun p => match p with | (x7, x8) => some (.next (x7, (w64 (x6 + 1))))) else some (.brk (x5, x6)))

def spec_l01Find.b3 (r_1 : List Int) : (Nat → UInt8) × Int → Option (LB ((Nat → UInt8) × Int)) := fun p => match p with | (y1, x12) => (bif (decide (x12 < (r_1.length : Int))) then chk x12 r_1.length (chk x12 6 (some (.next ((upd y1 x12.toNat (UInt8.ofInt (gt r_1 x12))), (w64 (x12 + 1)))))) else some (.brk (y1, x12)))

def spec_l01Find.b4 (x2 : Int) (x1 : Int) (x3 : Nat → UInt8) (x4 : Nat → UInt8) (y1 : Nat → UInt8) : Int → Option (LR Int ((Nat → UInt8) × Bool)) := fun x13 => (bif (decide (x13 < x2)) then (G.spec_l01Basis.f x13).bind (fun r_3 => (G.spec_l01Times.f x1 x2 x3 x4 r_3 y1).bind (fun r_4 => (G.spec_l01Basis.f x13).bind (fun r_5 => (bif (!((List.range 6).all fun i_ => ((r_4 i_).toNat : Int) == ((r_5 i_).toNat : Int))) then some (.ret (((fun _ => (0 : UInt8)), false))) else some (.next (w64 (x13 + 1))))))) else some (.brk x13))

def spec_l01Find.f (x1 : Int) (x2 : Int) (x3 : Nat → UInt8) (x4 : Nat → UInt8) : Option ((Nat → UInt8) × Bool) := (loop1 (spec_l01Find.b2 x2 x3) (([] : List (List Int)), 0)).bind (fun p => match p with | (x5, x6) => (G.spec_l01Solve.f x1 x5).bind (fun p => match p with | (r_1, r_2) => (bif (!r_2) then some ((fun _ => (0 : UInt8)), false) else (loop1 (spec_l01Find.b3 r_1) ((fun _ => (0 : UInt8)), 0)).bind (fun p => match p with | (y1, x12) => (loop (spec_l01Find.b4 x2 x1 x3 x4 y1) 0).bind (ln (fun x13 => some (y1, true)))))))

def spec_l01Find.R (r : (Nat → UInt8) × Bool) (v : Value) (L : List Asn) : Prop := v = .tuple #[sval [.arr 6 (enf u8v r.1)], .bool r.2] ∧ L = []

set_option maxRecDepth 100000 in
set_option maxHeartbeats 4000000 in
theorem spec_l01Find.calls (w : World) (x1 : Int) (x2 : Int) (x3 : Nat → UInt8) (x4 : Nat → UInt8) :
    ∀ r, spec_l01Find.f x1 x2 x3 x4 = some r → Calls Try.prog 111 #[sval [.one (.int .i64 x1), .one (.int .i64 x2), .arr 216 (enf u8v x3), .arr 6 (enf u8v x4)]] w (Ret w (spec_l01Find.R r)) := by

  refine calls_T (n := 99) (Γ := [(0, sval [.one (.int .i64 x1), .one (.int .i64 x2), .arr 216 (enf u8v x3), .arr 6 (enf u8v x4)])]) (R := spec_l01Find.R) Try.func111 rfl rfl (Nat.le_of_ble_eq_true rfl) ⟨rfl, trivial⟩ ?_
  unfold spec_l01Find.f
  refine TC.seq ?_
  refine TC.region ?_
  refine TL.box [.one (.int .i64 x1), .one (.int .i64 x2), .arr 216 (enf u8v x3), .arr 6 (enf u8v x4)] rfl rfl rfl rfl fun b_1 => ?_
  refine TL.alloc [.arr 6 (enf u8v (fun _ => (0 : UInt8)))] rfl rfl Try.zeroValue58 rfl fun b_2 => ?_
  refine TL.assign rfl rfl (v := .bool false) rfl ?_
  refine TL.done ?_
  refine TC.seq ?_
  refine TC.region ?_
  refine TL.bslice0 Ev Try.underlying96 Try.sizeOf22 rfl rfl fun s1 => ?_
  refine TL.rows0 Ei 2 ?_
  refine TL.matmk 1 0 rfl rfl ?_
  refine TL.asL [mat Ei 2 22 s1 ([] : List SV) ([] : List (List Int)), emp, box b_2 58 [.arr 6 (enf u8v (fun _ => (0 : UInt8)))], box b_1 60 [.one (.int .i64 x1), .one (.int .i64 x2), .arr 216 (enf u8v x3), .arr 6 (enf u8v x4)]] (by kernel_rfl) ?_
  refine TL.assign rfl rfl (v := SV.v s1) rfl ?_
  refine TL.done ?_
  refine TC.seq ?_
  refine TC.seq ?_
  refine TC.region ?_
  refine TL.assign rfl rfl (v := .int .i64 0) rfl ?_
  refine TL.done ?_
  refine TC.loop1 (σ := (List (List Int)) × Int) (γ := SV × (List SV)) (Γ' := (fun p q => match p, q with | (x5, x6), (s2, ss1) => [(1, bp b_1 0), (2, bp b_2 0), (4, SV.v s2), (5, .int .i64 x6)])) (L' := (fun p q => match p, q with | (x5, x6), (s2, ss1) => [box b_1 60 [.one (.int .i64 x1), .one (.int .i64 x2), .arr 216 (enf u8v x3), .arr 6 (enf u8v x4)], box b_2 58 [.arr 6 (enf u8v (fun _ => (0 : UInt8)))], mat Ei 2 22 s2 ss1 x5])) (Γb := (fun p q => match p, q with | (x5, x6), (s2, ss1) => [(1, bp b_1 0), (2, bp b_2 0), (4, SV.v s2), (5, .int .i64 x6)])) (Lb := (fun p q => match p, q with | (x5, x6), (s2, ss1) => [box b_1 60 [.one (.int .i64 x1), .one (.int .i64 x2), .arr 216 (enf u8v x3), .arr 6 (enf u8v x4)], box b_2 58 [.arr 6 (enf u8v (fun _ => (0 : UInt8)))], mat Ei 2 22 s2 ss1 x5])) ((([] : List (List Int)), 0)) ((s1, ([] : List SV))) ⟨rfl, rfl, rfl, rfl, trivial⟩ [3, 2, 0] rfl ?_ ?_
  · rintro ⟨x5, x6⟩ ⟨s2, ss1⟩
    refine TC.seq ?_
    refine TC.seq ?_
    refine TC.region ?_
    refine TL.move rfl rfl (v := .int .i64 x6) rfl ?_
    refine TL.fa Try.underlying60 rfl Try.sizeOf2 rfl 1 rfl rfl rfl rfl ?_
    refine TL.load1 1 (Src.box 0 rfl) Try.isAgg2 rfl rfl rfl rfl rfl ?_
    refine TL.bin .i64 x6 x2 rfl rfl rfl rfl (v := .bool (decide (x6 < x2))) rfl ?_
    refine TL.done ?_
    refine TC.cond (b := (decide (x6 < x2))) rfl (fun c1 => ?_) (fun c2 => ?_)
    · refine TC.skip ?_
      refine TC.seq ?_
      refine TC.block (NoEx.loop1 rfl) ?_
      refine TC.seq ?_
      refine TC.region ?_
      refine TL.assign rfl rfl (v := .int .i64 0) rfl ?_
      refine TL.done ?_
      refine TC.loop1 (σ := (List (List Int)) × Int) (γ := SV × (List SV)) (Γ' := (fun p q => match p, q with | (x7, x8), (s3, ss2) => [(1, bp b_1 0), (2, bp b_2 0), (4, SV.v s3), (5, .int .i64 x6), (6, .int .i64 x8)])) (L' := (fun p q => match p, q with | (x7, x8), (s3, ss2) => [box b_1 60 [.one (.int .i64 x1), .one (.int .i64 x2), .arr 216 (enf u8v x3), .arr 6 (enf u8v x4)], box b_2 58 [.arr 6 (enf u8v (fun _ => (0 : UInt8)))], mat Ei 2 22 s3 ss2 x7])) (Γb := (fun p q => match p, q with | (x7, x8), (s3, ss2) => [(1, bp b_1 0), (2, bp b_2 0), (4, SV.v s3), (5, .int .i64 x6), (6, .int .i64 x8)])) (Lb := (fun p q => match p, q with | (x7, x8), (s3, ss2) => [box b_1 60 [.one (.int .i64 x1), .one (.int .i64 x2), .arr 216 (enf u8v x3), .arr 6 (enf u8v x4)], box b_2 58 [.arr 6 (enf u8v (fun _ => (0 : UInt8)))], mat Ei 2 22 s3 ss2 x7])) ((x5, 0)) ((s2, ss1)) ⟨rfl, rfl, rfl, rfl, rfl, trivial⟩ [0, 0, 0] rfl ?_ ?_
      · rintro ⟨x7, x8⟩ ⟨s3, ss2⟩
        refine TC.seq ?_
        refine TC.seq ?_
        refine TC.region ?_
        refine TL.move rfl rfl (v := .int .i64 x8) rfl ?_
        refine TL.fa Try.underlying60 rfl Try.sizeOf2 rfl 1 rfl rfl rfl rfl ?_
        refine TL.load1 1 (Src.box 0 rfl) Try.isAgg2 rfl rfl rfl rfl rfl ?_
        refine TL.bin .i64 x8 x2 rfl rfl rfl rfl (v := .bool (decide (x8 < x2))) rfl ?_
        refine TL.done ?_
        refine TC.cond (b := (decide (x8 < x2))) rfl (fun c3 => ?_) (fun c4 => ?_)
        · refine TC.skip ?_
          refine TC.seq ?_
          refine TC.block (NoEx.loop1 rfl) ?_
          refine TC.seq ?_
          refine TC.region ?_
          refine TL.bslice0 Ei Try.underlying22 Try.sizeOf2 rfl rfl fun s4 => ?_
          refine TL.assign rfl rfl (v := SV.v s4) rfl ?_
          refine TL.done ?_
          refine TC.seq ?_
          refine TC.seq ?_
          refine TC.region ?_
          refine TL.assign rfl rfl (v := .int .i64 0) rfl ?_
          refine TL.done ?_
          refine TC.loop1 (σ := (List Int) × Int) (γ := SV) (Γ' := (fun p q => match p, q with | (x9, x10), s5 => [(1, bp b_1 0), (2, bp b_2 0), (4, SV.v s3), (5, .int .i64 x6), (6, .int .i64 x8), (7, SV.v s5), (8, .int .i64 x10)])) (L' := (fun p q => match p, q with | (x9, x10), s5 => [box b_1 60 [.one (.int .i64 x1), .one (.int .i64 x2), .arr 216 (enf u8v x3), .arr 6 (enf u8v x4)], box b_2 58 [.arr 6 (enf u8v (fun _ => (0 : UInt8)))], mat Ei 2 22 s3 ss2 x7, row Ei 2 s5 x9])) (Γb := (fun p q => match p, q with | (x9, x10), s5 => [(1, bp b_1 0), (2, bp b_2 0), (4, SV.v s3), (5, .int .i64 x6), (6, .int .i64 x8), (7, SV.v s5), (8, .int .i64 x10)])) (Lb := (fun p q => match p, q with | (x9, x10), s5 => [box b_1 60 [.one (.int .i64 x1), .one (.int .i64 x2), .arr 216 (enf u8v x3), .arr 6 (enf u8v x4)], box b_2 58 [.arr 6 (enf u8v (fun _ => (0 : UInt8)))], mat Ei 2 22 s3 ss2 x7, row Ei 2 s5 x9])) ((([] : List Int), 0)) (s4) ⟨rfl, rfl, rfl, rfl, rfl, rfl, rfl, trivial⟩ [1, 1, 1, 0] rfl ?_ ?_
          · rintro ⟨x9, x10⟩ s5
            refine TC.seq ?_
            refine TC.seq ?_
            refine TC.region ?_
            refine TL.move rfl rfl (v := .int .i64 x10) rfl ?_
            refine TL.fa Try.underlying60 rfl Try.sizeOf2 rfl 1 rfl rfl rfl rfl ?_
            refine TL.load1 1 (Src.box 0 rfl) Try.isAgg2 rfl rfl rfl rfl rfl ?_
            refine TL.bin .i64 x10 x2 rfl rfl rfl rfl (v := .bool (decide (x10 < x2))) rfl ?_
            refine TL.done ?_
            refine TC.cond (b := (decide (x10 < x2))) rfl (fun c5 => ?_) (fun c6 => ?_)
            · refine TC.skip ?_
              refine TC.seq ?_
              refine TC.block (NoEx.loop1 rfl) ?_
              refine TC.region ?_
              refine TL.move rfl rfl (v := SV.v s5) rfl ?_
              refine TL.move rfl rfl (v := .int .i64 x10) rfl ?_
              refine TL.move rfl rfl (v := .int .i64 x6) rfl ?_
              refine TL.move rfl rfl (v := .int .i64 x8) rfl ?_
              refine TL.fa Try.underlying60 rfl Try.sizeOf57 rfl 2 rfl rfl rfl rfl ?_
              refine TL.chk fun h1 => ?_
              refine TL.ixa x10 (2 + x10.toNat * 36) h1 Try.underlying57 Try.sizeOf56 rfl rfl rfl rfl (by omega) ?_
              refine TL.chk fun h2 => ?_
              refine TL.ixa x6 (2 + (x10.toNat * 36 + x6.toNat * 6)) h2 Try.underlying56 Try.sizeOf55 rfl rfl rfl rfl (by omega) ?_
              refine TL.chk fun h3 => ?_
              refine TL.ixa x8 (2 + (x10.toNat * 36 + x6.toNat * 6 + x8.toNat)) h3 Try.underlying55 Try.sizeOf5 rfl rfl rfl rfl (by omega) ?_
              refine TL.loadA (x10.toNat * 36 + x6.toNat * 6 + x8.toNat) 2 (Src.box 0 rfl) Try.isAgg5 rfl (by omega) (v := u8v (x3 (x10.toNat * 36 + x6.toNat * 6 + x8.toNat))) rfl (st := 2) rfl (by omega) rfl rfl rfl ?_
              refine TL.conv .u8 .i64 ((x3 (x10.toNat * 36 + x6.toNat * 6 + x8.toNat)).toNat : Int) _ rfl rfl rfl Try.underlying5 Try.underlying2 (v := .int .i64 ((x3 (x10.toNat * 36 + x6.toNat * 6 + x8.toNat)).toNat : Int)) (conv_u8_i64 _) ?_
              refine TL.blit Ei ([((x3 (x10.toNat * 36 + x6.toNat * 6 + x8.toNat)).toNat : Int)] : List Int) Try.underlying22 Try.sizeOf2 Try.zeroValue2 rfl rfl rfl [(0, .int .i64 ((x3 (x10.toNat * 36 + x6.toNat * 6 + x8.toNat)).toNat : Int))] rfl ⟨rfl, rfl, trivial⟩ rfl rfl fun s6 => ?_
              refine TL.small fun h4 => ?_
              refine TL.append 4 rfl (Rd.row 0 rfl) Try.underlying22 (info_of Try.type2) (zv := (Try.t2.zero.getD (.bool false))) rfl rfl rfl (by decide) h4 rfl rfl rfl rfl fun s7 => ?_
              refine TL.assign rfl rfl (v := SV.v s7) rfl ?_
              refine TL.done ?_
              refine TC.region ?_
              refine TL.move rfl rfl (v := .int .i64 x10) rfl ?_
              refine TL.bin .i64 x10 1 rfl rfl rfl rfl (v := .int .i64 (w64 (x10 + 1))) rfl ?_
              refine TL.assign rfl rfl (v := .int .i64 (w64 (x10 + 1))) rfl ?_
              refine TL.done ?_
              exact TC.next1 (((x9 ++ ([((x3 (x10.toNat * 36 + x6.toNat * 6 + x8.toNat)).toNat : Int)] : List Int)), (w64 (x10 + 1)))) (s7) ⟨rfl, rfl, rfl, rfl, rfl, rfl, rfl, trivial⟩ [1, 1, 1, 1] rfl
            · exact TC.brk1 ((x9, x10)) (s5) ⟨rfl, rfl, rfl, rfl, rfl, rfl, rfl, trivial⟩ [0, 0, 0, 0] rfl
          · rintro ⟨x9, x10⟩ s5
            refine TC.seq ?_
            refine TC.seq ?_
            refine TC.region ?_
            refine TL.move rfl rfl (v := .int .i64 x6) rfl ?_
            refine TL.move rfl rfl (v := .int .i64 x8) rfl ?_
            refine TL.bin .i64 x6 x8 rfl rfl rfl rfl (v := .bool (x6 == x8)) rfl ?_
            refine TL.done ?_
            refine TC.join1 (σ := (List Int)) (γ := SV) (Γ' := (fun x11 s8 => [(1, bp b_1 0), (2, bp b_2 0), (4, SV.v s3), (5, .int .i64 x6), (6, .int .i64 x8), (7, SV.v s8)])) (L' := (fun x11 s8 => [box b_1 60 [.one (.int .i64 x1), .one (.int .i64 x2), .arr 216 (enf u8v x3), .arr 6 (enf u8v x4)], box b_2 58 [.arr 6 (enf u8v (fun _ => (0 : UInt8)))], mat Ei 2 22 s3 ss2 x7, row Ei 2 s8 x11])) ?_ ?_
            · refine TC.cond (b := (x6 == x8)) rfl (fun c7 => ?_) (fun c8 => ?_)
              · refine TC.region ?_
                refine TL.move rfl rfl (v := SV.v s5) rfl ?_
                refine TL.blit Ei ([1] : List Int) Try.underlying22 Try.sizeOf2 Try.zeroValue2 rfl rfl rfl [(0, .int .i64 1)] rfl ⟨rfl, rfl, trivial⟩ rfl rfl fun s9 => ?_
                refine TL.small fun h5 => ?_
                refine TL.append 4 rfl (Rd.row 0 rfl) Try.underlying22 (info_of Try.type2) (zv := (Try.t2.zero.getD (.bool false))) rfl rfl rfl (by decide) h5 rfl rfl rfl rfl fun s10 => ?_
                refine TL.assign rfl rfl (v := SV.v s10) rfl ?_
                refine TL.done ?_
                exact TC.nrm ((x9 ++ ([1] : List Int))) (s10) ⟨rfl, rfl, rfl, rfl, rfl, rfl, trivial⟩ [1, 1, 1, 1] rfl
              · refine TC.region ?_
                refine TL.move rfl rfl (v := SV.v s5) rfl ?_
                refine TL.blit Ei ([0] : List Int) Try.underlying22 Try.sizeOf2 Try.zeroValue2 rfl rfl rfl [(0, .int .i64 0)] rfl ⟨rfl, rfl, trivial⟩ rfl rfl fun s11 => ?_
                refine TL.small fun h6 => ?_
                refine TL.append 4 rfl (Rd.row 0 rfl) Try.underlying22 (info_of Try.type2) (zv := (Try.t2.zero.getD (.bool false))) rfl rfl rfl (by decide) h6 rfl rfl rfl rfl fun s12 => ?_
                refine TL.assign rfl rfl (v := SV.v s12) rfl ?_
                refine TL.done ?_
                exact TC.nrm ((x9 ++ ([0] : List Int))) (s12) ⟨rfl, rfl, rfl, rfl, rfl, rfl, trivial⟩ [1, 1, 1, 1] rfl
            · rintro x11 s8
              refine TC.region ?_
              refine TL.move rfl rfl (v := SV.v s3) rfl ?_
              refine TL.move rfl rfl (v := SV.v s8) rfl ?_
              refine TL.blit Ev ([s8] : List SV) Try.underlying96 Try.sizeOf22 Try.zeroValue22 rfl rfl rfl [(0, SV.v s8)] rfl ⟨rfl, rfl, trivial⟩ rfl rfl fun s13 => ?_
              refine TL.small fun h7 => ?_
              refine TL.matlen 3 rfl fun h8 => ?_
              refine TL.matcut 3 rfl ?_
              refine TL.append 0 rfl (Rd.row 1 rfl) Try.underlying96 (info_of Try.type22) (zv := (Try.t22.zero.getD (.bool false))) rfl rfl rfl (by decide) (by have h_ := h7; have l_ := h8; (try simp only [List.length_cons, List.length_nil] at h_ l_ ⊢); omega) rfl rfl rfl rfl fun s14 => ?_
              refine TL.rowsPush 4 5 rfl rfl ?_
              skip
              refine TL.matmk 0 5 rfl rfl ?_
              refine TL.drop 0 rfl ?_
              refine TL.asL [row Ev 22 s13 ([s8] : List SV), box b_1 60 [.one (.int .i64 x1), .one (.int .i64 x2), .arr 216 (enf u8v x3), .arr 6 (enf u8v x4)], box b_2 58 [.arr 6 (enf u8v (fun _ => (0 : UInt8)))], emp, mat Ei 2 22 s14 (ss2 ++ [s8]) (x7 ++ [x11])] (by kernel_rfl) ?_
              refine TL.assign rfl rfl (v := SV.v s14) rfl ?_
              refine TL.done ?_
              refine TC.region ?_
              refine TL.move rfl rfl (v := .int .i64 x8) rfl ?_
              refine TL.bin .i64 x8 1 rfl rfl rfl rfl (v := .int .i64 (w64 (x8 + 1))) rfl ?_
              refine TL.assign rfl rfl (v := .int .i64 (w64 (x8 + 1))) rfl ?_
              refine TL.done ?_
              exact TC.next1 (((x7 ++ [x11]), (w64 (x8 + 1)))) ((s14, (ss2 ++ [s8]))) ⟨rfl, rfl, rfl, rfl, rfl, trivial⟩ [1, 1, 2] rfl
        · exact TC.brk1 ((x7, x8)) ((s3, ss2)) ⟨rfl, rfl, rfl, rfl, rfl, trivial⟩ [0, 0, 0] rfl
      · rintro ⟨x7, x8⟩ ⟨s3, ss2⟩
        refine TC.region ?_
        refine TL.move rfl rfl (v := .int .i64 x6) rfl ?_
        refine TL.bin .i64 x6 1 rfl rfl rfl rfl (v := .int .i64 (w64 (x6 + 1))) rfl ?_
        refine TL.assign rfl rfl (v := .int .i64 (w64 (x6 + 1))) rfl ?_
        refine TL.done ?_
        exact TC.next1 ((x7, (w64 (x6 + 1)))) ((s3, ss2)) ⟨rfl, rfl, rfl, rfl, trivial⟩ [0, 0, 0] rfl
    · exact TC.brk1 ((x5, x6)) ((s2, ss1)) ⟨rfl, rfl, rfl, rfl, trivial⟩ [0, 0, 0] rfl
  · rintro ⟨x5, x6⟩ ⟨s2, ss1⟩
    refine TC.seq ?_
    refine TC.region ?_
    refine TL.fa Try.underlying60 rfl Try.sizeOf2 rfl 0 rfl rfl rfl rfl ?_
    refine TL.load1 0 (Src.box 0 rfl) Try.isAgg2 rfl rfl rfl rfl rfl ?_
    refine TL.move rfl rfl (v := SV.v s2) rfl ?_
    refine TL.call (R := G.spec_l01Solve.R) Try.call119 rfl rfl rfl (fun w hS => G.spec_l01Solve.calls w x1 s2 ss1 x5 ((RdM.mat 2 rfl) w hS)) ?_
    rintro ⟨r_1, r_2⟩ _ _ ⟨s15, rfl, rfl⟩
    refine TL.move rfl rfl (v := .tuple #[SV.v s15, .bool r_2]) rfl ?_
    refine TL.extract rfl rfl rfl (v := SV.v s15) rfl ?_
    refine TL.extract rfl rfl rfl (v := .bool r_2) rfl ?_
    refine TL.assign rfl rfl (v := SV.v s15) rfl ?_
    refine TL.assign rfl rfl (v := .bool r_2) rfl ?_
    refine TL.done ?_
    refine TC.seq ?_
    refine TC.seq ?_
    refine TC.region ?_
    refine TL.move rfl rfl (v := .bool r_2) rfl ?_
    refine TL.not r_2 rfl rfl rfl ?_
    refine TL.done ?_
    refine TC.cond (b := (!r_2)) rfl (fun c9 => ?_) (fun c10 => ?_)
    · refine TC.seq ?_
      refine TC.region ?_
      refine TL.buildA (segs0 := [.arr 6 (enf u8v (fun _ => (0 : UInt8)))]) (segs := [.arr 6 (enf u8v (fun _ => (0 : UInt8)))]) Try.underlying58 Try.sizeOf5 Try.zeroValue58 rfl [] rfl rfl rfl rfl ?_
      refine TL.stM (news := [.arr 6 (enf u8v (fun _ => (0 : UInt8)))]) 2 0 1 rfl Try.sizeOf58 (ones_arr (fun _ => rfl) ones_nil) rfl rfl rfl rfl rfl rfl ?_
      refine TL.assign rfl rfl (v := .bool false) rfl ?_
      refine TL.done ?_
      exact TC.retF (Fin.body (fin2 (.inr rfl) rfl (.cellN rfl (Src.box 2 rfl) Try.isAgg58 Try.sizeOf58 rfl) (.tmp rfl) [] rfl ⟨rfl, rfl⟩))
    · refine TC.skip ?_
      refine TC.seq ?_
      refine TC.region ?_
      refine TL.buildA (segs0 := [.arr 6 (enf u8v (fun _ => (0 : UInt8)))]) (segs := [.arr 6 (enf u8v (fun _ => (0 : UInt8)))]) Try.underlying58 Try.sizeOf5 Try.zeroValue58 rfl [] rfl rfl rfl rfl ?_
      refine TL.alloc [.arr 6 (enf u8v (fun _ => (0 : UInt8)))] rfl rfl Try.zeroValue58 rfl fun b_3 => ?_
      refine TL.stM (news := [.arr 6 (enf u8v (fun _ => (0 : UInt8)))]) 0 0 1 rfl Try.sizeOf58 (ones_arr (fun _ => rfl) ones_nil) rfl rfl rfl rfl rfl rfl ?_
      refine TL.done ?_
      refine TC.seq ?_
      refine TC.seq ?_
      refine TC.region ?_
      refine TL.assign rfl rfl (v := .int .i64 0) rfl ?_
      refine TL.done ?_
      refine TC.loop1 (σ := (Nat → UInt8) × Int) (γ := Unit) (Γ' := (fun p q => match p, q with | (y1, x12), _ => [(1, bp b_1 0), (2, bp b_2 0), (9, SV.v s15), (11, bp b_3 0), (12, .int .i64 x12)])) (L' := (fun p q => match p, q with | (y1, x12), _ => [box b_1 60 [.one (.int .i64 x1), .one (.int .i64 x2), .arr 216 (enf u8v x3), .arr 6 (enf u8v x4)], box b_2 58 [.arr 6 (enf u8v (fun _ => (0 : UInt8)))], row Ei 2 s15 r_1, box b_3 58 [.arr 6 (enf u8v y1)]])) (Γb := (fun p q => match p, q with | (y1, x12), _ => [(1, bp b_1 0), (2, bp b_2 0), (9, SV.v s15), (11, bp b_3 0), (12, .int .i64 x12)])) (Lb := (fun p q => match p, q with | (y1, x12), _ => [box b_1 60 [.one (.int .i64 x1), .one (.int .i64 x2), .arr 216 (enf u8v x3), .arr 6 (enf u8v x4)], box b_2 58 [.arr 6 (enf u8v (fun _ => (0 : UInt8)))], row Ei 2 s15 r_1, box b_3 58 [.arr 6 (enf u8v y1)]])) (((fun _ => (0 : UInt8)), 0)) (()) ⟨rfl, rfl, rfl, rfl, rfl, trivial⟩ [2, 2, 1, 0] rfl ?_ ?_
      · rintro ⟨y1, x12⟩ _
        refine TC.seq ?_
        refine TC.seq ?_
        refine TC.region ?_
        refine TL.move rfl rfl (v := .int .i64 x12) rfl ?_
        refine TL.move rfl rfl (v := SV.v s15) rfl ?_
        refine TL.len (Rd.row 2 rfl) Try.underlying22 rfl rfl rfl ?_
        refine TL.bin .i64 x12 (r_1.length : Int) rfl rfl rfl rfl (v := .bool (decide (x12 < (r_1.length : Int)))) rfl ?_
        refine TL.done ?_
        refine TC.cond (b := (decide (x12 < (r_1.length : Int)))) rfl (fun c11 => ?_) (fun c12 => ?_)
        · refine TC.skip ?_
          refine TC.seq ?_
          refine TC.block (NoEx.loop1 rfl) ?_
          refine TC.region ?_
          refine TL.move rfl rfl (v := .int .i64 x12) rfl ?_
          refine TL.move rfl rfl (v := SV.v s15) rfl ?_
          refine TL.move rfl rfl (v := .int .i64 x12) rfl ?_
          refine TL.chk fun h9 => ?_
          refine TL.ixs x12 x12.toNat (Rd.row 2 rfl) h9 Try.underlying22 Try.sizeOf2 rfl rfl rfl rfl (by omega) ?_
          refine TL.loadE (Rd.row 2 rfl) Try.isAgg2 x12.toNat 0 (gt_spec h9) (v := .int .i64 (gt r_1 x12)) rfl (by simp only [show Ei.sz = 1 from rfl] <;> omega) rfl rfl rfl ?_
          refine TL.conv .i64 .u8 (gt r_1 x12) _ rfl rfl rfl Try.underlying2 Try.underlying5 (v := u8v (UInt8.ofInt (gt r_1 x12))) (conv_i64_u8 _) ?_
          refine TL.chk fun h10 => ?_
          refine TL.ixa x12 x12.toNat h10 Try.underlying58 Try.sizeOf5 rfl rfl rfl rfl (by omega) ?_
          refine TL.stA (e := u8v) (z := (UInt8.ofInt (gt r_1 x12))) 3 0 x12.toNat rfl Try.sizeOf5 rfl (by omega) (s := 0) rfl (by omega) rfl rfl rfl rfl rfl ?_
          refine TL.done ?_
          refine TC.region ?_
          refine TL.move rfl rfl (v := .int .i64 x12) rfl ?_
          refine TL.bin .i64 x12 1 rfl rfl rfl rfl (v := .int .i64 (w64 (x12 + 1))) rfl ?_
          refine TL.assign rfl rfl (v := .int .i64 (w64 (x12 + 1))) rfl ?_
          refine TL.done ?_
          exact TC.next1 (((upd y1 x12.toNat (UInt8.ofInt (gt r_1 x12))), (w64 (x12 + 1)))) (()) ⟨rfl, rfl, rfl, rfl, rfl, trivial⟩ [0, 0, 0, 0] rfl
        · exact TC.brk1 ((y1, x12)) (()) ⟨rfl, rfl, rfl, rfl, rfl, trivial⟩ [0, 0, 0, 0] rfl
      · rintro ⟨y1, x12⟩ _
        refine TC.seq ?_
        refine TC.seq ?_
        refine TC.region ?_
        refine TL.assign rfl rfl (v := .int .i64 0) rfl ?_
        refine TL.done ?_
        refine TC.loopK (σ := Int) (γ := Unit) (Γ' := (fun x13 _ => [(1, bp b_1 0), (2, bp b_2 0), (11, bp b_3 0), (13, .int .i64 x13)])) (L' := (fun x13 _ => [box b_1 60 [.one (.int .i64 x1), .one (.int .i64 x2), .arr 216 (enf u8v x3), .arr 6 (enf u8v x4)], box b_2 58 [.arr 6 (enf u8v (fun _ => (0 : UInt8)))], box b_3 58 [.arr 6 (enf u8v y1)]])) (Γb := (fun x13 _ => [(1, bp b_1 0), (2, bp b_2 0), (11, bp b_3 0), (13, .int .i64 x13)])) (Lb := (fun x13 _ => [box b_1 60 [.one (.int .i64 x1), .one (.int .i64 x2), .arr 216 (enf u8v x3), .arr 6 (enf u8v x4)], box b_2 58 [.arr 6 (enf u8v (fun _ => (0 : UInt8)))], box b_3 58 [.arr 6 (enf u8v y1)]])) (0) (()) ⟨rfl, rfl, rfl, rfl, trivial⟩ [0, 0, 1] rfl ?_ ?_
        · rintro x13 _
          refine TC.seq ?_
          refine TC.seq ?_
          refine TC.region ?_
          refine TL.move rfl rfl (v := .int .i64 x13) rfl ?_
          refine TL.fa Try.underlying60 rfl Try.sizeOf2 rfl 1 rfl rfl rfl rfl ?_
          refine TL.load1 1 (Src.box 0 rfl) Try.isAgg2 rfl rfl rfl rfl rfl ?_
          refine TL.bin .i64 x13 x2 rfl rfl rfl rfl (v := .bool (decide (x13 < x2))) rfl ?_
          refine TL.done ?_
          refine TC.cond (b := (decide (x13 < x2))) rfl (fun c13 => ?_) (fun c14 => ?_)
          · refine TC.skip ?_
            refine TC.seq ?_
            refine TC.block (NoEx.loop rfl NoEx.body) ?_
            refine TC.seq ?_
            refine TC.wk (Γ' := [(1, bp b_1 0), (2, bp b_2 0), (11, bp b_3 0), (13, .int .i64 x13), (83, .int .i64 x13), (84, bp b_1 1), (85, .int .i64 x2), (86, .bool (decide (x13 < x2)))]) ⟨rfl, rfl, rfl, rfl, rfl, rfl, rfl, rfl, trivial⟩ ?_
            refine TC.bindE fun r_3 hr1 => ?_
            refine TC.bindE fun r_4 hr2 => ?_
            refine TC.bindE fun r_5 hr3 => ?_
            refine TC.draw [sval [.one (.int .i64 x1), .one (.int .i64 x2), .arr 216 (enf u8v x3), .arr 6 (enf u8v x4)], .int .i64 x13, sval [.arr 6 (enf u8v r_3)], sval [.arr 6 (enf u8v y1)], sval [.arr 6 (enf u8v r_4)], .int .i64 x13, sval [.arr 6 (enf u8v r_5)], .bool (!((List.range 6).all fun i_ => ((r_4 i_).toNat : Int) == ((r_5 i_).toNat : Int)))] 8 [box b_1 60 [.one (.int .i64 x1), .one (.int .i64 x2), .arr 216 (enf u8v x3), .arr 6 (enf u8v x4)], box b_2 58 [.arr 6 (enf u8v (fun _ => (0 : UInt8)))], box b_3 58 [.arr 6 (enf u8v y1)]] (by kernel_rfl) rfl rfl rfl rfl ?_ ?_
            · refine ⟨?_, ?_, ?_, ?_, ?_, ?_, ?_, ?_, trivial⟩
              · refine TL.loadM 0 4 (Src.box 0 rfl) Try.isAgg60 Try.sizeOf60 (mid := [.one (.int .i64 x1), .one (.int .i64 x2), .arr 216 (enf u8v x3), .arr 6 (enf u8v x4)]) rfl rfl rfl rfl rfl rfl ?_
                refine TL.done ?_
                exact TC.nrm () () ⟨rfl, trivial⟩ [0, 0, 0] (by kernel_rfl)
              · refine TL.move rfl rfl (v := .int .i64 x13) rfl ?_
                refine TL.done ?_
                exact TC.nrm () () ⟨rfl, trivial⟩ [0, 0, 0] (by kernel_rfl)
              · refine TL.callH (R := G.spec_l01Basis.R) hr1 Try.call121 rfl rfl rfl (fun w hS => G.spec_l01Basis.calls w x13) ?_
                rintro _ _ ⟨rfl, rfl⟩
                refine TL.done ?_
                exact TC.nrm () () ⟨rfl, trivial⟩ [0, 0, 0] (by kernel_rfl)
              · refine TL.loadM 0 1 (Src.box 2 rfl) Try.isAgg58 Try.sizeOf58 (mid := [.arr 6 (enf u8v y1)]) rfl rfl rfl rfl rfl rfl ?_
                refine TL.done ?_
                exact TC.nrm () () ⟨rfl, trivial⟩ [0, 0, 0] (by kernel_rfl)
              · refine TL.callH (R := G.spec_l01Times.R) hr2 Try.call120 rfl rfl rfl (fun w hS => G.spec_l01Times.calls w x1 x2 x3 x4 r_3 y1) ?_
                rintro _ _ ⟨rfl, rfl⟩
                refine TL.done ?_
                exact TC.nrm () () ⟨rfl, trivial⟩ [0, 0, 0] (by kernel_rfl)
              · refine TL.move rfl rfl (v := .int .i64 x13) rfl ?_
                refine TL.done ?_
                exact TC.nrm () () ⟨rfl, trivial⟩ [0, 0, 0] (by kernel_rfl)
              · refine TL.callH (R := G.spec_l01Basis.R) hr3 Try.call121 rfl rfl rfl (fun w hS => G.spec_l01Basis.calls w x13) ?_
                rintro _ _ ⟨rfl, rfl⟩
                refine TL.done ?_
                exact TC.nrm () () ⟨rfl, trivial⟩ [0, 0, 0] (by kernel_rfl)
              · refine TL.neAu r_4 r_5 Try.underlying58 (info_of Try.type5) (by kernel_rfl) Try.underlying5 Try.isAgg5 (by kernel_rfl) rfl rfl rfl rfl ?_
                refine TL.done ?_
                exact TC.nrm () () ⟨rfl, trivial⟩ [0, 0, 0] (by kernel_rfl)
            · refine TC.cond (b := (!((List.range 6).all fun i_ => ((r_4 i_).toNat : Int) == ((r_5 i_).toNat : Int)))) rfl (fun c15 => ?_) (fun c16 => ?_)
              · refine TC.seq ?_
                refine TC.region ?_
                refine TL.buildA (segs0 := [.arr 6 (enf u8v (fun _ => (0 : UInt8)))]) (segs := [.arr 6 (enf u8v (fun _ => (0 : UInt8)))]) Try.underlying58 Try.sizeOf5 Try.zeroValue58 rfl [] rfl rfl rfl rfl ?_
                refine TL.stM (news := [.arr 6 (enf u8v (fun _ => (0 : UInt8)))]) 1 0 1 rfl Try.sizeOf58 (ones_arr (fun _ => rfl) ones_nil) rfl rfl rfl rfl rfl rfl ?_
                refine TL.assign rfl rfl (v := .bool false) rfl ?_
                refine TL.done ?_
                exact TC.retF (Fin.loop Far.ret (Fin.body (fin2 (.inr rfl) rfl (.cellN rfl (Src.box 1 rfl) Try.isAgg58 Try.sizeOf58 rfl) (.tmp rfl) [] rfl ⟨rfl, rfl⟩)))
              · refine TC.skip ?_
                refine TC.region ?_
                refine TL.move rfl rfl (v := .int .i64 x13) rfl ?_
                refine TL.bin .i64 x13 1 rfl rfl rfl rfl (v := .int .i64 (w64 (x13 + 1))) rfl ?_
                refine TL.assign rfl rfl (v := .int .i64 (w64 (x13 + 1))) rfl ?_
                refine TL.done ?_
                exact TC.next ((w64 (x13 + 1))) (()) ⟨rfl, rfl, rfl, rfl, trivial⟩ [0, 0, 0] rfl
          · exact TC.brk (x13) (()) ⟨rfl, rfl, rfl, rfl, trivial⟩ [0, 0, 0] rfl
        · rintro x13 _
          refine TC.seq ?_
          refine TC.region ?_
          refine TL.loadM 0 1 (Src.box 2 rfl) Try.isAgg58 Try.sizeOf58 (mid := [.arr 6 (enf u8v y1)]) rfl rfl rfl rfl rfl rfl ?_
          refine TL.stM (news := [.arr 6 (enf u8v y1)]) 1 0 1 rfl Try.sizeOf58 (ones_arr (fun _ => rfl) ones_nil) rfl rfl rfl rfl rfl rfl ?_
          refine TL.assign rfl rfl (v := .bool true) rfl ?_
          refine TL.done ?_
          exact TC.retF (Fin.body (fin2 (.inr rfl) rfl (.cellN rfl (Src.box 1 rfl) Try.isAgg58 Try.sizeOf58 rfl) (.tmp rfl) [] rfl ⟨rfl, rfl⟩))

end Go.Proofs.Ytjjfoofjipafiaa.G

/- spec.l01Unit, as a pure function. -/
set_option linter.unusedVariables false
namespace Go.Proofs.Ytjjfoofjipafiaa.G
open Go Go.Sx Go.Proofs

def spec_l01Unit.f (a_1 : Int) (a_2 : Int) (a_3 : Nat → UInt8) (a_4 : Nat → UInt8) : Option (Nat → UInt8) := (G.spec_l01Find.f a_1 a_2 a_3 a_4).bind (fun p => match p with | (r_1, r_2) => some r_1)

def spec_l01Unit.R (r : Nat → UInt8) (v : Value) (L : List Asn) : Prop := v = sval [.arr 6 (enf u8v r)] ∧ L = []

set_option maxRecDepth 100000 in
set_option maxHeartbeats 4000000 in
theorem spec_l01Unit.calls (w : World) (a_1 : Int) (a_2 : Int) (a_3 : Nat → UInt8) (a_4 : Nat → UInt8) :
    ∀ r, spec_l01Unit.f a_1 a_2 a_3 a_4 = some r → Calls Try.prog 96 #[sval [.one (.int .i64 a_1), .one (.int .i64 a_2), .arr 216 (enf u8v a_3), .arr 6 (enf u8v a_4)]] w (Ret w (spec_l01Unit.R r)) := by

  refine calls_T (n := 11) (Γ := [(0, sval [.one (.int .i64 a_1), .one (.int .i64 a_2), .arr 216 (enf u8v a_3), .arr 6 (enf u8v a_4)])]) (R := spec_l01Unit.R) Try.func96 rfl rfl (Nat.le_of_ble_eq_true rfl) ⟨rfl, trivial⟩ ?_
  unfold spec_l01Unit.f
  refine TC.seq ?_
  refine TC.region ?_
  refine TL.box [.one (.int .i64 a_1), .one (.int .i64 a_2), .arr 216 (enf u8v a_3), .arr 6 (enf u8v a_4)] rfl rfl rfl rfl fun b_1 => ?_
  refine TL.alloc [.arr 6 (enf u8v (fun _ => (0 : UInt8)))] rfl rfl Try.zeroValue58 rfl fun b_2 => ?_
  refine TL.done ?_
  refine TC.seq ?_
  refine TC.region ?_
  refine TL.loadM 0 4 (Src.box 1 rfl) Try.isAgg60 Try.sizeOf60 (mid := [.one (.int .i64 a_1), .one (.int .i64 a_2), .arr 216 (enf u8v a_3), .arr 6 (enf u8v a_4)]) rfl rfl rfl rfl rfl rfl ?_
  refine TL.call (R := G.spec_l01Find.R) Try.call111 rfl rfl rfl (fun w hS => G.spec_l01Find.calls w a_1 a_2 a_3 a_4) ?_
  rintro ⟨r_1, r_2⟩ _ _ ⟨rfl, rfl⟩
  refine TL.move rfl rfl (v := .tuple #[sval [.arr 6 (enf u8v r_1)], .bool r_2]) rfl ?_
  refine TL.extract rfl rfl rfl (v := sval [.arr 6 (enf u8v r_1)]) rfl ?_
  refine TL.extract rfl rfl rfl (v := .bool r_2) rfl ?_
  refine TL.alloc [.arr 6 (enf u8v (fun _ => (0 : UInt8)))] rfl rfl Try.zeroValue58 rfl fun b_3 => ?_
  refine TL.stM (news := [.arr 6 (enf u8v r_1)]) 0 0 1 rfl Try.sizeOf58 (ones_arr (fun _ => rfl) ones_nil) rfl rfl rfl rfl rfl rfl ?_
  refine TL.assign rfl rfl (v := .bool r_2) rfl ?_
  refine TL.done ?_
  refine TC.seq ?_
  refine TC.region ?_
  refine TL.loadM 0 1 (Src.box 0 rfl) Try.isAgg58 Try.sizeOf58 (mid := [.arr 6 (enf u8v r_1)]) rfl rfl rfl rfl rfl rfl ?_
  refine TL.stM (news := [.arr 6 (enf u8v r_1)]) 1 0 1 rfl Try.sizeOf58 (ones_arr (fun _ => rfl) ones_nil) rfl rfl rfl rfl rfl rfl ?_
  refine TL.done ?_
  exact TC.retF (Fin.body (fin1 (.inr rfl) rfl (.cellN rfl (Src.box 1 rfl) Try.isAgg58 Try.sizeOf58 rfl) [] rfl ⟨rfl, rfl⟩))

end Go.Proofs.Ytjjfoofjipafiaa.G

/- spec.l10Matrix, as a pure function. -/
set_option linter.unusedVariables false
namespace Go.Proofs.Ytjjfoofjipafiaa.G
open Go Go.Sx Go.Proofs

def spec_l10Matrix.f (p1 : Int) (s1 : Int) : Option (Int × Int × (Nat → UInt8) × (Nat → UInt8) × Int × Int × (Nat → UInt8) × (Nat → UInt8) × (Nat → UInt8)) := (G.spec_l01Named.f ([102, 105, 101, 108, 100] : Str) p1).bind (fun p => match p with | (r_1, r_2, r_3, r_4, r_5) => (G.spec_l01Named.f ([109, 97, 116, 114, 105, 120] : Str) p1).bind (fun p => match p with | (r_6, r_7, r_8, r_9, r_10) => nz p1 ((G.spec_l01Unit.f r_6 r_7 r_8 (upd (upd (upd (upd (fun _ => (0 : UInt8)) 0 (UInt8.ofInt s1)) 1 (0 : UInt8)) 2 (0 : UInt8)) 3 (UInt8.ofInt s1))).bind (fun r_11 => some (r_1, r_2, r_3, (upd r_4 0 (UInt8.ofInt (Int.tmod (w64 (s1 * s1)) p1))), r_6, r_7, r_8, (upd (upd (upd (upd (fun _ => (0 : UInt8)) 0 (UInt8.ofInt s1)) 1 (0 : UInt8)) 2 (0 : UInt8)) 3 (UInt8.ofInt s1)), (updN (fun _ => (0 : UInt8)) 0 6 r_11))))))

def spec_l10Matrix.R (r : Int × Int × (Nat → UInt8) × (Nat → UInt8) × Int × Int × (Nat → UInt8) × (Nat → UInt8) × (Nat → UInt8)) (v : Value) (L : List Asn) : Prop := v = sval [.one (.int .i64 r.1), .one (.int .i64 r.2.1), .arr 216 (enf u8v r.2.2.1), .arr 6 (enf u8v r.2.2.2.1), .one (.int .i64 r.2.2.2.2.1), .one (.int .i64 r.2.2.2.2.2.1), .arr 216 (enf u8v r.2.2.2.2.2.2.1), .arr 6 (enf u8v r.2.2.2.2.2.2.2.1), .arr 36 (enf u8v r.2.2.2.2.2.2.2.2)] ∧ L = []

set_option maxRecDepth 100000 in
set_option maxHeartbeats 4000000 in
theorem spec_l10Matrix.calls (w : World) (p1 : Int) (s1 : Int) :
    ∀ r, spec_l10Matrix.f p1 s1 = some r → Calls Try.prog 83 #[.int .i64 p1, .int .i64 s1] w (Ret w (spec_l10Matrix.R r)) := by

  refine calls_T (n := 42) (Γ := [(0, .int .i64 p1), (1, .int .i64 s1)]) (R := spec_l10Matrix.R) Try.func83 rfl rfl (Nat.le_of_ble_eq_true rfl) ⟨rfl, rfl, trivial⟩ ?_
  unfold spec_l10Matrix.f
  refine TC.seq ?_
  refine TC.region ?_
  refine TL.alloc [.one (.int .i64 0), .one (.int .i64 0), .arr 216 (enf u8v (fun _ => (0 : UInt8))), .arr 6 (enf u8v (fun _ => (0 : UInt8))), .one (.int .i64 0), .one (.int .i64 0), .arr 216 (enf u8v (fun _ => (0 : UInt8))), .arr 6 (enf u8v (fun _ => (0 : UInt8))), .arr 36 (enf u8v (fun _ => (0 : UInt8)))] rfl rfl Try.zeroValue63 rfl fun b_1 => ?_
  refine TL.done ?_
  refine TC.seq ?_
  refine TC.region ?_
  refine TL.move rfl rfl (v := .int .i64 p1) rfl ?_
  refine TL.call (R := G.spec_l01Named.R) Try.call95 rfl rfl rfl (fun w hS => G.spec_l01Named.calls w ([102, 105, 101, 108, 100] : Str) p1) ?_
  rintro ⟨r_1, r_2, r_3, r_4, r_5⟩ _ _ ⟨rfl, rfl⟩
  refine TL.move rfl rfl (v := .tuple #[sval [.one (.int .i64 r_1), .one (.int .i64 r_2), .arr 216 (enf u8v r_3), .arr 6 (enf u8v r_4)], .bool r_5]) rfl ?_
  refine TL.extract rfl rfl rfl (v := sval [.one (.int .i64 r_1), .one (.int .i64 r_2), .arr 216 (enf u8v r_3), .arr 6 (enf u8v r_4)]) rfl ?_
  refine TL.extract rfl rfl rfl (v := .bool r_5) rfl ?_
  refine TL.alloc [.one (.int .i64 0), .one (.int .i64 0), .arr 216 (enf u8v (fun _ => (0 : UInt8))), .arr 6 (enf u8v (fun _ => (0 : UInt8)))] rfl rfl Try.zeroValue60 rfl fun b_2 => ?_
  refine TL.stM (news := [.one (.int .i64 r_1), .one (.int .i64 r_2), .arr 216 (enf u8v r_3), .arr 6 (enf u8v r_4)]) 0 0 4 rfl Try.sizeOf60 (ones_one rfl (ones_one rfl (ones_arr (fun _ => rfl) (ones_arr (fun _ => rfl) ones_nil)))) rfl rfl rfl rfl rfl rfl ?_
  refine TL.assign rfl rfl (v := .bool r_5) rfl ?_
  refine TL.done ?_
  refine TC.seq ?_
  refine TC.region ?_
  refine TL.move rfl rfl (v := .int .i64 p1) rfl ?_
  refine TL.call (R := G.spec_l01Named.R) Try.call95 rfl rfl rfl (fun w hS => G.spec_l01Named.calls w ([109, 97, 116, 114, 105, 120] : Str) p1) ?_
  rintro ⟨r_6, r_7, r_8, r_9, r_10⟩ _ _ ⟨rfl, rfl⟩
  refine TL.move rfl rfl (v := .tuple #[sval [.one (.int .i64 r_6), .one (.int .i64 r_7), .arr 216 (enf u8v r_8), .arr 6 (enf u8v r_9)], .bool r_10]) rfl ?_
  refine TL.extract rfl rfl rfl (v := sval [.one (.int .i64 r_6), .one (.int .i64 r_7), .arr 216 (enf u8v r_8), .arr 6 (enf u8v r_9)]) rfl ?_
  refine TL.extract rfl rfl rfl (v := .bool r_10) rfl ?_
  refine TL.alloc [.one (.int .i64 0), .one (.int .i64 0), .arr 216 (enf u8v (fun _ => (0 : UInt8))), .arr 6 (enf u8v (fun _ => (0 : UInt8)))] rfl rfl Try.zeroValue60 rfl fun b_3 => ?_
  refine TL.stM (news := [.one (.int .i64 r_6), .one (.int .i64 r_7), .arr 216 (enf u8v r_8), .arr 6 (enf u8v r_9)]) 0 0 4 rfl Try.sizeOf60 (ones_one rfl (ones_one rfl (ones_arr (fun _ => rfl) (ones_arr (fun _ => rfl) ones_nil)))) rfl rfl rfl rfl rfl rfl ?_
  refine TL.assign rfl rfl (v := .bool r_10) rfl ?_
  refine TL.done ?_
  refine TC.seq ?_
  refine TC.region ?_
  refine TL.move rfl rfl (v := .int .i64 s1) rfl ?_
  refine TL.move rfl rfl (v := .int .i64 s1) rfl ?_
  refine TL.bin .i64 s1 s1 rfl rfl rfl rfl (v := .int .i64 (w64 (s1 * s1))) rfl ?_
  refine TL.move rfl rfl (v := .int .i64 p1) rfl ?_
  refine TL.nz fun z1 => ?_
  refine TL.rem .i64 (w64 (s1 * s1)) p1 z1 rfl rfl rfl rfl ?_
  refine TL.conv .i64 .u8 (Int.tmod (w64 (s1 * s1)) p1) _ rfl rfl rfl Try.underlying2 Try.underlying5 (v := u8v (UInt8.ofInt (Int.tmod (w64 (s1 * s1)) p1))) (conv_i64_u8 _) ?_
  refine TL.fa Try.underlying60 rfl Try.sizeOf58 rfl 218 rfl rfl rfl rfl ?_
  refine TL.ixa 0 218 (by decide) Try.underlying58 Try.sizeOf5 rfl rfl rfl rfl rfl ?_
  refine TL.stA (e := u8v) (z := (UInt8.ofInt (Int.tmod (w64 (s1 * s1)) p1))) 1 3 0 rfl Try.sizeOf5 rfl (by omega) (s := 218) rfl rfl rfl rfl rfl rfl rfl ?_
  refine TL.done ?_
  refine TC.seq ?_
  refine TC.region ?_
  refine TL.move rfl rfl (v := .int .i64 s1) rfl ?_
  refine TL.conv .i64 .u8 s1 _ rfl rfl rfl Try.underlying2 Try.underlying5 (v := u8v (UInt8.ofInt s1)) (conv_i64_u8 _) ?_
  refine TL.move rfl rfl (v := .int .i64 s1) rfl ?_
  refine TL.conv .i64 .u8 s1 _ rfl rfl rfl Try.underlying2 Try.underlying5 (v := u8v (UInt8.ofInt s1)) (conv_i64_u8 _) ?_
  refine TL.buildA (segs0 := [.arr 6 (enf u8v (fun _ => (0 : UInt8)))]) (segs := [.arr 6 (enf u8v (upd (upd (upd (upd (fun _ => (0 : UInt8)) 0 (UInt8.ofInt s1)) 1 (0 : UInt8)) 2 (0 : UInt8)) 3 (UInt8.ofInt s1)))]) Try.underlying58 Try.sizeOf5 Try.zeroValue58 rfl [(0, u8v (UInt8.ofInt s1)), (1, u8v (0 : UInt8)), (2, u8v (0 : UInt8)), (3, u8v (UInt8.ofInt s1))] rfl (fill_arr (e := u8v) (z := (UInt8.ofInt s1)) (q := 0) (s := 0) 0 rfl rfl rfl rfl rfl rfl (fill_arr (e := u8v) (z := (0 : UInt8)) (q := 1) (s := 0) 0 rfl rfl rfl rfl rfl rfl (fill_arr (e := u8v) (z := (0 : UInt8)) (q := 2) (s := 0) 0 rfl rfl rfl rfl rfl rfl (fill_arr (e := u8v) (z := (UInt8.ofInt s1)) (q := 3) (s := 0) 0 rfl rfl rfl rfl rfl rfl (rfl))))) rfl rfl ?_
  refine TL.fa Try.underlying60 rfl Try.sizeOf58 rfl 218 rfl rfl rfl rfl ?_
  refine TL.stM (news := [.arr 6 (enf u8v (upd (upd (upd (upd (fun _ => (0 : UInt8)) 0 (UInt8.ofInt s1)) 1 (0 : UInt8)) 2 (0 : UInt8)) 3 (UInt8.ofInt s1)))]) 0 3 1 rfl Try.sizeOf58 (ones_arr (fun _ => rfl) ones_nil) rfl rfl rfl rfl rfl rfl ?_
  refine TL.done ?_
  refine TC.seq ?_
  refine TC.region ?_
  refine TL.loadM 0 4 (Src.box 1 rfl) Try.isAgg60 Try.sizeOf60 (mid := [.one (.int .i64 r_1), .one (.int .i64 r_2), .arr 216 (enf u8v r_3), .arr 6 (enf u8v (upd r_4 0 (UInt8.ofInt (Int.tmod (w64 (s1 * s1)) p1))))]) rfl rfl rfl rfl rfl rfl ?_
  refine TL.loadM 0 4 (Src.box 0 rfl) Try.isAgg60 Try.sizeOf60 (mid := [.one (.int .i64 r_6), .one (.int .i64 r_7), .arr 216 (enf u8v r_8), .arr 6 (enf u8v (upd (upd (upd (upd (fun _ => (0 : UInt8)) 0 (UInt8.ofInt s1)) 1 (0 : UInt8)) 2 (0 : UInt8)) 3 (UInt8.ofInt s1)))]) rfl rfl rfl rfl rfl rfl ?_
  refine TL.buildS (segs0 := [.one (.int .i64 0), .one (.int .i64 0), .arr 216 (enf u8v (fun _ => (0 : UInt8))), .arr 6 (enf u8v (fun _ => (0 : UInt8))), .one (.int .i64 0), .one (.int .i64 0), .arr 216 (enf u8v (fun _ => (0 : UInt8))), .arr 6 (enf u8v (fun _ => (0 : UInt8))), .arr 36 (enf u8v (fun _ => (0 : UInt8)))]) (segs := [.one (.int .i64 r_1), .one (.int .i64 r_2), .arr 216 (enf u8v r_3), .arr 6 (enf u8v (upd r_4 0 (UInt8.ofInt (Int.tmod (w64 (s1 * s1)) p1)))), .one (.int .i64 r_6), .one (.int .i64 r_7), .arr 216 (enf u8v r_8), .arr 6 (enf u8v (upd (upd (upd (upd (fun _ => (0 : UInt8)) 0 (UInt8.ofInt s1)) 1 (0 : UInt8)) 2 (0 : UInt8)) 3 (UInt8.ofInt s1))), .arr 36 (enf u8v (fun _ => (0 : UInt8)))]) [224, 224, 36] Try.underlying63 ⟨Try.sizeOf60, Try.sizeOf60, Try.sizeOf61, trivial⟩ Try.zeroValue63 rfl [(0, sval [.one (.int .i64 r_1), .one (.int .i64 r_2), .arr 216 (enf u8v r_3), .arr 6 (enf u8v (upd r_4 0 (UInt8.ofInt (Int.tmod (w64 (s1 * s1)) p1))))]), (1, sval [.one (.int .i64 r_6), .one (.int .i64 r_7), .arr 216 (enf u8v r_8), .arr 6 (enf u8v (upd (upd (upd (upd (fun _ => (0 : UInt8)) 0 (UInt8.ofInt s1)) 1 (0 : UInt8)) 2 (0 : UInt8)) 3 (UInt8.ofInt s1)))])] rfl (fun pl hpl => by subst hpl; exact fill_mid (news := [.one (.int .i64 r_1), .one (.int .i64 r_2), .arr 216 (enf u8v r_3), .arr 6 (enf u8v (upd r_4 0 (UInt8.ofInt (Int.tmod (w64 (s1 * s1)) p1))))]) 0 4 rfl rfl rfl rfl (fill_mid (news := [.one (.int .i64 r_6), .one (.int .i64 r_7), .arr 216 (enf u8v r_8), .arr 6 (enf u8v (upd (upd (upd (upd (fun _ => (0 : UInt8)) 0 (UInt8.ofInt s1)) 1 (0 : UInt8)) 2 (0 : UInt8)) 3 (UInt8.ofInt s1)))]) 4 4 rfl rfl rfl rfl (rfl))) rfl rfl ?_
  refine TL.alloc [.one (.int .i64 0), .one (.int .i64 0), .arr 216 (enf u8v (fun _ => (0 : UInt8))), .arr 6 (enf u8v (fun _ => (0 : UInt8))), .one (.int .i64 0), .one (.int .i64 0), .arr 216 (enf u8v (fun _ => (0 : UInt8))), .arr 6 (enf u8v (fun _ => (0 : UInt8))), .arr 36 (enf u8v (fun _ => (0 : UInt8)))] rfl rfl Try.zeroValue63 rfl fun b_4 => ?_
  refine TL.stM (news := [.one (.int .i64 r_1), .one (.int .i64 r_2), .arr 216 (enf u8v r_3), .arr 6 (enf u8v (upd r_4 0 (UInt8.ofInt (Int.tmod (w64 (s1 * s1)) p1)))), .one (.int .i64 r_6), .one (.int .i64 r_7), .arr 216 (enf u8v r_8), .arr 6 (enf u8v (upd (upd (upd (upd (fun _ => (0 : UInt8)) 0 (UInt8.ofInt s1)) 1 (0 : UInt8)) 2 (0 : UInt8)) 3 (UInt8.ofInt s1))), .arr 36 (enf u8v (fun _ => (0 : UInt8)))]) 0 0 9 rfl Try.sizeOf63 (ones_one rfl (ones_one rfl (ones_arr (fun _ => rfl) (ones_arr (fun _ => rfl) (ones_one rfl (ones_one rfl (ones_arr (fun _ => rfl) (ones_arr (fun _ => rfl) (ones_arr (fun _ => rfl) ones_nil))))))))) rfl rfl rfl rfl rfl rfl ?_
  refine TL.done ?_
  refine TC.seq ?_
  refine TC.region ?_
  refine TL.loadM 0 4 (Src.box 1 rfl) Try.isAgg60 Try.sizeOf60 (mid := [.one (.int .i64 r_6), .one (.int .i64 r_7), .arr 216 (enf u8v r_8), .arr 6 (enf u8v (upd (upd (upd (upd (fun _ => (0 : UInt8)) 0 (UInt8.ofInt s1)) 1 (0 : UInt8)) 2 (0 : UInt8)) 3 (UInt8.ofInt s1)))]) rfl rfl rfl rfl rfl rfl ?_
  refine TL.call (R := G.spec_l01Unit.R) Try.call96 rfl rfl rfl (fun w hS => G.spec_l01Unit.calls w r_6 r_7 r_8 (upd (upd (upd (upd (fun _ => (0 : UInt8)) 0 (UInt8.ofInt s1)) 1 (0 : UInt8)) 2 (0 : UInt8)) 3 (UInt8.ofInt s1))) ?_
  rintro r_11 _ _ ⟨rfl, rfl⟩
  refine TL.fa Try.underlying63 rfl Try.sizeOf61 rfl 448 rfl rfl rfl rfl ?_
  refine TL.ixa 0 448 (by decide) Try.underlying61 Try.sizeOf58 rfl rfl rfl rfl rfl ?_
  refine TL.stS (e := u8v) 0 8 0 rfl Try.sizeOf58 (fun _ => rfl) rfl (by omega) (s := 448) rfl rfl rfl rfl rfl ?_
  refine TL.done ?_
  refine TC.seq ?_
  refine TC.region ?_
  refine TL.loadM 0 9 (Src.box 0 rfl) Try.isAgg63 Try.sizeOf63 (mid := [.one (.int .i64 r_1), .one (.int .i64 r_2), .arr 216 (enf u8v r_3), .arr 6 (enf u8v (upd r_4 0 (UInt8.ofInt (Int.tmod (w64 (s1 * s1)) p1)))), .one (.int .i64 r_6), .one (.int .i64 r_7), .arr 216 (enf u8v r_8), .arr 6 (enf u8v (upd (upd (upd (upd (fun _ => (0 : UInt8)) 0 (UInt8.ofInt s1)) 1 (0 : UInt8)) 2 (0 : UInt8)) 3 (UInt8.ofInt s1))), .arr 36 (enf u8v (updN (fun _ => (0 : UInt8)) 0 6 r_11))]) rfl rfl rfl rfl rfl rfl ?_
  refine TL.stM (news := [.one (.int .i64 r_1), .one (.int .i64 r_2), .arr 216 (enf u8v r_3), .arr 6 (enf u8v (upd r_4 0 (UInt8.ofInt (Int.tmod (w64 (s1 * s1)) p1)))), .one (.int .i64 r_6), .one (.int .i64 r_7), .arr 216 (enf u8v r_8), .arr 6 (enf u8v (upd (upd (upd (upd (fun _ => (0 : UInt8)) 0 (UInt8.ofInt s1)) 1 (0 : UInt8)) 2 (0 : UInt8)) 3 (UInt8.ofInt s1))), .arr 36 (enf u8v (updN (fun _ => (0 : UInt8)) 0 6 r_11))]) 3 0 9 rfl Try.sizeOf63 (ones_one rfl (ones_one rfl (ones_arr (fun _ => rfl) (ones_arr (fun _ => rfl) (ones_one rfl (ones_one rfl (ones_arr (fun _ => rfl) (ones_arr (fun _ => rfl) (ones_arr (fun _ => rfl) ones_nil))))))))) rfl rfl rfl rfl rfl rfl ?_
  refine TL.done ?_
  exact TC.retF (Fin.body (fin1 (.inr rfl) rfl (.cellN rfl (Src.box 3 rfl) Try.isAgg63 Try.sizeOf63 rfl) [] rfl ⟨rfl, rfl⟩))

end Go.Proofs.Ytjjfoofjipafiaa.G

/- spec.MatrixPair, as a pure function. -/
set_option linter.unusedVariables false
namespace Go.Proofs.Ytjjfoofjipafiaa.G
open Go Go.Sx Go.Proofs

def spec_MatrixPair.f (p1 : Int) (s1 : Int) : Option (Int × Int × (Nat → UInt8) × (Nat → UInt8) × Int × Int × (Nat → UInt8) × (Nat → UInt8) × (Nat → UInt8) × Int) := (G.spec_l01Prime.f p1).bind (fun r_1 => (bif (!r_1) then some true else (G.spec_l01In.f s1 1 (w64 (p1 - 1))).bind (fun r_2 => some (!r_2))).bind (fun b_2 => (bif b_2 then some (0, 0, (fun _ => (0 : UInt8)), (fun _ => (0 : UInt8)), 0, 0, (fun _ => (0 : UInt8)), (fun _ => (0 : UInt8)), (fun _ => (0 : UInt8)), 2) else (G.spec_l10Matrix.f p1 s1).bind (fun p => match p with | (r_3, r_4, r_5, r_6, r_7, r_8, r_9, r_10, r_11) => some (r_3, r_4, r_5, r_6, r_7, r_8, r_9, r_10, r_11, 0)))))

def spec_MatrixPair.R (r : Int × Int × (Nat → UInt8) × (Nat → UInt8) × Int × Int × (Nat → UInt8) × (Nat → UInt8) × (Nat → UInt8) × Int) (v : Value) (L : List Asn) : Prop := v = .tuple #[sval [.one (.int .i64 r.1), .one (.int .i64 r.2.1), .arr 216 (enf u8v r.2.2.1), .arr 6 (enf u8v r.2.2.2.1), .one (.int .i64 r.2.2.2.2.1), .one (.int .i64 r.2.2.2.2.2.1), .arr 216 (enf u8v r.2.2.2.2.2.2.1), .arr 6 (enf u8v r.2.2.2.2.2.2.2.1), .arr 36 (enf u8v r.2.2.2.2.2.2.2.2.1)], .int .i64 r.2.2.2.2.2.2.2.2.2] ∧ L = []

set_option maxRecDepth 100000 in
set_option maxHeartbeats 4000000 in
theorem spec_MatrixPair.calls (w : World) (p1 : Int) (s1 : Int) :
    ∀ r, spec_MatrixPair.f p1 s1 = some r → Calls Try.prog 41 #[.int .i64 p1, .int .i64 s1] w (Ret w (spec_MatrixPair.R r)) := by

  refine calls_T (n := 20) (Γ := [(0, .int .i64 p1), (1, .int .i64 s1)]) (R := spec_MatrixPair.R) Try.func41 rfl rfl (Nat.le_of_ble_eq_true rfl) ⟨rfl, rfl, trivial⟩ ?_
  unfold spec_MatrixPair.f
  refine TC.seq ?_
  refine TC.region ?_
  refine TL.alloc [.one (.int .i64 0), .one (.int .i64 0), .arr 216 (enf u8v (fun _ => (0 : UInt8))), .arr 6 (enf u8v (fun _ => (0 : UInt8))), .one (.int .i64 0), .one (.int .i64 0), .arr 216 (enf u8v (fun _ => (0 : UInt8))), .arr 6 (enf u8v (fun _ => (0 : UInt8))), .arr 36 (enf u8v (fun _ => (0 : UInt8)))] rfl rfl Try.zeroValue63 rfl fun b_1 => ?_
  refine TL.assign rfl rfl (v := .int .i64 0) rfl ?_
  refine TL.done ?_
  refine TC.seq ?_
  refine TC.seq ?_
  refine TC.region ?_
  refine TL.move rfl rfl (v := .int .i64 p1) rfl ?_
  refine TL.call (R := G.spec_l01Prime.R) Try.call82 rfl rfl rfl (fun w hS => G.spec_l01Prime.calls w p1) ?_
  rintro r_1 _ _ ⟨rfl, rfl⟩
  refine TL.not r_1 rfl rfl rfl ?_
  refine TL.move rfl rfl (v := .bool (!r_1)) rfl ?_
  refine TL.cutJ (σ := Bool) (γ := Unit) (Γ' := fun b_2 _ => [(15, .bool b_2), (0, .int .i64 p1), (1, .int .i64 s1), (4, bp b_1 0), (5, .int .i64 0), (6, .int .i64 p1), (7, .bool r_1), (8, .bool (!r_1)), (9, .bool (!r_1))]) (L' := fun _ _ => [box b_1 63 [.one (.int .i64 0), .one (.int .i64 0), .arr 216 (enf u8v (fun _ => (0 : UInt8))), .arr 6 (enf u8v (fun _ => (0 : UInt8))), .one (.int .i64 0), .one (.int .i64 0), .arr 216 (enf u8v (fun _ => (0 : UInt8))), .arr 6 (enf u8v (fun _ => (0 : UInt8))), .arr 36 (enf u8v (fun _ => (0 : UInt8)))]]) 6 ?_ ?_
  · refine TL.ifb (t := 9) (b := (!r_1)) rfl (fun c1 => ?_) (fun c2 => ?_)
    · refine TL.skip rfl rfl (by decide) ?_
      refine TL.skip rfl rfl (by decide) ?_
      refine TL.skip rfl rfl (by decide) ?_
      refine TL.skip rfl rfl (by decide) ?_
      refine TL.skip rfl rfl (by decide) ?_
      refine TL.pick rfl rfl (b := true) rfl (r := .bool true) rfl ?_
      refine TL.done ?_
      exact TC.nrm (true) () ⟨rfl, rfl, rfl, rfl, rfl, rfl, rfl, rfl, (by rw [c1]; rfl), trivial⟩ [0] (by kernel_rfl)
    · refine TL.move rfl rfl (v := .int .i64 s1) rfl ?_
      refine TL.move rfl rfl (v := .int .i64 p1) rfl ?_
      refine TL.bin .i64 p1 1 rfl rfl rfl rfl (v := .int .i64 (w64 (p1 - 1))) rfl ?_
      refine TL.call (R := G.spec_l01In.R) Try.call49 rfl rfl rfl (fun w hS => G.spec_l01In.calls w s1 1 (w64 (p1 - 1))) ?_
      rintro r_2 _ _ ⟨rfl, rfl⟩
      refine TL.not r_2 rfl rfl rfl ?_
      refine TL.pick rfl rfl (b := false) rfl (r := .bool (!r_2)) rfl ?_
      refine TL.done ?_
      exact TC.nrm ((!r_2)) () ⟨rfl, rfl, rfl, rfl, rfl, rfl, rfl, rfl, (by rw [c2]; rfl), trivial⟩ [0] (by kernel_rfl)
  · rintro b_2 _
    refine TL.done ?_
    refine TC.cond (b := b_2) rfl (fun c3 => ?_) (fun c4 => ?_)
    · refine TC.seq ?_
      refine TC.region ?_
      refine TL.buildS (segs0 := [.one (.int .i64 0), .one (.int .i64 0), .arr 216 (enf u8v (fun _ => (0 : UInt8))), .arr 6 (enf u8v (fun _ => (0 : UInt8))), .one (.int .i64 0), .one (.int .i64 0), .arr 216 (enf u8v (fun _ => (0 : UInt8))), .arr 6 (enf u8v (fun _ => (0 : UInt8))), .arr 36 (enf u8v (fun _ => (0 : UInt8)))]) (segs := [.one (.int .i64 0), .one (.int .i64 0), .arr 216 (enf u8v (fun _ => (0 : UInt8))), .arr 6 (enf u8v (fun _ => (0 : UInt8))), .one (.int .i64 0), .one (.int .i64 0), .arr 216 (enf u8v (fun _ => (0 : UInt8))), .arr 6 (enf u8v (fun _ => (0 : UInt8))), .arr 36 (enf u8v (fun _ => (0 : UInt8)))]) [224, 224, 36] Try.underlying63 ⟨Try.sizeOf60, Try.sizeOf60, Try.sizeOf61, trivial⟩ Try.zeroValue63 rfl [] rfl (fun pl hpl => by subst hpl; exact rfl) rfl rfl ?_
      refine TL.stM (news := [.one (.int .i64 0), .one (.int .i64 0), .arr 216 (enf u8v (fun _ => (0 : UInt8))), .arr 6 (enf u8v (fun _ => (0 : UInt8))), .one (.int .i64 0), .one (.int .i64 0), .arr 216 (enf u8v (fun _ => (0 : UInt8))), .arr 6 (enf u8v (fun _ => (0 : UInt8))), .arr 36 (enf u8v (fun _ => (0 : UInt8)))]) 0 0 9 rfl Try.sizeOf63 (ones_one rfl (ones_one rfl (ones_arr (fun _ => rfl) (ones_arr (fun _ => rfl) (ones_one rfl (ones_one rfl (ones_arr (fun _ => rfl) (ones_arr (fun _ => rfl) (ones_arr (fun _ => rfl) ones_nil))))))))) rfl rfl rfl rfl rfl rfl ?_
      refine TL.assign rfl rfl (v := .int .i64 2) rfl ?_
      refine TL.done ?_
      exact TC.retF (Fin.body (fin2 (.inr rfl) rfl (.cellN rfl (Src.box 0 rfl) Try.isAgg63 Try.sizeOf63 rfl) (.tmp rfl) [] rfl ⟨rfl, rfl⟩))
    · refine TC.skip ?_
      refine TC.seq ?_
      refine TC.region ?_
      refine TL.move rfl rfl (v := .int .i64 p1) rfl ?_
      refine TL.move rfl rfl (v := .int .i64 s1) rfl ?_
      refine TL.call (R := G.spec_l10Matrix.R) Try.call83 rfl rfl rfl (fun w hS => G.spec_l10Matrix.calls w p1 s1) ?_
      rintro ⟨r_3, r_4, r_5, r_6, r_7, r_8, r_9, r_10, r_11⟩ _ _ ⟨rfl, rfl⟩
      refine TL.stM (news := [.one (.int .i64 r_3), .one (.int .i64 r_4), .arr 216 (enf u8v r_5), .arr 6 (enf u8v r_6), .one (.int .i64 r_7), .one (.int .i64 r_8), .arr 216 (enf u8v r_9), .arr 6 (enf u8v r_10), .arr 36 (enf u8v r_11)]) 0 0 9 rfl Try.sizeOf63 (ones_one rfl (ones_one rfl (ones_arr (fun _ => rfl) (ones_arr (fun _ => rfl) (ones_one rfl (ones_one rfl (ones_arr (fun _ => rfl) (ones_arr (fun _ => rfl) (ones_arr (fun _ => rfl) ones_nil))))))))) rfl rfl rfl rfl rfl rfl ?_
      refine TL.assign rfl rfl (v := .int .i64 0) rfl ?_
      refine TL.done ?_
      exact TC.retF (Fin.body (fin2 (.inr rfl) rfl (.cellN rfl (Src.box 0 rfl) Try.isAgg63 Try.sizeOf63 rfl) (.tmp rfl) [] rfl ⟨rfl, rfl⟩))

end Go.Proofs.Ytjjfoofjipafiaa.G

/- impl.in, as a pure function. -/
set_option linter.unusedVariables false
namespace Go.Proofs.Ytjjfoofjipafiaa.G
open Go Go.Sx Go.Proofs

def impl_in.f (n_1 : Int) (low1 : Int) (high1 : Int) : Option Bool := some ((decide (n_1 ≥ low1)) && (decide (n_1 ≤ high1)))

def impl_in.R (r : Bool) (v : Value) (L : List Asn) : Prop := v = .bool r ∧ L = []

set_option maxRecDepth 100000 in
set_option maxHeartbeats 4000000 in
theorem impl_in.calls (w : World) (n_1 : Int) (low1 : Int) (high1 : Int) :
    ∀ r, impl_in.f n_1 low1 high1 = some r → Calls Try.prog 62 #[.int .i64 n_1, .int .i64 low1, .int .i64 high1] w (Ret w (impl_in.R r)) := by

  refine calls_T (n := 15) (Γ := [(0, .int .i64 n_1), (1, .int .i64 low1), (2, .int .i64 high1)]) (R := impl_in.R) Try.func62 rfl rfl (Nat.le_of_ble_eq_true rfl) ⟨rfl, rfl, rfl, trivial⟩ ?_
  unfold impl_in.f
  refine TC.seq ?_
  refine TC.region ?_
  refine TL.assign rfl rfl (v := .bool false) rfl ?_
  refine TL.done ?_
  refine TC.seq ?_
  refine TC.region ?_
  refine TL.move rfl rfl (v := .int .i64 n_1) rfl ?_
  refine TL.move rfl rfl (v := .int .i64 low1) rfl ?_
  refine TL.bin .i64 n_1 low1 rfl rfl rfl rfl (v := .bool (decide (n_1 ≥ low1))) rfl ?_
  refine TL.move rfl rfl (v := .bool (decide (n_1 ≥ low1))) rfl ?_
  refine TL.cutU 4 [(14, .bool ((decide (n_1 ≥ low1)) && (decide (n_1 ≤ high1)))), (0, .int .i64 n_1), (1, .int .i64 low1), (2, .int .i64 high1), (6, .bool false), (7, .int .i64 n_1), (8, .int .i64 low1), (9, .bool (decide (n_1 ≥ low1))), (10, .bool (decide (n_1 ≥ low1)))] [] ?_ ?_
  · refine TL.cases (t := 10) (b := (decide (n_1 ≥ low1))) rfl (fun c1 => ?_) (fun c2 => ?_)
    · refine TL.move rfl rfl (v := .int .i64 n_1) rfl ?_
      refine TL.move rfl rfl (v := .int .i64 high1) rfl ?_
      refine TL.bin .i64 n_1 high1 rfl rfl rfl rfl (v := .bool (decide (n_1 ≤ high1))) rfl ?_
      refine TL.pick rfl rfl (b := true) rfl (r := .bool (decide (n_1 ≤ high1))) rfl ?_
      refine TL.done ?_
      exact TC.nrm () () ⟨(by rw [c1]; rfl), rfl, rfl, rfl, rfl, rfl, rfl, rfl, (by rw [c1]; rfl), trivial⟩ [] (by kernel_rfl)
    · refine TL.skip rfl rfl (by decide) ?_
      refine TL.skip rfl rfl (by decide) ?_
      refine TL.skip rfl rfl (by decide) ?_
      refine TL.pick rfl rfl (b := false) rfl (r := .bool false) rfl ?_
      refine TL.done ?_
      exact TC.nrm () () ⟨(by rw [c2]; rfl), rfl, rfl, rfl, rfl, rfl, rfl, rfl, (by rw [c2]; rfl), trivial⟩ [] (by kernel_rfl)
  · refine TL.assign rfl rfl (v := .bool ((decide (n_1 ≥ low1)) && (decide (n_1 ≤ high1)))) rfl ?_
    refine TL.done ?_
    exact TC.retF (Fin.body (fin1 (.inr rfl) rfl (.tmp rfl) [] rfl ⟨rfl, rfl⟩))

end Go.Proofs.Ytjjfoofjipafiaa.G

/- slices.Index[[]int64,int64], as a pure function. -/
set_option linter.unusedVariables false
namespace Go.Proofs.Ytjjfoofjipafiaa.G
open Go Go.Sx Go.Proofs

def slices_Index_int64_int64.b0 (s1 : List Int) (v_1 : Int) : Int → Option (LR Int Int) := fun x1 => (bif (decide (x1 < (s1.length : Int))) then chk x1 s1.length ((bif (v_1 == (gt s1 x1)) then some (.ret (x1)) else some (.next (w64 (x1 + 1))))) else some (.brk x1))

def slices_Index_int64_int64.f (s1 : List Int) (v_1 : Int) : Option Int := (loop (slices_Index_int64_int64.b0 s1 v_1) 0).bind (ln (fun x1 => some (-1)))

def slices_Index_int64_int64.R (r : Int) (v : Value) (L : List Asn) : Prop := v = .int .i64 r ∧ L = []

set_option maxRecDepth 100000 in
set_option maxHeartbeats 4000000 in
theorem slices_Index_int64_int64.calls (w : World) (s2 : SV) (s1 : List Int) (v_1 : Int) (h1 : Reads Ei (hp w) s2 s1) :
    ∀ r, slices_Index_int64_int64.f s1 v_1 = some r → Calls Try.prog 112 #[SV.v s2, .int .i64 v_1] w (Ret w (slices_Index_int64_int64.R r)) := by

  refine calls_T (n := 19) (Γ := [(0, SV.v s2), (1, .int .i64 v_1)]) (R := slices_Index_int64_int64.R) Try.func112 rfl rfl (Nat.le_of_ble_eq_true rfl) ⟨rfl, rfl, trivial⟩ ?_
  unfold slices_Index_int64_int64.f
  refine TC.seq ?_
  refine TC.region ?_
  refine TL.assign rfl rfl (v := .int .i64 0) rfl ?_
  refine TL.done ?_
  refine TC.seq ?_
  refine TC.seq ?_
  refine TC.region ?_
  refine TL.move rfl rfl (v := SV.v s2) rfl ?_
  refine TL.len (Rd.old h1) Try.underlying22 rfl rfl rfl ?_
  refine TL.move rfl rfl (v := .int .i64 0) rfl ?_
  refine TL.done ?_
  refine TC.loopK (σ := Int) (γ := Unit) (Γ' := (fun x1 _ => [(0, SV.v s2), (1, .int .i64 v_1), (7, .int .i64 (s1.length : Int)), (8, .int .i64 x1)])) (L' := (fun x1 _ => [])) (Γb := (fun x1 _ => [(0, SV.v s2), (1, .int .i64 v_1), (7, .int .i64 (s1.length : Int)), (8, .int .i64 x1)])) (Lb := (fun x1 _ => [])) (0) (()) ⟨rfl, rfl, rfl, rfl, trivial⟩ [] rfl ?_ ?_
  · rintro x1 _
    refine TC.seq ?_
    refine TC.region ?_
    refine TL.bin .i64 x1 (s1.length : Int) rfl rfl rfl rfl (v := .bool (decide (x1 < (s1.length : Int)))) rfl ?_
    refine TL.done ?_
    refine TC.seq ?_
    refine TC.cond (b := (decide (x1 < (s1.length : Int)))) rfl (fun c1 => ?_) (fun c2 => ?_)
    · refine TC.skip ?_
      refine TC.seq ?_
      refine TC.block (NoEx.loop rfl NoEx.body) ?_
      refine TC.seq ?_
      refine TC.region ?_
      refine TL.move rfl rfl (v := .int .i64 x1) rfl ?_
      refine TL.assign rfl rfl (v := .int .i64 x1) rfl ?_
      refine TL.done ?_
      refine TC.seq ?_
      refine TC.region ?_
      refine TL.move rfl rfl (v := .int .i64 v_1) rfl ?_
      refine TL.move rfl rfl (v := SV.v s2) rfl ?_
      refine TL.move rfl rfl (v := .int .i64 x1) rfl ?_
      refine TL.chk fun h2 => ?_
      refine TL.ixs x1 x1.toNat (Rd.old h1) h2 Try.underlying22 Try.sizeOf2 rfl rfl rfl rfl (by omega) ?_
      refine TL.loadE (Rd.old h1) Try.isAgg2 x1.toNat 0 (gt_spec h2) (v := .int .i64 (gt s1 x1)) rfl (by simp only [show Ei.sz = 1 from rfl] <;> omega) rfl rfl rfl ?_
      refine TL.bin .i64 v_1 (gt s1 x1) rfl rfl rfl rfl (v := .bool (v_1 == (gt s1 x1))) rfl ?_
      refine TL.done ?_
      refine TC.cond (b := (v_1 == (gt s1 x1))) rfl (fun c3 => ?_) (fun c4 => ?_)
      · refine TC.seq ?_
        refine TC.region ?_
        refine TL.move rfl rfl (v := .int .i64 x1) rfl ?_
        refine TL.assign rfl rfl (v := .int .i64 x1) rfl ?_
        refine TL.done ?_
        exact TC.retF (Fin.loop Far.ret (Fin.body (fin1 (.inr rfl) rfl (.tmp rfl) [] rfl ⟨rfl, rfl⟩)))
      · refine TC.skip ?_
        refine TC.region ?_
        refine TL.bin .i64 x1 1 rfl rfl rfl rfl (v := .int .i64 (w64 (x1 + 1))) rfl ?_
        refine TL.move rfl rfl (v := .int .i64 (w64 (x1 + 1))) rfl ?_
        refine TL.done ?_
        exact TC.next ((w64 (x1 + 1))) (()) ⟨rfl, rfl, rfl, rfl, trivial⟩ [] rfl
    · exact TC.brk (x1) (()) ⟨rfl, rfl, rfl, rfl, trivial⟩ [] rfl
  · rintro x1 _
    refine TC.seq ?_
    refine TC.region ?_
    refine TL.assign rfl rfl (v := .int .i64 (-1)) rfl ?_
    refine TL.done ?_
    exact TC.retF (Fin.body (fin1 (.inr rfl) rfl (.tmp rfl) [] rfl ⟨rfl, rfl⟩))

end Go.Proofs.Ytjjfoofjipafiaa.G

/- slices.Contains[[]int64,int64], as a pure function. -/
set_option linter.unusedVariables false
namespace Go.Proofs.Ytjjfoofjipafiaa.G
open Go Go.Sx Go.Proofs

def slices_Contains_int64_int64.f (s1 : List Int) (v_1 : Int) : Option Bool := (G.slices_Index_int64_int64.f s1 v_1).bind (fun r_1 => some (decide (r_1 ≥ 0)))

def slices_Contains_int64_int64.R (r : Bool) (v : Value) (L : List Asn) : Prop := v = .bool r ∧ L = []

set_option maxRecDepth 100000 in
set_option maxHeartbeats 4000000 in
theorem slices_Contains_int64_int64.calls (w : World) (s2 : SV) (s1 : List Int) (v_1 : Int) (h1 : Reads Ei (hp w) s2 s1) :
    ∀ r, slices_Contains_int64_int64.f s1 v_1 = some r → Calls Try.prog 97 #[SV.v s2, .int .i64 v_1] w (Ret w (slices_Contains_int64_int64.R r)) := by

  refine calls_T (n := 9) (Γ := [(0, SV.v s2), (1, .int .i64 v_1)]) (R := slices_Contains_int64_int64.R) Try.func97 rfl rfl (Nat.le_of_ble_eq_true rfl) ⟨rfl, rfl, trivial⟩ ?_
  unfold slices_Contains_int64_int64.f
  refine TC.seq ?_
  refine TC.region ?_
  refine TL.assign rfl rfl (v := .bool false) rfl ?_
  refine TL.done ?_
  refine TC.seq ?_
  refine TC.region ?_
  refine TL.move rfl rfl (v := SV.v s2) rfl ?_
  refine TL.move rfl rfl (v := .int .i64 v_1) rfl ?_
  refine TL.call (R := G.slices_Index_int64_int64.R) Try.call112 rfl rfl rfl (fun w hS => G.slices_Index_int64_int64.calls w s2 s1 v_1 ((Rd.old h1) w hS)) ?_
  rintro r_1 _ _ ⟨rfl, rfl⟩
  refine TL.bin .i64 r_1 0 rfl rfl rfl rfl (v := .bool (decide (r_1 ≥ 0))) rfl ?_
  refine TL.assign rfl rfl (v := .bool (decide (r_1 ≥ 0))) rfl ?_
  refine TL.done ?_
  exact TC.retF (Fin.body (fin1 (.inr rfl) rfl (.tmp rfl) [] rfl ⟨rfl, rfl⟩))

end Go.Proofs.Ytjjfoofjipafiaa.G

/- impl.isPrime, as a pure function. -/
set_option linter.unusedVariables false
namespace Go.Proofs.Ytjjfoofjipafiaa.G
open Go Go.Sx Go.Proofs

def impl_isPrime.f (p1 : Int) : Option Bool := (G.slices_Contains_int64_int64.f ([2, 3, 5, 7, 11, 13] : List Int) p1).bind (fun r_1 => some r_1)

def impl_isPrime.R (r : Bool) (v : Value) (L : List Asn) : Prop := v = .bool r ∧ L = []

set_option maxRecDepth 100000 in
set_option maxHeartbeats 4000000 in
theorem impl_isPrime.calls (w : World) (p1 : Int) :
    ∀ r, impl_isPrime.f p1 = some r → Calls Try.prog 84 #[.int .i64 p1] w (Ret w (impl_isPrime.R r)) := by

  refine calls_T (n := 6) (Γ := [(0, .int .i64 p1)]) (R := impl_isPrime.R) Try.func84 rfl rfl (Nat.le_of_ble_eq_true rfl) ⟨rfl, trivial⟩ ?_
  unfold impl_isPrime.f
  refine TC.seq ?_
  refine TC.region ?_
  refine TL.assign rfl rfl (v := .bool false) rfl ?_
  refine TL.done ?_
  refine TC.seq ?_
  refine TC.region ?_
  refine TL.blit Ei ([2, 3, 5, 7, 11, 13] : List Int) Try.underlying22 Try.sizeOf2 Try.zeroValue2 rfl rfl rfl [(0, .int .i64 2), (1, .int .i64 3), (2, .int .i64 5), (3, .int .i64 7), (4, .int .i64 11), (5, .int .i64 13)] rfl ⟨rfl, rfl, rfl, rfl, rfl, rfl, rfl, rfl, rfl, rfl, rfl, rfl, trivial⟩ rfl rfl fun s1 => ?_
  refine TL.move rfl rfl (v := .int .i64 p1) rfl ?_
  refine TL.call (R := G.slices_Contains_int64_int64.R) Try.call97 rfl rfl rfl (fun w hS => G.slices_Contains_int64_int64.calls w s1 ([2, 3, 5, 7, 11, 13] : List Int) p1 ((Rd.row 0 rfl) w hS)) ?_
  rintro r_1 _ _ ⟨rfl, rfl⟩
  refine TL.assign rfl rfl (v := .bool r_1) rfl ?_
  refine TL.done ?_
  exact TC.retF (Fin.body (fin1 (.inr rfl) rfl (.tmp rfl) [] rfl ⟨rfl, rfl⟩))

end Go.Proofs.Ytjjfoofjipafiaa.G

/- impl.built, as a pure function. -/
set_option linter.unusedVariables false
namespace Go.Proofs.Ytjjfoofjipafiaa.G
open Go Go.Sx Go.Proofs

def impl_built.b0 (n_1 : Int) (product1 : Int → Int → Option Int) (x1 : Int) : (Nat → UInt8) × Int → Option (LB ((Nat → UInt8) × Int)) := fun p => match p with | (a_2, x2) => (bif (decide (x2 < n_1)) then (product1 x1 x2).bind (fun r_1 => ((bif (decide (r_1 ≥ 0)) then chk x1 6 (chk x2 6 (chk r_1 6 (some (upd a_2 (x1.toNat * 36 + x2.toNat * 6 + r_1.toNat) (1 : UInt8))))) else some a_2)).bind (fun a_3 => some (.next (a_3, (w64 (x2 + 1)))))) else some (.brk (a_2, x2)))

def impl_built.b1 (n_1 : Int) (product1 : Int → Int → Option Int) : (Nat → UInt8) × Int → Option (LB ((Nat → UInt8) × Int)) := fun p => match p with | (a_1, x1) => (bif (decide (x1 < n_1)) then (loop1 (impl_built.b0 n_1 product1 x1) (a_1, 0)).bind (fun p => match p with | (a_2, x2) => some (.next (a_2, (w64 (x1 + 1))))) else some (.brk (a_1, x1)))

def impl_built.f (p1 : Int) (n_1 : Int) (form1 : Nat → UInt8) (product1 : Int → Int → Option Int) : Option (Int × Int × (Nat → UInt8) × (Nat → UInt8)) := (loop1 (impl_built.b1 n_1 product1) ((fun _ => (0 : UInt8)), 0)).bind (fun p => match p with | (a_1, x1) => some (p1, n_1, a_1, form1))

def impl_built.R (r : Int × Int × (Nat → UInt8) × (Nat → UInt8)) (v : Value) (L : List Asn) : Prop := v = sval [.one (.int .i64 r.1), .one (.int .i64 r.2.1), .arr 216 (enf u8v r.2.2.1), .arr 6 (enf u8v r.2.2.2)] ∧ L = []

set_option maxRecDepth 100000 in
set_option maxHeartbeats 4000000 in
theorem impl_built.calls (w : World) (p1 : Int) (n_1 : Int) (form1 : Nat → UInt8) (f1 : Nat) (fst1 : List Value) (cap1 : List Value) (product1 : Int → Int → Option Int) (hc1 : ∀ (args_ : Array Value) (w_ : World), (callFunc f1 args_).run Try.prog w_ = .ok (.enter f1 args_) w_) (hf1 : ∀ w_, Hle (hp w) (hp w_) → ∀ (x0_ : Int) (x1_ : Int), ∀ r_, product1 x0_ x1_ = some r_ → Calls Try.prog f1 (fst1 ++ ([.int .i64 x0_, .int .i64 x1_] : List Value) ++ cap1).toArray w_ (Ret w_ (fun (v_ : Value) (L_ : List Asn) => v_ = .int .i64 r_ ∧ L_ = []))) :
    ∀ r, impl_built.f p1 n_1 form1 product1 = some r → Calls Try.prog 98 #[.int .i64 p1, .int .i64 n_1, sval [.arr 6 (enf u8v form1)], .func (.func f1) fst1.toArray cap1.toArray] w (Ret w (impl_built.R r)) := by

  refine calls_T (n := 41) (Γ := [(0, .int .i64 p1), (1, .int .i64 n_1), (2, sval [.arr 6 (enf u8v form1)]), (3, .func (.func f1) fst1.toArray cap1.toArray)]) (R := impl_built.R) Try.func98 rfl rfl (Nat.le_of_ble_eq_true rfl) ⟨rfl, rfl, rfl, rfl, trivial⟩ ?_
  unfold impl_built.f
  refine TC.seq ?_
  refine TC.region ?_
  refine TL.box [.arr 6 (enf u8v form1)] rfl rfl rfl rfl fun b_1 => ?_
  refine TL.alloc [.one (.int .i64 0), .one (.int .i64 0), .arr 216 (enf u8v (fun _ => (0 : UInt8))), .arr 6 (enf u8v (fun _ => (0 : UInt8)))] rfl rfl Try.zeroValue60 rfl fun b_2 => ?_
  refine TL.done ?_
  refine TC.seq ?_
  refine TC.region ?_
  refine TL.move rfl rfl (v := .int .i64 p1) rfl ?_
  refine TL.move rfl rfl (v := .int .i64 n_1) rfl ?_
  refine TL.loadM 0 1 (Src.box 1 rfl) Try.isAgg58 Try.sizeOf58 (mid := [.arr 6 (enf u8v form1)]) rfl rfl rfl rfl rfl rfl ?_
  refine TL.buildS (segs0 := [.one (.int .i64 0), .one (.int .i64 0), .arr 216 (enf u8v (fun _ => (0 : UInt8))), .arr 6 (enf u8v (fun _ => (0 : UInt8)))]) (segs := [.one (.int .i64 p1), .one (.int .i64 n_1), .arr 216 (enf u8v (fun _ => (0 : UInt8))), .arr 6 (enf u8v form1)]) [1, 1, 216, 6] Try.underlying60 ⟨Try.sizeOf2, Try.sizeOf2, Try.sizeOf57, Try.sizeOf58, trivial⟩ Try.zeroValue60 rfl [(0, .int .i64 p1), (1, .int .i64 n_1), (3, sval [.arr 6 (enf u8v form1)])] rfl (fun pl hpl => by subst hpl; exact fill_one 0 rfl rfl rfl rfl (fill_one 1 rfl rfl rfl rfl (fill_mid (news := [.arr 6 (enf u8v form1)]) 3 1 rfl rfl rfl rfl (rfl)))) rfl rfl ?_
  refine TL.alloc [.one (.int .i64 0), .one (.int .i64 0), .arr 216 (enf u8v (fun _ => (0 : UInt8))), .arr 6 (enf u8v (fun _ => (0 : UInt8)))] rfl rfl Try.zeroValue60 rfl fun b_3 => ?_
  refine TL.stM (news := [.one (.int .i64 p1), .one (.int .i64 n_1), .arr 216 (enf u8v (fun _ => (0 : UInt8))), .arr 6 (enf u8v form1)]) 0 0 4 rfl Try.sizeOf60 (ones_one rfl (ones_one rfl (ones_arr (fun _ => rfl) (ones_arr (fun _ => rfl) ones_nil)))) rfl rfl rfl rfl rfl rfl ?_
  refine TL.done ?_
  refine TC.seq ?_
  refine TC.seq ?_
  refine TC.region ?_
  refine TL.move rfl rfl (v := .int .i64 n_1) rfl ?_
  refine TL.move rfl rfl (v := .int .i64 0) rfl ?_
  refine TL.done ?_
  refine TC.loop1 (σ := (Nat → UInt8) × Int) (γ := Unit) (Γ' := (fun p q => match p, q with | (a_1, x1), _ => [(1, .int .i64 n_1), (3, .func (.func f1) fst1.toArray cap1.toArray), (8, bp b_2 0), (9, bp b_3 0), (17, .int .i64 n_1), (18, .int .i64 x1)])) (L' := (fun p q => match p, q with | (a_1, x1), _ => [box b_2 60 [.one (.int .i64 0), .one (.int .i64 0), .arr 216 (enf u8v (fun _ => (0 : UInt8))), .arr 6 (enf u8v (fun _ => (0 : UInt8)))], box b_3 60 [.one (.int .i64 p1), .one (.int .i64 n_1), .arr 216 (enf u8v a_1), .arr 6 (enf u8v form1)]])) (Γb := (fun p q => match p, q with | (a_1, x1), _ => [(1, .int .i64 n_1), (3, .func (.func f1) fst1.toArray cap1.toArray), (8, bp b_2 0), (9, bp b_3 0), (17, .int .i64 n_1), (18, .int .i64 x1)])) (Lb := (fun p q => match p, q with | (a_1, x1), _ => [box b_2 60 [.one (.int .i64 0), .one (.int .i64 0), .arr 216 (enf u8v (fun _ => (0 : UInt8))), .arr 6 (enf u8v (fun _ => (0 : UInt8)))], box b_3 60 [.one (.int .i64 p1), .one (.int .i64 n_1), .arr 216 (enf u8v a_1), .arr 6 (enf u8v form1)]])) (((fun _ => (0 : UInt8)), 0)) (()) ⟨rfl, rfl, rfl, rfl, rfl, rfl, trivial⟩ [1, 0] rfl ?_ ?_
  · rintro ⟨a_1, x1⟩ _
    refine TC.seq ?_
    refine TC.region ?_
    refine TL.bin .i64 x1 n_1 rfl rfl rfl rfl (v := .bool (decide (x1 < n_1))) rfl ?_
    refine TL.done ?_
    refine TC.seq ?_
    refine TC.cond (b := (decide (x1 < n_1))) rfl (fun c1 => ?_) (fun c2 => ?_)
    · refine TC.skip ?_
      refine TC.seq ?_
      refine TC.block (NoEx.loop1 rfl) ?_
      refine TC.seq ?_
      refine TC.region ?_
      refine TL.move rfl rfl (v := .int .i64 x1) rfl ?_
      refine TL.assign rfl rfl (v := .int .i64 x1) rfl ?_
      refine TL.done ?_
      refine TC.seq ?_
      refine TC.region ?_
      refine TL.move rfl rfl (v := .int .i64 n_1) rfl ?_
      refine TL.move rfl rfl (v := .int .i64 0) rfl ?_
      refine TL.done ?_
      refine TC.loop1 (σ := (Nat → UInt8) × Int) (γ := Unit) (Γ' := (fun p q => match p, q with | (a_2, x2), _ => [(1, .int .i64 n_1), (3, .func (.func f1) fst1.toArray cap1.toArray), (8, bp b_2 0), (9, bp b_3 0), (10, .int .i64 x1), (17, .int .i64 n_1), (18, .int .i64 x1), (21, .int .i64 n_1), (22, .int .i64 x2)])) (L' := (fun p q => match p, q with | (a_2, x2), _ => [box b_2 60 [.one (.int .i64 0), .one (.int .i64 0), .arr 216 (enf u8v (fun _ => (0 : UInt8))), .arr 6 (enf u8v (fun _ => (0 : UInt8)))], box b_3 60 [.one (.int .i64 p1), .one (.int .i64 n_1), .arr 216 (enf u8v a_2), .arr 6 (enf u8v form1)]])) (Γb := (fun p q => match p, q with | (a_2, x2), _ => [(1, .int .i64 n_1), (3, .func (.func f1) fst1.toArray cap1.toArray), (8, bp b_2 0), (9, bp b_3 0), (10, .int .i64 x1), (17, .int .i64 n_1), (18, .int .i64 x1), (21, .int .i64 n_1), (22, .int .i64 x2)])) (Lb := (fun p q => match p, q with | (a_2, x2), _ => [box b_2 60 [.one (.int .i64 0), .one (.int .i64 0), .arr 216 (enf u8v (fun _ => (0 : UInt8))), .arr 6 (enf u8v (fun _ => (0 : UInt8)))], box b_3 60 [.one (.int .i64 p1), .one (.int .i64 n_1), .arr 216 (enf u8v a_2), .arr 6 (enf u8v form1)]])) ((a_1, 0)) (()) ⟨rfl, rfl, rfl, rfl, rfl, rfl, rfl, rfl, rfl, trivial⟩ [0, 0] rfl ?_ ?_
      · rintro ⟨a_2, x2⟩ _
        refine TC.seq ?_
        refine TC.region ?_
        refine TL.bin .i64 x2 n_1 rfl rfl rfl rfl (v := .bool (decide (x2 < n_1))) rfl ?_
        refine TL.done ?_
        refine TC.seq ?_
        refine TC.cond (b := (decide (x2 < n_1))) rfl (fun c3 => ?_) (fun c4 => ?_)
        · refine TC.skip ?_
          refine TC.seq ?_
          refine TC.block (NoEx.loop1 rfl) ?_
          refine TC.seq ?_
          refine TC.region ?_
          refine TL.move rfl rfl (v := .int .i64 x2) rfl ?_
          refine TL.assign rfl rfl (v := .int .i64 x2) rfl ?_
          refine TL.done ?_
          refine TC.seq ?_
          refine TC.region ?_
          refine TL.move rfl rfl (v := .func (.func f1) fst1.toArray cap1.toArray) rfl ?_
          refine TL.move rfl rfl (v := .int .i64 x1) rfl ?_
          refine TL.move rfl rfl (v := .int .i64 x2) rfl ?_
          refine TL.callv (R := (fun r_ => (fun (v_ : Value) (L_ : List Asn) => v_ = .int .i64 r_ ∧ L_ = []))) (vs := [.int .i64 x1, .int .i64 x2]) hc1 rfl rfl rfl rfl (fun w hS => hf1 w hS.iw x1 x2) ?_
          rintro r_1 _ _ ⟨rfl, rfl⟩
          refine TL.assign rfl rfl (v := .int .i64 r_1) rfl ?_
          refine TL.done ?_
          refine TC.seq ?_
          refine TC.region ?_
          refine TL.move rfl rfl (v := .int .i64 r_1) rfl ?_
          refine TL.bin .i64 r_1 0 rfl rfl rfl rfl (v := .bool (decide (r_1 ≥ 0))) rfl ?_
          refine TL.done ?_
          refine TC.join1 (σ := (Nat → UInt8)) (γ := Unit) (Γ' := (fun a_3 _ => [(1, .int .i64 n_1), (3, .func (.func f1) fst1.toArray cap1.toArray), (8, bp b_2 0), (9, bp b_3 0), (10, .int .i64 x1), (17, .int .i64 n_1), (18, .int .i64 x1), (21, .int .i64 n_1), (22, .int .i64 x2)])) (L' := (fun a_3 _ => [box b_2 60 [.one (.int .i64 0), .one (.int .i64 0), .arr 216 (enf u8v (fun _ => (0 : UInt8))), .arr 6 (enf u8v (fun _ => (0 : UInt8)))], box b_3 60 [.one (.int .i64 p1), .one (.int .i64 n_1), .arr 216 (enf u8v a_3), .arr 6 (enf u8v form1)]])) ?_ ?_
          · refine TC.cond (b := (decide (r_1 ≥ 0))) rfl (fun c5 => ?_) (fun c6 => ?_)
            · refine TC.region ?_
              refine TL.move rfl rfl (v := .int .i64 x1) rfl ?_
              refine TL.move rfl rfl (v := .int .i64 x2) rfl ?_
              refine TL.move rfl rfl (v := .int .i64 r_1) rfl ?_
              refine TL.fa Try.underlying60 rfl Try.sizeOf57 rfl 2 rfl rfl rfl rfl ?_
              refine TL.chk fun h1 => ?_
              refine TL.ixa x1 (2 + x1.toNat * 36) h1 Try.underlying57 Try.sizeOf56 rfl rfl rfl rfl (by omega) ?_
              refine TL.chk fun h2 => ?_
              refine TL.ixa x2 (2 + (x1.toNat * 36 + x2.toNat * 6)) h2 Try.underlying56 Try.sizeOf55 rfl rfl rfl rfl (by omega) ?_
              refine TL.chk fun h3 => ?_
              refine TL.ixa r_1 (2 + (x1.toNat * 36 + x2.toNat * 6 + r_1.toNat)) h3 Try.underlying55 Try.sizeOf5 rfl rfl rfl rfl (by omega) ?_
              refine TL.stA (e := u8v) (z := (1 : UInt8)) 1 2 (x1.toNat * 36 + x2.toNat * 6 + r_1.toNat) rfl Try.sizeOf5 rfl (by omega) (s := 2) rfl (by omega) rfl rfl rfl rfl rfl ?_
              refine TL.done ?_
              exact TC.nrm ((upd a_2 (x1.toNat * 36 + x2.toNat * 6 + r_1.toNat) (1 : UInt8))) (()) ⟨rfl, rfl, rfl, rfl, rfl, rfl, rfl, rfl, rfl, trivial⟩ [0, 0] rfl
            · refine TC.skip ?_
              exact TC.nrm (a_2) (()) ⟨rfl, rfl, rfl, rfl, rfl, rfl, rfl, rfl, rfl, trivial⟩ [0, 0] rfl
          · rintro a_3 _
            refine TC.region ?_
            refine TL.bin .i64 x2 1 rfl rfl rfl rfl (v := .int .i64 (w64 (x2 + 1))) rfl ?_
            refine TL.move rfl rfl (v := .int .i64 (w64 (x2 + 1))) rfl ?_
            refine TL.done ?_
            exact TC.next1 ((a_3, (w64 (x2 + 1)))) (()) ⟨rfl, rfl, rfl, rfl, rfl, rfl, rfl, rfl, rfl, trivial⟩ [0, 0] rfl
        · exact TC.brk1 ((a_2, x2)) (()) ⟨rfl, rfl, rfl, rfl, rfl, rfl, rfl, rfl, rfl, trivial⟩ [0, 0] rfl
      · rintro ⟨a_2, x2⟩ _
        refine TC.region ?_
        refine TL.bin .i64 x1 1 rfl rfl rfl rfl (v := .int .i64 (w64 (x1 + 1))) rfl ?_
        refine TL.move rfl rfl (v := .int .i64 (w64 (x1 + 1))) rfl ?_
        refine TL.done ?_
        exact TC.next1 ((a_2, (w64 (x1 + 1)))) (()) ⟨rfl, rfl, rfl, rfl, rfl, rfl, trivial⟩ [0, 0] rfl
    · exact TC.brk1 ((a_1, x1)) (()) ⟨rfl, rfl, rfl, rfl, rfl, rfl, trivial⟩ [0, 0] rfl
  · rintro ⟨a_1, x1⟩ _
    refine TC.seq ?_
    refine TC.region ?_
    refine TL.loadM 0 4 (Src.box 1 rfl) Try.isAgg60 Try.sizeOf60 (mid := [.one (.int .i64 p1), .one (.int .i64 n_1), .arr 216 (enf u8v a_1), .arr 6 (enf u8v form1)]) rfl rfl rfl rfl rfl rfl ?_
    refine TL.stM (news := [.one (.int .i64 p1), .one (.int .i64 n_1), .arr 216 (enf u8v a_1), .arr 6 (enf u8v form1)]) 0 0 4 rfl Try.sizeOf60 (ones_one rfl (ones_one rfl (ones_arr (fun _ => rfl) (ones_arr (fun _ => rfl) ones_nil)))) rfl rfl rfl rfl rfl rfl ?_
    refine TL.done ?_
    exact TC.retF (Fin.body (fin1 (.inr rfl) rfl (.cellN rfl (Src.box 0 rfl) Try.isAgg60 Try.sizeOf60 rfl) [] rfl ⟨rfl, rfl⟩))

end Go.Proofs.Ytjjfoofjipafiaa.G

/- impl.NamedAlgebra$1, as a pure function. -/
set_option linter.unusedVariables false
namespace Go.Proofs.Ytjjfoofjipafiaa.G
open Go Go.Sx Go.Proofs

def impl_NamedAlgebra_1.f (x1 : Int) (x2 : Int) : Option Int := some 0

def impl_NamedAlgebra_1.R (r : Int) (v : Value) (L : List Asn) : Prop := v = .int .i64 r ∧ L = []

set_option maxRecDepth 100000 in
set_option maxHeartbeats 4000000 in
theorem impl_NamedAlgebra_1.calls (w : World) (x1 : Int) (x2 : Int) :
    ∀ r, impl_NamedAlgebra_1.f x1 x2 = some r → Calls Try.prog 99 #[.int .i64 x1, .int .i64 x2] w (Ret w (impl_NamedAlgebra_1.R r)) := by

  refine calls_T (n := 5) (Γ := [(0, .int .i64 x1), (1, .int .i64 x2)]) (R := impl_NamedAlgebra_1.R) Try.func99 rfl rfl (Nat.le_of_ble_eq_true rfl) ⟨rfl, rfl, trivial⟩ ?_
  unfold impl_NamedAlgebra_1.f
  refine TC.seq ?_
  refine TC.region ?_
  refine TL.assign rfl rfl (v := .int .i64 0) rfl ?_
  refine TL.done ?_
  refine TC.seq ?_
  refine TC.region ?_
  refine TL.assign rfl rfl (v := .int .i64 0) rfl ?_
  refine TL.done ?_
  exact TC.retF (Fin.body (fin1 (.inr rfl) rfl (.tmp rfl) [] rfl ⟨rfl, rfl⟩))

end Go.Proofs.Ytjjfoofjipafiaa.G

/- impl.NamedAlgebra$2, as a pure function. -/
set_option linter.unusedVariables false
namespace Go.Proofs.Ytjjfoofjipafiaa.G
open Go Go.Sx Go.Proofs

def impl_NamedAlgebra_2.f (i1 : Int) (j1 : Int) : Option Int := (bif (decide ((w64 (i1 + j1)) > 1)) then some (-1) else some (w64 (i1 + j1)))

def impl_NamedAlgebra_2.R (r : Int) (v : Value) (L : List Asn) : Prop := v = .int .i64 r ∧ L = []

set_option maxRecDepth 100000 in
set_option maxHeartbeats 4000000 in
theorem impl_NamedAlgebra_2.calls (w : World) (i1 : Int) (j1 : Int) :
    ∀ r, impl_NamedAlgebra_2.f i1 j1 = some r → Calls Try.prog 100 #[.int .i64 i1, .int .i64 j1] w (Ret w (impl_NamedAlgebra_2.R r)) := by

  refine calls_T (n := 12) (Γ := [(0, .int .i64 i1), (1, .int .i64 j1)]) (R := impl_NamedAlgebra_2.R) Try.func100 rfl rfl (Nat.le_of_ble_eq_true rfl) ⟨rfl, rfl, trivial⟩ ?_
  unfold impl_NamedAlgebra_2.f
  refine TC.seq ?_
  refine TC.region ?_
  refine TL.assign rfl rfl (v := .int .i64 0) rfl ?_
  refine TL.done ?_
  refine TC.seq ?_
  refine TC.seq ?_
  refine TC.region ?_
  refine TL.move rfl rfl (v := .int .i64 i1) rfl ?_
  refine TL.move rfl rfl (v := .int .i64 j1) rfl ?_
  refine TL.bin .i64 i1 j1 rfl rfl rfl rfl (v := .int .i64 (w64 (i1 + j1))) rfl ?_
  refine TL.bin .i64 (w64 (i1 + j1)) 1 rfl rfl rfl rfl (v := .bool (decide ((w64 (i1 + j1)) > 1))) rfl ?_
  refine TL.done ?_
  refine TC.cond (b := (decide ((w64 (i1 + j1)) > 1))) rfl (fun c1 => ?_) (fun c2 => ?_)
  · refine TC.seq ?_
    refine TC.region ?_
    refine TL.assign rfl rfl (v := .int .i64 (-1)) rfl ?_
    refine TL.done ?_
    exact TC.retF (Fin.body (fin1 (.inr rfl) rfl (.tmp rfl) [] rfl ⟨rfl, rfl⟩))
  · refine TC.skip ?_
    refine TC.seq ?_
    refine TC.region ?_
    refine TL.move rfl rfl (v := .int .i64 i1) rfl ?_
    refine TL.move rfl rfl (v := .int .i64 j1) rfl ?_
    refine TL.bin .i64 i1 j1 rfl rfl rfl rfl (v := .int .i64 (w64 (i1 + j1))) rfl ?_
    refine TL.assign rfl rfl (v := .int .i64 (w64 (i1 + j1))) rfl ?_
    refine TL.done ?_
    exact TC.retF (Fin.body (fin1 (.inr rfl) rfl (.tmp rfl) [] rfl ⟨rfl, rfl⟩))

end Go.Proofs.Ytjjfoofjipafiaa.G
