/- spec.CommutingPairs, as a pure function. -/
import Derived.Test.YtgljkechjkllgaaProg
import Derived.Test.YtgljkechjkllgaaSx9
import Derived.Test.YtgljkechjkllgaaQ54
set_option linter.unusedVariables false
namespace Go.Proofs.Ytgljkechjkllgaa.G
open Go Go.Sx Go.Proofs

def spec_CommutingPairs.b0 (g1 : Int) (i1 : Int) (g2 : Nat → UInt8) : Int × Int → Option (LB (Int × Int)) := fun p => match p with | (out2, j1) => (bif (decide (j1 < g1)) then chk i1 6 (chk j1 6 (((bif (((g2 (i1.toNat * 6 + j1.toNat)).toNat : Int) == ((g2 (j1.toNat * 6 + i1.toNat)).toNat : Int)) then some (w64 (out2 + 1)) else some out2)).bind (fun out3 => some (.next (out3, (w64 (j1 + 1))))))) else some (.brk (out2, j1)))

def spec_CommutingPairs.b1 (g1 : Int) (g2 : Nat → UInt8) : Int × Int → Option (LB (Int × Int)) := fun p => match p with | (out1, i1) => (bif (decide (i1 < g1)) then (loop1 (spec_CommutingPairs.b0 g1 i1 g2) (out1, 0)).bind (fun p => match p with | (out2, j1) => some (.next (out2, (w64 (i1 + 1))))) else some (.brk (out1, i1)))

def spec_CommutingPairs.f (g1 : Int) (g2 : Nat → UInt8) : Option (Int × Int) := (G.spec_l06Is.f g1 g2).bind (fun r_1 => (bif (!r_1) then some (0, 1) else (loop1 (spec_CommutingPairs.b1 g1 g2) (0, 0)).bind (fun p => match p with | (out1, i1) => some (out1, 0))))

def spec_CommutingPairs.R (r : Int × Int) (v : Value) (L : List Asn) : Prop := v = .tuple #[.int .i64 r.1, .int .i64 r.2] ∧ L = []

set_option maxRecDepth 100000 in
set_option maxHeartbeats 4000000 in
theorem spec_CommutingPairs.calls (w : World) (g1 : Int) (g2 : Nat → UInt8) :
    ∀ r, spec_CommutingPairs.f g1 g2 = some r → Calls Try.prog 42 #[sval [.one (.int .i64 g1), .arr 36 (enf u8v g2)]] w (Ret w (spec_CommutingPairs.R r)) := by

  refine calls_T (n := 38) (Γ := [(0, sval [.one (.int .i64 g1), .arr 36 (enf u8v g2)])]) (R := spec_CommutingPairs.R) Try.func42 rfl rfl (Nat.le_of_ble_eq_true rfl) ⟨rfl, trivial⟩ ?_
  unfold spec_CommutingPairs.f
  refine TC.seq ?_
  refine TC.region ?_
  refine TL.box [.one (.int .i64 g1), .arr 36 (enf u8v g2)] rfl rfl rfl rfl fun b_1 => ?_
  refine TL.assign rfl rfl (v := .int .i64 0) rfl ?_
  refine TL.assign rfl rfl (v := .int .i64 0) rfl ?_
  refine TL.done ?_
  refine TC.seq ?_
  refine TC.seq ?_
  refine TC.region ?_
  refine TL.loadM 0 2 (Src.box 0 rfl) Try.isAgg38 Try.sizeOf38 (mid := [.one (.int .i64 g1), .arr 36 (enf u8v g2)]) rfl rfl rfl rfl rfl rfl ?_
  refine TL.call (R := G.spec_l06Is.R) Try.call54 rfl rfl rfl (fun w hS => G.spec_l06Is.calls w g1 g2) ?_
  rintro r_1 _ _ ⟨rfl, rfl⟩
  refine TL.not r_1 rfl rfl rfl ?_
  refine TL.done ?_
  refine TC.cond (b := (!r_1)) rfl (fun c1 => ?_) (fun c2 => ?_)
  · refine TC.seq ?_
    refine TC.region ?_
    refine TL.assign rfl rfl (v := .int .i64 0) rfl ?_
    refine TL.assign rfl rfl (v := .int .i64 1) rfl ?_
    refine TL.done ?_
    exact TC.retF (Fin.body (fin2 (.inr rfl) rfl (.tmp rfl) (.tmp rfl) [] rfl ⟨rfl, rfl⟩))
  · refine TC.skip ?_
    refine TC.seq ?_
    refine TC.region ?_
    refine TL.assign rfl rfl (v := .int .i64 0) rfl ?_
    refine TL.done ?_
    refine TC.seq ?_
    refine TC.seq ?_
    refine TC.region ?_
    refine TL.assign rfl rfl (v := .int .i64 0) rfl ?_
    refine TL.done ?_
    refine TC.loop1 (σ := Int × Int) (γ := Unit) (Γ' := (fun p q => match p, q with | (out1, i1), _ => [(1, bp b_1 0), (4, .int .i64 out1), (5, .int .i64 i1)])) (L' := (fun p q => match p, q with | (out1, i1), _ => [box b_1 38 [.one (.int .i64 g1), .arr 36 (enf u8v g2)]])) (Γb := (fun p q => match p, q with | (out1, i1), _ => [(1, bp b_1 0), (4, .int .i64 out1), (5, .int .i64 i1)])) (Lb := (fun p q => match p, q with | (out1, i1), _ => [box b_1 38 [.one (.int .i64 g1), .arr 36 (enf u8v g2)]])) ((0, 0)) (()) ⟨rfl, rfl, rfl, trivial⟩ [0] rfl ?_ ?_
    · rintro ⟨out1, i1⟩ _
      refine TC.seq ?_
      refine TC.seq ?_
      refine TC.region ?_
      refine TL.move rfl rfl (v := .int .i64 i1) rfl ?_
      refine TL.fa Try.underlying38 rfl Try.sizeOf2 rfl 0 rfl rfl rfl rfl ?_
      refine TL.load1 0 (Src.box 0 rfl) Try.isAgg2 rfl rfl rfl rfl rfl ?_
      refine TL.bin .i64 i1 g1 rfl rfl rfl rfl (v := .bool (decide (i1 < g1))) rfl ?_
      refine TL.done ?_
      refine TC.cond (b := (decide (i1 < g1))) rfl (fun c3 => ?_) (fun c4 => ?_)
      · refine TC.skip ?_
        refine TC.seq ?_
        refine TC.block (NoEx.loop1 rfl) ?_
        refine TC.seq ?_
        refine TC.region ?_
        refine TL.assign rfl rfl (v := .int .i64 0) rfl ?_
        refine TL.done ?_
        refine TC.loop1 (σ := Int × Int) (γ := Unit) (Γ' := (fun p q => match p, q with | (out2, j1), _ => [(1, bp b_1 0), (4, .int .i64 out2), (5, .int .i64 i1), (6, .int .i64 j1)])) (L' := (fun p q => match p, q with | (out2, j1), _ => [box b_1 38 [.one (.int .i64 g1), .arr 36 (enf u8v g2)]])) (Γb := (fun p q => match p, q with | (out2, j1), _ => [(1, bp b_1 0), (4, .int .i64 out2), (5, .int .i64 i1), (6, .int .i64 j1)])) (Lb := (fun p q => match p, q with | (out2, j1), _ => [box b_1 38 [.one (.int .i64 g1), .arr 36 (enf u8v g2)]])) ((out1, 0)) (()) ⟨rfl, rfl, rfl, rfl, trivial⟩ [0] rfl ?_ ?_
        · rintro ⟨out2, j1⟩ _
          refine TC.seq ?_
          refine TC.seq ?_
          refine TC.region ?_
          refine TL.move rfl rfl (v := .int .i64 j1) rfl ?_
          refine TL.fa Try.underlying38 rfl Try.sizeOf2 rfl 0 rfl rfl rfl rfl ?_
          refine TL.load1 0 (Src.box 0 rfl) Try.isAgg2 rfl rfl rfl rfl rfl ?_
          refine TL.bin .i64 j1 g1 rfl rfl rfl rfl (v := .bool (decide (j1 < g1))) rfl ?_
          refine TL.done ?_
          refine TC.cond (b := (decide (j1 < g1))) rfl (fun c5 => ?_) (fun c6 => ?_)
          · refine TC.skip ?_
            refine TC.seq ?_
            refine TC.block (NoEx.loop1 rfl) ?_
            refine TC.seq ?_
            refine TC.wk (Γ' := [(1, bp b_1 0), (4, .int .i64 out2), (5, .int .i64 i1), (6, .int .i64 j1), (16, .int .i64 j1), (17, bp b_1 0), (18, .int .i64 g1), (19, .bool (decide (j1 < g1)))]) ⟨rfl, rfl, rfl, rfl, rfl, rfl, rfl, rfl, trivial⟩ ?_
            refine TC.chk fun h1 => ?_
            refine TC.chk fun h2 => ?_
            refine TC.draw [.int .i64 i1, .int .i64 j1, bp b_1 1, bp b_1 (1 + i1.toNat * 6), bp b_1 (1 + (i1.toNat * 6 + j1.toNat)), u8v (g2 (i1.toNat * 6 + j1.toNat)), .int .i64 j1, .int .i64 i1, bp b_1 1, bp b_1 (1 + j1.toNat * 6), bp b_1 (1 + (j1.toNat * 6 + i1.toNat)), u8v (g2 (j1.toNat * 6 + i1.toNat)), .bool (((g2 (i1.toNat * 6 + j1.toNat)).toNat : Int) == ((g2 (j1.toNat * 6 + i1.toNat)).toNat : Int))] 13 [box b_1 38 [.one (.int .i64 g1), .arr 36 (enf u8v g2)]] (by kernel_rfl) rfl rfl rfl rfl ?_ ?_
            · refine ⟨?_, ?_, ?_, ?_, ?_, ?_, ?_, ?_, ?_, ?_, ?_, ?_, ?_, trivial⟩
              · refine TL.move rfl rfl (v := .int .i64 i1) rfl ?_
                refine TL.done ?_
                exact TC.nrm () () ⟨rfl, trivial⟩ [0] rfl
              · refine TL.move rfl rfl (v := .int .i64 j1) rfl ?_
                refine TL.done ?_
                exact TC.nrm () () ⟨rfl, trivial⟩ [0] rfl
              · refine TL.fa Try.underlying38 rfl Try.sizeOf34 rfl 1 rfl rfl rfl rfl ?_
                refine TL.done ?_
                exact TC.nrm () () ⟨rfl, trivial⟩ [0] rfl
              · refine TL.ixa i1 (1 + i1.toNat * 6) h1 Try.underlying34 Try.sizeOf33 rfl rfl rfl rfl (by omega) ?_
                refine TL.done ?_
                exact TC.nrm () () ⟨rfl, trivial⟩ [0] rfl
              · refine TL.ixa j1 (1 + (i1.toNat * 6 + j1.toNat)) h2 Try.underlying33 Try.sizeOf5 rfl rfl rfl rfl (by omega) ?_
                refine TL.done ?_
                exact TC.nrm () () ⟨rfl, trivial⟩ [0] rfl
              · refine TL.loadA (i1.toNat * 6 + j1.toNat) 1 (Src.box 0 rfl) Try.isAgg5 rfl (by omega) (v := u8v (g2 (i1.toNat * 6 + j1.toNat))) rfl (st := 1) rfl (by omega) rfl rfl rfl ?_
                refine TL.done ?_
                exact TC.nrm () () ⟨rfl, trivial⟩ [0] rfl
              · refine TL.move rfl rfl (v := .int .i64 j1) rfl ?_
                refine TL.done ?_
                exact TC.nrm () () ⟨rfl, trivial⟩ [0] rfl
              · refine TL.move rfl rfl (v := .int .i64 i1) rfl ?_
                refine TL.done ?_
                exact TC.nrm () () ⟨rfl, trivial⟩ [0] rfl
              · refine TL.fa Try.underlying38 rfl Try.sizeOf34 rfl 1 rfl rfl rfl rfl ?_
                refine TL.done ?_
                exact TC.nrm () () ⟨rfl, trivial⟩ [0] rfl
              · refine TL.ixa j1 (1 + j1.toNat * 6) h2 Try.underlying34 Try.sizeOf33 rfl rfl rfl rfl (by omega) ?_
                refine TL.done ?_
                exact TC.nrm () () ⟨rfl, trivial⟩ [0] rfl
              · refine TL.ixa i1 (1 + (j1.toNat * 6 + i1.toNat)) h1 Try.underlying33 Try.sizeOf5 rfl rfl rfl rfl (by omega) ?_
                refine TL.done ?_
                exact TC.nrm () () ⟨rfl, trivial⟩ [0] rfl
              · refine TL.loadA (j1.toNat * 6 + i1.toNat) 1 (Src.box 0 rfl) Try.isAgg5 rfl (by omega) (v := u8v (g2 (j1.toNat * 6 + i1.toNat))) rfl (st := 1) rfl (by omega) rfl rfl rfl ?_
                refine TL.done ?_
                exact TC.nrm () () ⟨rfl, trivial⟩ [0] rfl
              · refine TL.bin .u8 ((g2 (i1.toNat * 6 + j1.toNat)).toNat : Int) ((g2 (j1.toNat * 6 + i1.toNat)).toNat : Int) rfl rfl rfl rfl (v := .bool (((g2 (i1.toNat * 6 + j1.toNat)).toNat : Int) == ((g2 (j1.toNat * 6 + i1.toNat)).toNat : Int))) rfl ?_
                refine TL.done ?_
                exact TC.nrm () () ⟨rfl, trivial⟩ [0] rfl
            · refine TC.join1 (σ := Int) (γ := Unit) (Γ' := (fun out3 _ => [(1, bp b_1 0), (4, .int .i64 out3), (5, .int .i64 i1), (6, .int .i64 j1)])) (L' := (fun out3 _ => [box b_1 38 [.one (.int .i64 g1), .arr 36 (enf u8v g2)]])) ?_ ?_
              · refine TC.cond (b := (((g2 (i1.toNat * 6 + j1.toNat)).toNat : Int) == ((g2 (j1.toNat * 6 + i1.toNat)).toNat : Int))) rfl (fun c7 => ?_) (fun c8 => ?_)
                · refine TC.region ?_
                  refine TL.move rfl rfl (v := .int .i64 out2) rfl ?_
                  refine TL.bin .i64 out2 1 rfl rfl rfl rfl (v := .int .i64 (w64 (out2 + 1))) rfl ?_
                  refine TL.assign rfl rfl (v := .int .i64 (w64 (out2 + 1))) rfl ?_
                  refine TL.done ?_
                  exact TC.nrm ((w64 (out2 + 1))) (()) ⟨rfl, rfl, rfl, rfl, trivial⟩ [0] rfl
                · refine TC.skip ?_
                  exact TC.nrm (out2) (()) ⟨rfl, rfl, rfl, rfl, trivial⟩ [0] rfl
              · rintro out3 _
                refine TC.region ?_
                refine TL.move rfl rfl (v := .int .i64 j1) rfl ?_
                refine TL.bin .i64 j1 1 rfl rfl rfl rfl (v := .int .i64 (w64 (j1 + 1))) rfl ?_
                refine TL.assign rfl rfl (v := .int .i64 (w64 (j1 + 1))) rfl ?_
                refine TL.done ?_
                exact TC.next1 ((out3, (w64 (j1 + 1)))) (()) ⟨rfl, rfl, rfl, rfl, trivial⟩ [0] rfl
          · exact TC.brk1 ((out2, j1)) (()) ⟨rfl, rfl, rfl, rfl, trivial⟩ [0] rfl
        · rintro ⟨out2, j1⟩ _
          refine TC.region ?_
          refine TL.move rfl rfl (v := .int .i64 i1) rfl ?_
          refine TL.bin .i64 i1 1 rfl rfl rfl rfl (v := .int .i64 (w64 (i1 + 1))) rfl ?_
          refine TL.assign rfl rfl (v := .int .i64 (w64 (i1 + 1))) rfl ?_
          refine TL.done ?_
          exact TC.next1 ((out2, (w64 (i1 + 1)))) (()) ⟨rfl, rfl, rfl, trivial⟩ [0] rfl
      · exact TC.brk1 ((out1, i1)) (()) ⟨rfl, rfl, rfl, trivial⟩ [0] rfl
    · rintro ⟨out1, i1⟩ _
      refine TC.seq ?_
      refine TC.region ?_
      refine TL.move rfl rfl (v := .int .i64 out1) rfl ?_
      refine TL.assign rfl rfl (v := .int .i64 out1) rfl ?_
      refine TL.assign rfl rfl (v := .int .i64 0) rfl ?_
      refine TL.done ?_
      exact TC.retF (Fin.body (fin2 (.inr rfl) rfl (.tmp rfl) (.tmp rfl) [] rfl ⟨rfl, rfl⟩))

end Go.Proofs.Ytgljkechjkllgaa.G
