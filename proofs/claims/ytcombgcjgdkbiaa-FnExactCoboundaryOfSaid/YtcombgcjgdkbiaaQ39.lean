/- spec.CoboundaryOf, as a pure function. -/
import Derived.Test.YtcombgcjgdkbiaaProg
import Derived.Test.YtcombgcjgdkbiaaSx9
import Derived.Test.YtcombgcjgdkbiaaQ54
import Derived.Test.YtcombgcjgdkbiaaQ56
import Derived.Test.YtcombgcjgdkbiaaQ95
set_option linter.unusedVariables false
namespace Go.Proofs.Ytcombgcjgdkbiaa.G
open Go Go.Sx Go.Proofs

def spec_CoboundaryOf.b0 (x4 : List Int) (x1 : Int) : Int × Int → Option (LB (Int × Int)) := fun p => match p with | (x6, x7) => (bif ((decide (x7 < (x4.length : Int))) && (x6 == 0)) then chk x7 x4.length ((G.spec_l01In.f (gt x4 x7) 1 (w64 (x1 - 1))).bind (fun r_2 => ((bif (!r_2) then some 2 else some x6)).bind (fun x8 => some (.next (x8, (w64 (x7 + 1))))))) else some (.brk (x6, x7)))

def spec_CoboundaryOf.b1 (x2 : Int) (x10 : Int) (x3 : Nat → UInt8) (x4 : List Int) (x1 : Int) : (List Int) × Int → Option (LB ((List Int) × Int)) := fun p => match p with | (x11, x12) => (bif (decide (x12 < x2)) then chk x10 6 (chk x12 6 (chk ((x3 (x10.toNat * 6 + x12.toNat)).toNat : Int) x4.length (chk 0 x4.length (nz x1 (chk x10 x4.length (chk x12 x4.length ((G.spec_l01Inverse.f x1 (Int.tmod (w64 ((gt x4 ((x3 (x10.toNat * 6 + x12.toNat)).toNat : Int)) * (gt x4 0))) x1)).bind (fun r_3 => small (x11.length + ([(Int.tmod (w64 ((Int.tmod (w64 ((gt x4 x10) * (gt x4 x12))) x1) * r_3)) x1)] : List Int).length) (some (.next ((x11 ++ ([(Int.tmod (w64 ((Int.tmod (w64 ((gt x4 x10) * (gt x4 x12))) x1) * r_3)) x1)] : List Int)), (w64 (x12 + 1))))))))))))) else some (.brk (x11, x12)))

def spec_CoboundaryOf.b2 (x2 : Int) (x3 : Nat → UInt8) (x4 : List Int) (x1 : Int) : (List (List Int)) × Int → Option (LB ((List (List Int)) × Int)) := fun p => match p with | (x9, x10) => (bif (decide (x10 < x2)) then (loop1 (spec_CoboundaryOf.b1 x2 x10 x3 x4 x1) (([] : List Int), 0)).bind (fun p => match p with | (x11, x12) => small (x9.length + 1) (some (.next ((x9 ++ [x11]), (w64 (x10 + 1)))))) else some (.brk (x9, x10)))

def spec_CoboundaryOf.f (x1 : Int) (x2 : Int) (x3 : Nat → UInt8) (x4 : List Int) : Option ((List (List Int)) × Int) := (G.spec_l06Code.f x1 x2 x3).bind (fun r_1 => ((bif ((r_1 == 0) && ((x4.length : Int) != x2)) then some 2 else some r_1)).bind (fun x5 => (loop1 (spec_CoboundaryOf.b0 x4 x1) (x5, 0)).bind (fun p => match p with | (x6, x7) => (bif (x6 != 0) then some (([] : List (List Int)), x6) else (loop1 (spec_CoboundaryOf.b2 x2 x3 x4 x1) (([] : List (List Int)), 0)).bind (fun p => match p with | (x9, x10) => some (x9, 0))))))

def spec_CoboundaryOf.R (r : (List (List Int)) × Int) (v : Value) (L : List Asn) : Prop := ∃ (s0 : SV) (ss0 : List SV), v = .tuple #[SV.v s0, .int .i64 r.2] ∧ L = [mat Ei 2 22 s0 ss0 r.1]

set_option maxRecDepth 100000 in
set_option maxHeartbeats 4000000 in
theorem spec_CoboundaryOf.calls (w : World) (x1 : Int) (x2 : Int) (x3 : Nat → UInt8) (s1 : SV) (x4 : List Int) (h1 : Reads Ei (hp w) s1 x4) :
    ∀ r, spec_CoboundaryOf.f x1 x2 x3 x4 = some r → Calls Try.prog 39 #[.int .i64 x1, sval [.one (.int .i64 x2), .arr 36 (enf u8v x3)], SV.v s1] w (Ret w (spec_CoboundaryOf.R r)) := by

  refine calls_T (n := 102) (Γ := [(0, .int .i64 x1), (1, sval [.one (.int .i64 x2), .arr 36 (enf u8v x3)]), (2, SV.v s1)]) (R := spec_CoboundaryOf.R) Try.func39 rfl rfl (Nat.le_of_ble_eq_true rfl) ⟨rfl, rfl, rfl, trivial⟩ ?_
  unfold spec_CoboundaryOf.f
  refine TC.seq ?_
  refine TC.region ?_
  refine TL.box [.one (.int .i64 x2), .arr 36 (enf u8v x3)] rfl rfl rfl rfl fun b_1 => ?_
  refine TL.assign rfl rfl (v := SV.v ⟨none, 0, 0⟩) rfl ?_
  refine TL.assign rfl rfl (v := .int .i64 0) rfl ?_
  refine TL.done ?_
  refine TC.seq ?_
  refine TC.region ?_
  refine TL.move rfl rfl (v := .int .i64 x1) rfl ?_
  refine TL.loadM 0 2 (Src.box 0 rfl) Try.isAgg37 Try.sizeOf37 (mid := [.one (.int .i64 x2), .arr 36 (enf u8v x3)]) rfl rfl rfl rfl rfl rfl ?_
  refine TL.call (R := G.spec_l06Code.R) Try.call95 rfl rfl rfl (fun w hS => G.spec_l06Code.calls w x1 x2 x3) ?_
  rintro r_1 _ _ ⟨rfl, rfl⟩
  refine TL.assign rfl rfl (v := .int .i64 r_1) rfl ?_
  refine TL.done ?_
  refine TC.seq ?_
  refine TC.seq ?_
  refine TC.region ?_
  refine TL.move rfl rfl (v := .int .i64 r_1) rfl ?_
  refine TL.bin .i64 r_1 0 rfl rfl rfl rfl (v := .bool (r_1 == 0)) rfl ?_
  refine TL.move rfl rfl (v := .bool (r_1 == 0)) rfl ?_
  refine TL.cutU 6 [(26, .bool ((r_1 == 0) && ((x4.length : Int) != x2))), (0, .int .i64 x1), (1, sval [.one (.int .i64 x2), .arr 36 (enf u8v x3)]), (2, SV.v s1), (4, bp b_1 0), (6, SV.v ⟨none, 0, 0⟩), (7, .int .i64 0), (15, .int .i64 x1), (16, sval [.one (.int .i64 x2), .arr 36 (enf u8v x3)]), (17, .int .i64 r_1), (8, .int .i64 r_1), (18, .int .i64 r_1), (19, .bool (r_1 == 0)), (20, .bool (r_1 == 0))] [box b_1 37 [.one (.int .i64 x2), .arr 36 (enf u8v x3)]] ?_ ?_
  · refine TL.cases (t := 20) (b := (r_1 == 0)) rfl (fun c1 => ?_) (fun c2 => ?_)
    · refine TL.move rfl rfl (v := SV.v s1) rfl ?_
      refine TL.len (Rd.old h1) Try.underlying22 rfl rfl rfl ?_
      refine TL.fa Try.underlying37 rfl Try.sizeOf2 rfl 0 rfl rfl rfl rfl ?_
      refine TL.load1 0 (Src.box 0 rfl) Try.isAgg2 rfl rfl rfl rfl rfl ?_
      refine TL.bin .i64 (x4.length : Int) x2 rfl rfl rfl rfl (v := .bool ((x4.length : Int) != x2)) rfl ?_
      refine TL.pick rfl rfl (b := true) rfl (r := .bool ((x4.length : Int) != x2)) rfl ?_
      refine TL.done ?_
      exact TC.nrm () () ⟨(by rw [c1]; rfl), rfl, rfl, rfl, rfl, rfl, rfl, rfl, rfl, rfl, rfl, rfl, rfl, (by rw [c1]; rfl), trivial⟩ [0] rfl
    · refine TL.skip rfl rfl (by decide) ?_
      refine TL.skip rfl rfl (by decide) ?_
      refine TL.skip rfl rfl (by decide) ?_
      refine TL.skip rfl rfl (by decide) ?_
      refine TL.skip rfl rfl (by decide) ?_
      refine TL.pick rfl rfl (b := false) rfl (r := .bool false) rfl ?_
      refine TL.done ?_
      exact TC.nrm () () ⟨(by rw [c2]; rfl), rfl, rfl, rfl, rfl, rfl, rfl, rfl, rfl, rfl, rfl, rfl, rfl, (by rw [c2]; rfl), trivial⟩ [0] rfl
  · refine TL.done ?_
    refine TC.join1 (σ := Int) (γ := Unit) (Γ' := (fun x5 _ => [(0, .int .i64 x1), (2, SV.v s1), (4, bp b_1 0), (8, .int .i64 x5)])) (L' := (fun x5 _ => [box b_1 37 [.one (.int .i64 x2), .arr 36 (enf u8v x3)]])) ?_ ?_
    · refine TC.cond (b := ((r_1 == 0) && ((x4.length : Int) != x2))) rfl (fun c3 => ?_) (fun c4 => ?_)
      · refine TC.region ?_
        refine TL.assign rfl rfl (v := .int .i64 2) rfl ?_
        refine TL.done ?_
        exact TC.nrm (2) (()) ⟨rfl, rfl, rfl, rfl, trivial⟩ [0] rfl
      · refine TC.skip ?_
        exact TC.nrm (r_1) (()) ⟨rfl, rfl, rfl, rfl, trivial⟩ [0] rfl
    · rintro x5 _
      refine TC.seq ?_
      refine TC.seq ?_
      refine TC.region ?_
      refine TL.assign rfl rfl (v := .int .i64 0) rfl ?_
      refine TL.done ?_
      refine TC.loop1 (σ := Int × Int) (γ := Unit) (Γ' := (fun p q => match p, q with | (x6, x7), _ => [(0, .int .i64 x1), (2, SV.v s1), (4, bp b_1 0), (8, .int .i64 x6), (9, .int .i64 x7)])) (L' := (fun p q => match p, q with | (x6, x7), _ => [box b_1 37 [.one (.int .i64 x2), .arr 36 (enf u8v x3)]])) (Γb := (fun p q => match p, q with | (x6, x7), _ => [(0, .int .i64 x1), (2, SV.v s1), (4, bp b_1 0), (8, .int .i64 x6), (9, .int .i64 x7)])) (Lb := (fun p q => match p, q with | (x6, x7), _ => [box b_1 37 [.one (.int .i64 x2), .arr 36 (enf u8v x3)]])) ((x5, 0)) (()) ⟨rfl, rfl, rfl, rfl, rfl, trivial⟩ [0] rfl ?_ ?_
      · rintro ⟨x6, x7⟩ _
        refine TC.seq ?_
        refine TC.seq ?_
        refine TC.region ?_
        refine TL.move rfl rfl (v := .int .i64 x7) rfl ?_
        refine TL.move rfl rfl (v := SV.v s1) rfl ?_
        refine TL.len (Rd.old h1) Try.underlying22 rfl rfl rfl ?_
        refine TL.bin .i64 x7 (x4.length : Int) rfl rfl rfl rfl (v := .bool (decide (x7 < (x4.length : Int)))) rfl ?_
        refine TL.move rfl rfl (v := .bool (decide (x7 < (x4.length : Int)))) rfl ?_
        refine TL.cutU 3 [(34, .bool ((decide (x7 < (x4.length : Int))) && (x6 == 0))), (0, .int .i64 x1), (2, SV.v s1), (4, bp b_1 0), (8, .int .i64 x6), (9, .int .i64 x7), (27, .int .i64 x7), (28, SV.v s1), (29, .int .i64 (x4.length : Int)), (30, .bool (decide (x7 < (x4.length : Int)))), (31, .bool (decide (x7 < (x4.length : Int))))] [box b_1 37 [.one (.int .i64 x2), .arr 36 (enf u8v x3)]] ?_ ?_
        · refine TL.cases (t := 31) (b := (decide (x7 < (x4.length : Int)))) rfl (fun c5 => ?_) (fun c6 => ?_)
          · refine TL.move rfl rfl (v := .int .i64 x6) rfl ?_
            refine TL.bin .i64 x6 0 rfl rfl rfl rfl (v := .bool (x6 == 0)) rfl ?_
            refine TL.pick rfl rfl (b := true) rfl (r := .bool (x6 == 0)) rfl ?_
            refine TL.done ?_
            exact TC.nrm () () ⟨(by rw [c5]; rfl), rfl, rfl, rfl, rfl, rfl, rfl, rfl, rfl, rfl, (by rw [c5]; rfl), trivial⟩ [0] rfl
          · refine TL.skip rfl rfl (by decide) ?_
            refine TL.skip rfl rfl (by decide) ?_
            refine TL.pick rfl rfl (b := false) rfl (r := .bool false) rfl ?_
            refine TL.done ?_
            exact TC.nrm () () ⟨(by rw [c6]; rfl), rfl, rfl, rfl, rfl, rfl, rfl, rfl, rfl, rfl, (by rw [c6]; rfl), trivial⟩ [0] rfl
        · refine TL.done ?_
          refine TC.cond (b := ((decide (x7 < (x4.length : Int))) && (x6 == 0))) rfl (fun c7 => ?_) (fun c8 => ?_)
          · refine TC.skip ?_
            refine TC.seq ?_
            refine TC.block (NoEx.loop1 rfl) ?_
            refine TC.seq ?_
            refine TC.region ?_
            refine TL.move rfl rfl (v := SV.v s1) rfl ?_
            refine TL.move rfl rfl (v := .int .i64 x7) rfl ?_
            refine TL.chk fun h2 => ?_
            refine TL.ixs x7 x7.toNat (Rd.old h1) h2 Try.underlying22 Try.sizeOf2 rfl rfl rfl rfl (by omega) ?_
            refine TL.loadE (Rd.old h1) Try.isAgg2 x7.toNat 0 (gt_spec h2) (v := .int .i64 (gt x4 x7)) rfl (by simp only [show Ei.sz = 1 from rfl]; omega) rfl rfl rfl ?_
            refine TL.move rfl rfl (v := .int .i64 x1) rfl ?_
            refine TL.bin .i64 x1 1 rfl rfl rfl rfl (v := .int .i64 (w64 (x1 - 1))) rfl ?_
            refine TL.call (R := G.spec_l01In.R) Try.call54 rfl rfl rfl (fun w hS => G.spec_l01In.calls w (gt x4 x7) 1 (w64 (x1 - 1))) ?_
            rintro r_2 _ _ ⟨rfl, rfl⟩
            refine TL.not r_2 rfl rfl rfl ?_
            refine TL.done ?_
            refine TC.join1 (σ := Int) (γ := Unit) (Γ' := (fun x8 _ => [(0, .int .i64 x1), (2, SV.v s1), (4, bp b_1 0), (8, .int .i64 x8), (9, .int .i64 x7)])) (L' := (fun x8 _ => [box b_1 37 [.one (.int .i64 x2), .arr 36 (enf u8v x3)]])) ?_ ?_
            · refine TC.cond (b := (!r_2)) rfl (fun c9 => ?_) (fun c10 => ?_)
              · refine TC.region ?_
                refine TL.assign rfl rfl (v := .int .i64 2) rfl ?_
                refine TL.done ?_
                exact TC.nrm (2) (()) ⟨rfl, rfl, rfl, rfl, rfl, trivial⟩ [0] rfl
              · refine TC.skip ?_
                exact TC.nrm (x6) (()) ⟨rfl, rfl, rfl, rfl, rfl, trivial⟩ [0] rfl
            · rintro x8 _
              refine TC.region ?_
              refine TL.move rfl rfl (v := .int .i64 x7) rfl ?_
              refine TL.bin .i64 x7 1 rfl rfl rfl rfl (v := .int .i64 (w64 (x7 + 1))) rfl ?_
              refine TL.assign rfl rfl (v := .int .i64 (w64 (x7 + 1))) rfl ?_
              refine TL.done ?_
              exact TC.next1 ((x8, (w64 (x7 + 1)))) (()) ⟨rfl, rfl, rfl, rfl, rfl, trivial⟩ [0] rfl
          · exact TC.brk1 ((x6, x7)) (()) ⟨rfl, rfl, rfl, rfl, rfl, trivial⟩ [0] rfl
      · rintro ⟨x6, x7⟩ _
        refine TC.seq ?_
        refine TC.seq ?_
        refine TC.region ?_
        refine TL.move rfl rfl (v := .int .i64 x6) rfl ?_
        refine TL.bin .i64 x6 0 rfl rfl rfl rfl (v := .bool (x6 != 0)) rfl ?_
        refine TL.done ?_
        refine TC.cond (b := (x6 != 0)) rfl (fun c11 => ?_) (fun c12 => ?_)
        · refine TC.seq ?_
          refine TC.region ?_
          refine TL.move rfl rfl (v := .int .i64 x6) rfl ?_
          refine TL.assign rfl rfl (v := SV.v ⟨none, 0, 0⟩) rfl ?_
          refine TL.assign rfl rfl (v := .int .i64 x6) rfl ?_
          refine TL.done ?_
          refine TC.nilmat Ei 2 22 ?_
          exact TC.retF (Fin.body (fin2 (.inr rfl) rfl (.tmp rfl) (.tmp rfl) [0] rfl ⟨⟨none, 0, 0⟩, [], rfl, rfl⟩))
        · refine TC.skip ?_
          refine TC.seq ?_
          refine TC.region ?_
          refine TL.bslice0 Ev Try.underlying53 Try.sizeOf22 rfl rfl fun s2 => ?_
          refine TL.rows0 Ei 2 ?_
          refine TL.matmk 1 0 rfl rfl ?_
          refine TL.asL [mat Ei 2 22 s2 ([] : List SV) ([] : List (List Int)), emp, box b_1 37 [.one (.int .i64 x2), .arr 36 (enf u8v x3)]] rfl ?_
          refine TL.assign rfl rfl (v := SV.v s2) rfl ?_
          refine TL.done ?_
          refine TC.seq ?_
          refine TC.seq ?_
          refine TC.region ?_
          refine TL.assign rfl rfl (v := .int .i64 0) rfl ?_
          refine TL.done ?_
          refine TC.loop1 (σ := (List (List Int)) × Int) (γ := SV × (List SV)) (Γ' := (fun p q => match p, q with | (x9, x10), (s3, ss1) => [(0, .int .i64 x1), (2, SV.v s1), (4, bp b_1 0), (10, SV.v s3), (11, .int .i64 x10)])) (L' := (fun p q => match p, q with | (x9, x10), (s3, ss1) => [box b_1 37 [.one (.int .i64 x2), .arr 36 (enf u8v x3)], mat Ei 2 22 s3 ss1 x9])) (Γb := (fun p q => match p, q with | (x9, x10), (s3, ss1) => [(0, .int .i64 x1), (2, SV.v s1), (4, bp b_1 0), (10, SV.v s3), (11, .int .i64 x10)])) (Lb := (fun p q => match p, q with | (x9, x10), (s3, ss1) => [box b_1 37 [.one (.int .i64 x2), .arr 36 (enf u8v x3)], mat Ei 2 22 s3 ss1 x9])) ((([] : List (List Int)), 0)) ((s2, ([] : List SV))) ⟨rfl, rfl, rfl, rfl, rfl, trivial⟩ [2, 0] rfl ?_ ?_
          · rintro ⟨x9, x10⟩ ⟨s3, ss1⟩
            refine TC.seq ?_
            refine TC.seq ?_
            refine TC.region ?_
            refine TL.move rfl rfl (v := .int .i64 x10) rfl ?_
            refine TL.fa Try.underlying37 rfl Try.sizeOf2 rfl 0 rfl rfl rfl rfl ?_
            refine TL.load1 0 (Src.box 0 rfl) Try.isAgg2 rfl rfl rfl rfl rfl ?_
            refine TL.bin .i64 x10 x2 rfl rfl rfl rfl (v := .bool (decide (x10 < x2))) rfl ?_
            refine TL.done ?_
            refine TC.cond (b := (decide (x10 < x2))) rfl (fun c13 => ?_) (fun c14 => ?_)
            · refine TC.skip ?_
              refine TC.seq ?_
              refine TC.block (NoEx.loop1 rfl) ?_
              refine TC.seq ?_
              refine TC.region ?_
              refine TL.bslice0 Ei Try.underlying22 Try.sizeOf2 rfl rfl fun s4 => ?_
              refine TL.assign rfl rfl (v := SV.v s4) rfl ?_
              refine TL.done ?_
              refine TC.seq ?_
              refine TC.seq ?_
              refine TC.region ?_
              refine TL.assign rfl rfl (v := .int .i64 0) rfl ?_
              refine TL.done ?_
              refine TC.loop1 (σ := (List Int) × Int) (γ := SV) (Γ' := (fun p q => match p, q with | (x11, x12), s5 => [(0, .int .i64 x1), (2, SV.v s1), (4, bp b_1 0), (10, SV.v s3), (11, .int .i64 x10), (12, SV.v s5), (13, .int .i64 x12)])) (L' := (fun p q => match p, q with | (x11, x12), s5 => [box b_1 37 [.one (.int .i64 x2), .arr 36 (enf u8v x3)], mat Ei 2 22 s3 ss1 x9, row Ei 2 s5 x11])) (Γb := (fun p q => match p, q with | (x11, x12), s5 => [(0, .int .i64 x1), (2, SV.v s1), (4, bp b_1 0), (10, SV.v s3), (11, .int .i64 x10), (12, SV.v s5), (13, .int .i64 x12)])) (Lb := (fun p q => match p, q with | (x11, x12), s5 => [box b_1 37 [.one (.int .i64 x2), .arr 36 (enf u8v x3)], mat Ei 2 22 s3 ss1 x9, row Ei 2 s5 x11])) ((([] : List Int), 0)) (s4) ⟨rfl, rfl, rfl, rfl, rfl, rfl, rfl, trivial⟩ [1, 1, 0] rfl ?_ ?_
              · rintro ⟨x11, x12⟩ s5
                refine TC.seq ?_
                refine TC.seq ?_
                refine TC.region ?_
                refine TL.move rfl rfl (v := .int .i64 x12) rfl ?_
                refine TL.fa Try.underlying37 rfl Try.sizeOf2 rfl 0 rfl rfl rfl rfl ?_
                refine TL.load1 0 (Src.box 0 rfl) Try.isAgg2 rfl rfl rfl rfl rfl ?_
                refine TL.bin .i64 x12 x2 rfl rfl rfl rfl (v := .bool (decide (x12 < x2))) rfl ?_
                refine TL.done ?_
                refine TC.cond (b := (decide (x12 < x2))) rfl (fun c15 => ?_) (fun c16 => ?_)
                · refine TC.skip ?_
                  refine TC.seq ?_
                  refine TC.block (NoEx.loop1 rfl) ?_
                  refine TC.seq ?_
                  refine TC.wk (Γ' := [(0, .int .i64 x1), (2, SV.v s1), (4, bp b_1 0), (10, SV.v s3), (11, .int .i64 x10), (12, SV.v s5), (13, .int .i64 x12), (56, .int .i64 x12), (57, bp b_1 0), (58, .int .i64 x2), (59, .bool (decide (x12 < x2)))]) ⟨rfl, rfl, rfl, rfl, rfl, rfl, rfl, rfl, rfl, rfl, rfl, trivial⟩ ?_
                  refine TC.chk fun h3 => ?_
                  refine TC.chk fun h4 => ?_
                  refine TC.chk fun h5 => ?_
                  refine TC.chk fun h6 => ?_
                  refine TC.nz fun z1 => ?_
                  refine TC.draw [SV.v s1, .int .i64 x10, .int .i64 x12, bp b_1 1, bp b_1 (1 + x10.toNat * 6), bp b_1 (1 + (x10.toNat * 6 + x12.toNat)), u8v (x3 (x10.toNat * 6 + x12.toNat)), ep s1 ((x3 (x10.toNat * 6 + x12.toNat)).toNat), .int .i64 (gt x4 ((x3 (x10.toNat * 6 + x12.toNat)).toNat : Int)), SV.v s1, ep s1 0, .int .i64 (gt x4 0), .int .i64 (w64 ((gt x4 ((x3 (x10.toNat * 6 + x12.toNat)).toNat : Int)) * (gt x4 0))), .int .i64 x1, .int .i64 (Int.tmod (w64 ((gt x4 ((x3 (x10.toNat * 6 + x12.toNat)).toNat : Int)) * (gt x4 0))) x1), .int .i64 (Int.tmod (w64 ((gt x4 ((x3 (x10.toNat * 6 + x12.toNat)).toNat : Int)) * (gt x4 0))) x1)] 16 [box b_1 37 [.one (.int .i64 x2), .arr 36 (enf u8v x3)], mat Ei 2 22 s3 ss1 x9, row Ei 2 s5 x11] (by kernel_rfl) rfl rfl rfl rfl ?_ ?_
                  · refine ⟨?_, ?_, ?_, ?_, ?_, ?_, ?_, ?_, ?_, ?_, ?_, ?_, ?_, ?_, ?_, ?_, trivial⟩
                    · refine TL.move rfl rfl (v := SV.v s1) rfl ?_
                      refine TL.done ?_
                      exact TC.nrm () () ⟨rfl, trivial⟩ [0, 0, 0] rfl
                    · refine TL.move rfl rfl (v := .int .i64 x10) rfl ?_
                      refine TL.done ?_
                      exact TC.nrm () () ⟨rfl, trivial⟩ [0, 0, 0] rfl
                    · refine TL.move rfl rfl (v := .int .i64 x12) rfl ?_
                      refine TL.done ?_
                      exact TC.nrm () () ⟨rfl, trivial⟩ [0, 0, 0] rfl
                    · refine TL.fa Try.underlying37 rfl Try.sizeOf33 rfl 1 rfl rfl rfl rfl ?_
                      refine TL.done ?_
                      exact TC.nrm () () ⟨rfl, trivial⟩ [0, 0, 0] rfl
                    · refine TL.ixa x10 (1 + x10.toNat * 6) h3 Try.underlying33 Try.sizeOf32 rfl rfl rfl rfl (by omega) ?_
                      refine TL.done ?_
                      exact TC.nrm () () ⟨rfl, trivial⟩ [0, 0, 0] rfl
                    · refine TL.ixa x12 (1 + (x10.toNat * 6 + x12.toNat)) h4 Try.underlying32 Try.sizeOf5 rfl rfl rfl rfl (by omega) ?_
                      refine TL.done ?_
                      exact TC.nrm () () ⟨rfl, trivial⟩ [0, 0, 0] rfl
                    · refine TL.loadA (x10.toNat * 6 + x12.toNat) 1 (Src.box 0 rfl) Try.isAgg5 rfl (by omega) (v := u8v (x3 (x10.toNat * 6 + x12.toNat))) rfl (st := 1) rfl (by omega) rfl rfl rfl ?_
                      refine TL.done ?_
                      exact TC.nrm () () ⟨rfl, trivial⟩ [0, 0, 0] rfl
                    · refine TL.ixs ((x3 (x10.toNat * 6 + x12.toNat)).toNat : Int) ((x3 (x10.toNat * 6 + x12.toNat)).toNat) (Rd.old h1) h5 Try.underlying22 Try.sizeOf2 rfl rfl rfl rfl (by omega) ?_
                      refine TL.done ?_
                      exact TC.nrm () () ⟨rfl, trivial⟩ [0, 0, 0] rfl
                    · refine TL.loadE (Rd.old h1) Try.isAgg2 ((x3 (x10.toNat * 6 + x12.toNat)).toNat : Int).toNat 0 (gt_spec h5) (v := .int .i64 (gt x4 ((x3 (x10.toNat * 6 + x12.toNat)).toNat : Int))) rfl (by simp only [show Ei.sz = 1 from rfl]; omega) rfl rfl rfl ?_
                      refine TL.done ?_
                      exact TC.nrm () () ⟨rfl, trivial⟩ [0, 0, 0] rfl
                    · refine TL.move rfl rfl (v := SV.v s1) rfl ?_
                      refine TL.done ?_
                      exact TC.nrm () () ⟨rfl, trivial⟩ [0, 0, 0] rfl
                    · refine TL.ixs 0 0 (Rd.old h1) h6 Try.underlying22 Try.sizeOf2 rfl rfl rfl rfl rfl ?_
                      refine TL.done ?_
                      exact TC.nrm () () ⟨rfl, trivial⟩ [0, 0, 0] rfl
                    · refine TL.loadE (Rd.old h1) Try.isAgg2 0 0 (gt_spec h6) (v := .int .i64 (gt x4 0)) rfl rfl rfl rfl rfl ?_
                      refine TL.done ?_
                      exact TC.nrm () () ⟨rfl, trivial⟩ [0, 0, 0] rfl
                    · refine TL.bin .i64 (gt x4 ((x3 (x10.toNat * 6 + x12.toNat)).toNat : Int)) (gt x4 0) rfl rfl rfl rfl (v := .int .i64 (w64 ((gt x4 ((x3 (x10.toNat * 6 + x12.toNat)).toNat : Int)) * (gt x4 0)))) rfl ?_
                      refine TL.done ?_
                      exact TC.nrm () () ⟨rfl, trivial⟩ [0, 0, 0] rfl
                    · refine TL.move rfl rfl (v := .int .i64 x1) rfl ?_
                      refine TL.done ?_
                      exact TC.nrm () () ⟨rfl, trivial⟩ [0, 0, 0] rfl
                    · refine TL.rem .i64 (w64 ((gt x4 ((x3 (x10.toNat * 6 + x12.toNat)).toNat : Int)) * (gt x4 0))) x1 z1 rfl rfl rfl rfl ?_
                      refine TL.done ?_
                      exact TC.nrm () () ⟨rfl, trivial⟩ [0, 0, 0] rfl
                    · refine TL.assign rfl rfl (v := .int .i64 (Int.tmod (w64 ((gt x4 ((x3 (x10.toNat * 6 + x12.toNat)).toNat : Int)) * (gt x4 0))) x1)) rfl ?_
                      refine TL.done ?_
                      exact TC.nrm () () ⟨rfl, trivial⟩ [0, 0, 0] rfl
                  · refine TC.wk (Γ' := [(0, .int .i64 x1), (2, SV.v s1), (4, bp b_1 0), (10, SV.v s3), (11, .int .i64 x10), (13, .int .i64 x12), (56, .int .i64 x12), (57, bp b_1 0), (58, .int .i64 x2), (59, .bool (decide (x12 < x2))), (62, SV.v s1), (63, .int .i64 x10), (64, .int .i64 x12), (65, bp b_1 1), (66, bp b_1 (1 + x10.toNat * 6)), (67, bp b_1 (1 + (x10.toNat * 6 + x12.toNat))), (68, u8v (x3 (x10.toNat * 6 + x12.toNat))), (69, ep s1 ((x3 (x10.toNat * 6 + x12.toNat)).toNat)), (70, .int .i64 (gt x4 ((x3 (x10.toNat * 6 + x12.toNat)).toNat : Int))), (71, SV.v s1), (72, ep s1 0), (73, .int .i64 (gt x4 0)), (74, .int .i64 (w64 ((gt x4 ((x3 (x10.toNat * 6 + x12.toNat)).toNat : Int)) * (gt x4 0)))), (75, .int .i64 x1), (76, .int .i64 (Int.tmod (w64 ((gt x4 ((x3 (x10.toNat * 6 + x12.toNat)).toNat : Int)) * (gt x4 0))) x1)), (14, .int .i64 (Int.tmod (w64 ((gt x4 ((x3 (x10.toNat * 6 + x12.toNat)).toNat : Int)) * (gt x4 0))) x1)), (12, SV.v s5)]) ⟨rfl, rfl, rfl, rfl, rfl, rfl, rfl, rfl, rfl, rfl, rfl, rfl, rfl, rfl, rfl, rfl, rfl, rfl, rfl, rfl, rfl, rfl, rfl, rfl, rfl, rfl, rfl, trivial⟩ ?_
                    refine TC.chk fun h7 => ?_
                    refine TC.chk fun h8 => ?_
                    refine TC.bindE ?_
                    rintro r_3 hr1
                    refine TC.small fun h9 => ?_
                    refine TC.drawG [(0, .int .i64 x1), (2, SV.v s1), (4, bp b_1 0), (10, SV.v s3), (11, .int .i64 x10), (13, .int .i64 x12), (56, .int .i64 x12), (57, bp b_1 0), (58, .int .i64 x2), (59, .bool (decide (x12 < x2))), (62, SV.v s1), (63, .int .i64 x10), (64, .int .i64 x12), (65, bp b_1 1), (66, bp b_1 (1 + x10.toNat * 6)), (67, bp b_1 (1 + (x10.toNat * 6 + x12.toNat))), (68, u8v (x3 (x10.toNat * 6 + x12.toNat))), (69, ep s1 ((x3 (x10.toNat * 6 + x12.toNat)).toNat)), (70, .int .i64 (gt x4 ((x3 (x10.toNat * 6 + x12.toNat)).toNat : Int))), (71, SV.v s1), (72, ep s1 0), (73, .int .i64 (gt x4 0)), (74, .int .i64 (w64 ((gt x4 ((x3 (x10.toNat * 6 + x12.toNat)).toNat : Int)) * (gt x4 0)))), (75, .int .i64 x1), (76, .int .i64 (Int.tmod (w64 ((gt x4 ((x3 (x10.toNat * 6 + x12.toNat)).toNat : Int)) * (gt x4 0))) x1)), (14, .int .i64 (Int.tmod (w64 ((gt x4 ((x3 (x10.toNat * 6 + x12.toNat)).toNat : Int)) * (gt x4 0))) x1))] [(12, SV.v s5, 20)] ⟨rfl, rfl, rfl, rfl, rfl, rfl, rfl, rfl, rfl, rfl, rfl, rfl, rfl, rfl, rfl, rfl, rfl, rfl, rfl, rfl, rfl, rfl, rfl, rfl, rfl, rfl, trivial⟩ ⟨rfl, trivial⟩ (fun l_ g1 => [box b_1 37 [.one (.int .i64 x2), .arr 36 (enf u8v x3)], mat Ei 2 22 s3 ss1 x9, (bif nb l_ 19 then row Ei 2 (gs (g1 152)) (x11 ++ ([(Int.tmod (w64 ((Int.tmod (w64 ((gt x4 x10) * (gt x4 x12))) x1) * r_3)) x1)] : List Int)) else row Ei 2 s5 x11), (bif nb l_ 18 then row Ei 2 (gs (g1 144)) ([(Int.tmod (w64 ((Int.tmod (w64 ((gt x4 x10) * (gt x4 x12))) x1) * r_3)) x1)] : List Int) else emp)]) (fun g1 => [SV.v s5, SV.v s1, .int .i64 x10, ep s1 x10.toNat, .int .i64 (gt x4 x10), SV.v s1, .int .i64 x12, ep s1 x12.toNat, .int .i64 (gt x4 x12), .int .i64 (w64 ((gt x4 x10) * (gt x4 x12))), .int .i64 x1, .int .i64 (Int.tmod (w64 ((gt x4 x10) * (gt x4 x12))) x1), .int .i64 x1, .int .i64 (Int.tmod (w64 ((gt x4 ((x3 (x10.toNat * 6 + x12.toNat)).toNat : Int)) * (gt x4 0))) x1), .int .i64 r_3, .int .i64 (w64 ((Int.tmod (w64 ((gt x4 x10) * (gt x4 x12))) x1) * r_3)), .int .i64 x1, .int .i64 (Int.tmod (w64 ((Int.tmod (w64 ((gt x4 x10) * (gt x4 x12))) x1) * r_3)) x1), SV.v (gs (g1 144)), SV.v (gs (g1 152)), SV.v (gs (g1 152))]) [[], [], [], [1, 2], [1, 2, 3], [], [], [5, 6], [5, 6, 7], [1, 2, 3, 4, 5, 6, 7, 8], [], [1, 2, 3, 4, 5, 6, 7, 8, 9, 10], [], [], [12, 13], [1, 2, 3, 4, 5, 6, 7, 8, 9, 10, 11, 12, 13, 14], [], [1, 2, 3, 4, 5, 6, 7, 8, 9, 10, 11, 12, 13, 14, 15, 16], [1, 2, 3, 4, 5, 6, 7, 8, 9, 10, 11, 12, 13, 14, 15, 16, 17], [0, 1, 2, 3, 4, 5, 6, 7, 8, 9, 10, 11, 12, 13, 14, 15, 16, 17, 18], [0, 1, 2, 3, 4, 5, 6, 7, 8, 9, 10, 11, 12, 13, 14, 15, 16, 17, 18, 19]] [[some false, none, none, none, none, none, none, none, none, none, none, none, none, none, none, none, none, none, none, some false, some false], [none, some false, none, some false, some false, none, none, none, none, some false, none, some false, none, none, none, some false, none, some false, some false, some false, some false], [none, none, some false, some false, some false, none, none, none, none, some false, none, some false, none, none, none, some false, none, some false, some false, some false, some false], [none, some true, some true, some false, some false, none, none, none, none, some false, none, some false, none, none, none, some false, none, some false, some false, some false, some false], [none, some true, some true, some true, some false, none, none, none, none, some false, none, some false, none, none, none, some false, none, some false, some false, some false, some false], [none, none, none, none, none, some false, none, some false, some false, some false, none, some false, none, none, none, some false, none, some false, some false, some false, some false], [none, none, none, none, none, none, some false, some false, some false, some false, none, some false, none, none, none, some false, none, some false, some false, some false, some false], [none, none, none, none, none, some true, some true, some false, some false, some false, none, some false, none, none, none, some false, none, some false, some false, some false, some false], [none, none, none, none, none, some true, some true, some true, some false, some false, none, some false, none, none, none, some false, none, some false, some false, some false, some false], [none, some true, some true, some true, some true, some true, some true, some true, some true, some false, none, some false, none, none, none, some false, none, some false, some false, some false, some false], [none, none, none, none, none, none, none, none, none, none, some false, some false, none, none, none, some false, none, some false, some false, some false, some false], [none, some true, some true, some true, some true, some true, some true, some true, some true, some true, some true, some false, none, none, none, some false, none, some false, some false, some false, some false], [none, none, none, none, none, none, none, none, none, none, none, none, some false, none, some false, some false, none, some false, some false, some false, some false], [none, none, none, none, none, none, none, none, none, none, none, none, none, some false, some false, some false, none, some false, some false, some false, some false], [none, none, none, none, none, none, none, none, none, none, none, none, some true, some true, some false, some false, none, some false, some false, some false, some false], [none, some true, some true, some true, some true, some true, some true, some true, some true, some true, some true, some true, some true, some true, some true, some false, none, some false, some false, some false, some false], [none, none, none, none, none, none, none, none, none, none, none, none, none, none, none, none, some false, some false, some false, some false, some false], [none, some true, some true, some true, some true, some true, some true, some true, some true, some true, some true, some true, some true, some true, some true, some true, some true, some false, some false, some false, some false], [none, some true, some true, some true, some true, some true, some true, some true, some true, some true, some true, some true, some true, some true, some true, some true, some true, some true, some false, some false, some false], [some true, some true, some true, some true, some true, some true, some true, some true, some true, some true, some true, some true, some true, some true, some true, some true, some true, some true, some true, some false, some false], [some true, some true, some true, some true, some true, some true, some true, some true, some true, some true, some true, some true, some true, some true, some true, some true, some true, some true, some true, some true, some false]] (by kernel_rfl) (fun _ => rfl) rfl rfl rfl rfl rfl (fun _ _ => ⟨⟨⟨⟨⟨⟨⟨⟨⟨⟨⟨⟨⟨⟨⟨⟨⟨⟨⟨⟨⟨trivial, rfl⟩, rfl⟩, rfl⟩, rfl⟩, rfl⟩, rfl⟩, rfl⟩, rfl⟩, rfl⟩, rfl⟩, rfl⟩, rfl⟩, rfl⟩, rfl⟩, rfl⟩, rfl⟩, rfl⟩, rfl⟩, rfl⟩, rfl⟩, rfl⟩) 1 [1, 1, 1, 0] (fun _ => rfl) ?_ ?_
                    · refine ⟨rfl, ?_, rfl, ?_, rfl, ?_, rfl, ?_, rfl, ?_, rfl, ?_, rfl, ?_, rfl, ?_, rfl, ?_, rfl, ?_, rfl, ?_, rfl, ?_, rfl, ?_, rfl, ?_, rfl, ?_, rfl, ?_, rfl, ?_, rfl, ?_, rfl, ?_, rfl, ?_, rfl, ?_, trivial⟩
                      · intro b1_ b2_ b3_ b4_ b5_ b6_ b7_ b8_ b9_ b10_ b11_ b12_ b13_ b14_ b15_ b16_ b17_ b18_ g1
                        refine TL.move rfl rfl (v := SV.v s5) rfl ?_
                        refine TL.done ?_
                        exact TC.nrm () [] ⟨rfl, trivial⟩ [0, 0, 0, 0] rfl
                      · intro b0_ b2_ b5_ b6_ b7_ b8_ b10_ b12_ b13_ b14_ b16_ g1
                        refine TL.move rfl rfl (v := SV.v s1) rfl ?_
                        refine TL.done ?_
                        exact TC.nrm () [] ⟨rfl, trivial⟩ [0, 0, 0, 0] rfl
                      · intro b0_ b1_ b5_ b6_ b7_ b8_ b10_ b12_ b13_ b14_ b16_ g1
                        refine TL.move rfl rfl (v := .int .i64 x10) rfl ?_
                        refine TL.done ?_
                        exact TC.nrm () [] ⟨rfl, trivial⟩ [0, 0, 0, 0] rfl
                      · intro b0_ b5_ b6_ b7_ b8_ b10_ b12_ b13_ b14_ b16_ g1
                        refine TL.asL [box b_1 37 [.one (.int .i64 x2), .arr 36 (enf u8v x3)], mat Ei 2 22 s3 ss1 x9, row Ei 2 s5 x11, emp] rfl ?_
                        refine TL.ixs x10 x10.toNat (Rd.old h1) h7 Try.underlying22 Try.sizeOf2 rfl rfl rfl rfl (by omega) ?_
                        refine TL.done ?_
                        exact TC.nrm () [] ⟨rfl, trivial⟩ [0, 0, 0, 0] rfl
                      · intro b0_ b5_ b6_ b7_ b8_ b10_ b12_ b13_ b14_ b16_ g1
                        refine TL.asL [box b_1 37 [.one (.int .i64 x2), .arr 36 (enf u8v x3)], mat Ei 2 22 s3 ss1 x9, row Ei 2 s5 x11, emp] rfl ?_
                        refine TL.loadE (Rd.old h1) Try.isAgg2 x10.toNat 0 (gt_spec h7) (v := .int .i64 (gt x4 x10)) rfl (by simp only [show Ei.sz = 1 from rfl]; omega) rfl rfl rfl ?_
                        refine TL.done ?_
                        exact TC.nrm () [] ⟨rfl, trivial⟩ [0, 0, 0, 0] rfl
                      · intro b0_ b1_ b2_ b3_ b4_ b6_ b10_ b12_ b13_ b14_ b16_ g1
                        refine TL.move rfl rfl (v := SV.v s1) rfl ?_
                        refine TL.done ?_
                        exact TC.nrm () [] ⟨rfl, trivial⟩ [0, 0, 0, 0] rfl
                      · intro b0_ b1_ b2_ b3_ b4_ b5_ b10_ b12_ b13_ b14_ b16_ g1
                        refine TL.move rfl rfl (v := .int .i64 x12) rfl ?_
                        refine TL.done ?_
                        exact TC.nrm () [] ⟨rfl, trivial⟩ [0, 0, 0, 0] rfl
                      · intro b0_ b1_ b2_ b3_ b4_ b10_ b12_ b13_ b14_ b16_ g1
                        refine TL.asL [box b_1 37 [.one (.int .i64 x2), .arr 36 (enf u8v x3)], mat Ei 2 22 s3 ss1 x9, row Ei 2 s5 x11, emp] rfl ?_
                        refine TL.ixs x12 x12.toNat (Rd.old h1) h8 Try.underlying22 Try.sizeOf2 rfl rfl rfl rfl (by omega) ?_
                        refine TL.done ?_
                        exact TC.nrm () [] ⟨rfl, trivial⟩ [0, 0, 0, 0] rfl
                      · intro b0_ b1_ b2_ b3_ b4_ b10_ b12_ b13_ b14_ b16_ g1
                        refine TL.asL [box b_1 37 [.one (.int .i64 x2), .arr 36 (enf u8v x3)], mat Ei 2 22 s3 ss1 x9, row Ei 2 s5 x11, emp] rfl ?_
                        refine TL.loadE (Rd.old h1) Try.isAgg2 x12.toNat 0 (gt_spec h8) (v := .int .i64 (gt x4 x12)) rfl (by simp only [show Ei.sz = 1 from rfl]; omega) rfl rfl rfl ?_
                        refine TL.done ?_
                        exact TC.nrm () [] ⟨rfl, trivial⟩ [0, 0, 0, 0] rfl
                      · intro b0_ b10_ b12_ b13_ b14_ b16_ g1
                        refine TL.bin .i64 (gt x4 x10) (gt x4 x12) rfl rfl rfl rfl (v := .int .i64 (w64 ((gt x4 x10) * (gt x4 x12)))) rfl ?_
                        refine TL.done ?_
                        exact TC.nrm () [] ⟨rfl, trivial⟩ [0, 0, 0, 0] rfl
                      · intro b0_ b1_ b2_ b3_ b4_ b5_ b6_ b7_ b8_ b9_ b12_ b13_ b14_ b16_ g1
                        refine TL.move rfl rfl (v := .int .i64 x1) rfl ?_
                        refine TL.done ?_
                        exact TC.nrm () [] ⟨rfl, trivial⟩ [0, 0, 0, 0] rfl
                      · intro b0_ b12_ b13_ b14_ b16_ g1
                        refine TL.rem .i64 (w64 ((gt x4 x10) * (gt x4 x12))) x1 z1 rfl rfl rfl rfl ?_
                        refine TL.done ?_
                        exact TC.nrm () [] ⟨rfl, trivial⟩ [0, 0, 0, 0] rfl
                      · intro b0_ b1_ b2_ b3_ b4_ b5_ b6_ b7_ b8_ b9_ b10_ b11_ b13_ b16_ g1
                        refine TL.move rfl rfl (v := .int .i64 x1) rfl ?_
                        refine TL.done ?_
                        exact TC.nrm () [] ⟨rfl, trivial⟩ [0, 0, 0, 0] rfl
                      · intro b0_ b1_ b2_ b3_ b4_ b5_ b6_ b7_ b8_ b9_ b10_ b11_ b12_ b16_ g1
                        refine TL.move rfl rfl (v := .int .i64 (Int.tmod (w64 ((gt x4 ((x3 (x10.toNat * 6 + x12.toNat)).toNat : Int)) * (gt x4 0))) x1)) rfl ?_
                        refine TL.done ?_
                        exact TC.nrm () [] ⟨rfl, trivial⟩ [0, 0, 0, 0] rfl
                      · intro b0_ b1_ b2_ b3_ b4_ b5_ b6_ b7_ b8_ b9_ b10_ b11_ b16_ g1
                        refine TL.asL [box b_1 37 [.one (.int .i64 x2), .arr 36 (enf u8v x3)], mat Ei 2 22 s3 ss1 x9, row Ei 2 s5 x11, emp] rfl ?_
                        refine TL.callH (R := G.spec_l01Inverse.R) hr1 Try.call56 rfl rfl rfl (fun w hS => G.spec_l01Inverse.calls w x1 (Int.tmod (w64 ((gt x4 ((x3 (x10.toNat * 6 + x12.toNat)).toNat : Int)) * (gt x4 0))) x1)) ?_
                        rintro _ _ ⟨rfl, rfl⟩
                        refine TL.done ?_
                        exact TC.nrm () [] ⟨rfl, trivial⟩ [0, 0, 0, 0] rfl
                      · intro b0_ b16_ g1
                        refine TL.bin .i64 (Int.tmod (w64 ((gt x4 x10) * (gt x4 x12))) x1) r_3 rfl rfl rfl rfl (v := .int .i64 (w64 ((Int.tmod (w64 ((gt x4 x10) * (gt x4 x12))) x1) * r_3))) rfl ?_
                        refine TL.done ?_
                        exact TC.nrm () [] ⟨rfl, trivial⟩ [0, 0, 0, 0] rfl
                      · intro b0_ b1_ b2_ b3_ b4_ b5_ b6_ b7_ b8_ b9_ b10_ b11_ b12_ b13_ b14_ b15_ g1
                        refine TL.move rfl rfl (v := .int .i64 x1) rfl ?_
                        refine TL.done ?_
                        exact TC.nrm () [] ⟨rfl, trivial⟩ [0, 0, 0, 0] rfl
                      · intro b0_ g1
                        refine TL.rem .i64 (w64 ((Int.tmod (w64 ((gt x4 x10) * (gt x4 x12))) x1) * r_3)) x1 z1 rfl rfl rfl rfl ?_
                        refine TL.done ?_
                        exact TC.nrm () [] ⟨rfl, trivial⟩ [0, 0, 0, 0] rfl
                      · intro b0_ g1
                        refine TL.asL [box b_1 37 [.one (.int .i64 x2), .arr 36 (enf u8v x3)], mat Ei 2 22 s3 ss1 x9, row Ei 2 s5 x11, emp] rfl ?_
                        refine TL.blit Ei ([(Int.tmod (w64 ((Int.tmod (w64 ((gt x4 x10) * (gt x4 x12))) x1) * r_3)) x1)] : List Int) Try.underlying22 Try.sizeOf2 Try.zeroValue2 rfl rfl rfl [(0, .int .i64 (Int.tmod (w64 ((Int.tmod (w64 ((gt x4 x10) * (gt x4 x12))) x1) * r_3)) x1))] rfl ⟨rfl, rfl, trivial⟩ rfl rfl fun s6 => ?_
                        refine TL.done ?_
                        exact TC.nrm () [[s6]] ⟨rfl, trivial⟩ [1, 1, 1, 0] rfl
                      · intro g1
                        refine TL.asL [box b_1 37 [.one (.int .i64 x2), .arr 36 (enf u8v x3)], mat Ei 2 22 s3 ss1 x9, row Ei 2 s5 x11, row Ei 2 (gs (g1 144)) ([(Int.tmod (w64 ((Int.tmod (w64 ((gt x4 x10) * (gt x4 x12))) x1) * r_3)) x1)] : List Int)] rfl ?_
                        refine TL.append 2 rfl (Rd.row 3 rfl) Try.underlying22 (info_of Try.type2) (zv := (Try.t2.zero.getD (.bool false))) rfl rfl rfl (by decide) h9 rfl rfl rfl rfl fun s7 => ?_
                        refine TL.done ?_
                        exact TC.nrm () [[s7]] ⟨rfl, trivial⟩ [0, 0, 0, 0] rfl
                      · intro g1
                        refine TL.assign rfl rfl (v := SV.v (gs (g1 152))) rfl ?_
                        refine TL.done ?_
                        exact TC.nrm () [] ⟨rfl, trivial⟩ [0, 0, 0, 0] rfl
                    · intro g1
                      refine TC.asL [box b_1 37 [.one (.int .i64 x2), .arr 36 (enf u8v x3)], mat Ei 2 22 s3 ss1 x9, row Ei 2 (gs (g1 152)) (x11 ++ ([(Int.tmod (w64 ((Int.tmod (w64 ((gt x4 x10) * (gt x4 x12))) x1) * r_3)) x1)] : List Int)), row Ei 2 (gs (g1 144)) ([(Int.tmod (w64 ((Int.tmod (w64 ((gt x4 x10) * (gt x4 x12))) x1) * r_3)) x1)] : List Int)] rfl ?_
                      refine TC.region ?_
                      refine TL.move rfl rfl (v := .int .i64 x12) rfl ?_
                      refine TL.bin .i64 x12 1 rfl rfl rfl rfl (v := .int .i64 (w64 (x12 + 1))) rfl ?_
                      refine TL.assign rfl rfl (v := .int .i64 (w64 (x12 + 1))) rfl ?_
                      refine TL.done ?_
                      exact TC.next1 (((x11 ++ ([(Int.tmod (w64 ((Int.tmod (w64 ((gt x4 x10) * (gt x4 x12))) x1) * r_3)) x1)] : List Int)), (w64 (x12 + 1)))) ((gs (g1 152))) ⟨rfl, rfl, rfl, rfl, rfl, rfl, rfl, trivial⟩ [0, 0, 0] rfl
                · exact TC.brk1 ((x11, x12)) (s5) ⟨rfl, rfl, rfl, rfl, rfl, rfl, rfl, trivial⟩ [0, 0, 0] rfl
              · rintro ⟨x11, x12⟩ s5
                refine TC.region ?_
                refine TL.move rfl rfl (v := SV.v s3) rfl ?_
                refine TL.move rfl rfl (v := SV.v s5) rfl ?_
                refine TL.blit Ev ([s5] : List SV) Try.underlying53 Try.sizeOf22 Try.zeroValue22 rfl rfl rfl [(0, SV.v s5)] rfl ⟨rfl, rfl, trivial⟩ rfl rfl fun s8 => ?_
                refine TL.small fun h10 => ?_
                refine TL.matlen 2 rfl fun h11 => ?_
                refine TL.matcut 2 rfl ?_
                refine TL.append 0 rfl (Rd.row 1 rfl) Try.underlying53 (info_of Try.type22) (zv := (Try.t22.zero.getD (.bool false))) rfl rfl rfl (by decide) (by have h_ := h10; have l_ := h11; (try simp only [List.length_cons, List.length_nil] at h_ l_ ⊢); omega) rfl rfl rfl rfl fun s9 => ?_
                refine TL.rowsPush 3 4 rfl rfl ?_
                skip
                refine TL.matmk 0 4 rfl rfl ?_
                refine TL.drop 0 rfl ?_
                refine TL.asL [row Ev 22 s8 ([s5] : List SV), box b_1 37 [.one (.int .i64 x2), .arr 36 (enf u8v x3)], emp, mat Ei 2 22 s9 (ss1 ++ [s5]) (x9 ++ [x11])] rfl ?_
                refine TL.assign rfl rfl (v := SV.v s9) rfl ?_
                refine TL.done ?_
                refine TC.region ?_
                refine TL.move rfl rfl (v := .int .i64 x10) rfl ?_
                refine TL.bin .i64 x10 1 rfl rfl rfl rfl (v := .int .i64 (w64 (x10 + 1))) rfl ?_
                refine TL.assign rfl rfl (v := .int .i64 (w64 (x10 + 1))) rfl ?_
                refine TL.done ?_
                exact TC.next1 (((x9 ++ [x11]), (w64 (x10 + 1)))) ((s9, (ss1 ++ [s5]))) ⟨rfl, rfl, rfl, rfl, rfl, trivial⟩ [1, 2] rfl
            · exact TC.brk1 ((x9, x10)) ((s3, ss1)) ⟨rfl, rfl, rfl, rfl, rfl, trivial⟩ [0, 0] rfl
          · rintro ⟨x9, x10⟩ ⟨s3, ss1⟩
            refine TC.seq ?_
            refine TC.region ?_
            refine TL.move rfl rfl (v := SV.v s3) rfl ?_
            refine TL.assign rfl rfl (v := SV.v s3) rfl ?_
            refine TL.assign rfl rfl (v := .int .i64 0) rfl ?_
            refine TL.done ?_
            exact TC.retF (Fin.body (fin2 (.inr rfl) rfl (.tmp rfl) (.tmp rfl) [1] rfl ⟨s3, ss1, rfl, rfl⟩))

end Go.Proofs.Ytcombgcjgdkbiaa.G
