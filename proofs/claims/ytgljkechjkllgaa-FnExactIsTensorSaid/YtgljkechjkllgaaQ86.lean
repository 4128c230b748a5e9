/- spec.l03Is, as a pure function. -/
import Derived.Test.YtgljkechjkllgaaProg
import Derived.Test.YtgljkechjkllgaaSx9
import Derived.Test.YtgljkechjkllgaaQ75
import Derived.Test.YtgljkechjkllgaaQ99
import Derived.Test.YtgljkechjkllgaaQ107
set_option linter.unusedVariables false
namespace Go.Proofs.Ytgljkechjkllgaa.G
open Go Go.Sx Go.Proofs

def spec_l03Is.b0 (t5 : List Int) (t1 : Int) : Int → Option (LR Int Bool) := fun i1 => (bif (decide (i1 < (t5.length : Int))) then chk i1 t5.length ((G.spec_l01In.f (gt t5 i1) 0 (w64 (t1 - 1))).bind (fun r_6 => (bif (!r_6) then some (.ret (false)) else some (.next (w64 (i1 + 1)))))) else some (.brk i1))

def spec_l03Is.f (t1 : Int) (t2 : Int) (t3 : Int) (t4 : Int) (t5 : List Int) : Option Bool := (G.spec_l01Prime.f t1).bind (fun r_1 => (bif (!r_1) then some true else (G.spec_l01In.f t2 1 6).bind (fun r_2 => some (!r_2))).bind (fun b_2 => (bif b_2 then some true else (G.spec_l01In.f t3 0 8).bind (fun r_3 => some (!r_3))).bind (fun b_3 => (bif b_3 then some true else (G.spec_l01In.f t4 0 8).bind (fun r_4 => some (!r_4))).bind (fun b_4 => (bif b_4 then some false else (G.spec_l03Power.f t2 (w64 (t3 + t4))).bind (fun r_5 => (bif ((decide (r_5 > 1296)) || ((t5.length : Int) != r_5)) then some false else (loop (spec_l03Is.b0 t5 t1) 0).bind (ln (fun i1 => some true)))))))))

def spec_l03Is.R (r : Bool) (v : Value) (L : List Asn) : Prop := v = .bool r ∧ L = []

set_option maxRecDepth 100000 in
set_option maxHeartbeats 4000000 in
theorem spec_l03Is.calls (w : World) (t1 : Int) (t2 : Int) (t3 : Int) (t4 : Int) (s1 : SV) (t5 : List Int) (h1 : Reads Ei (hp w) s1 t5) :
    ∀ r, spec_l03Is.f t1 t2 t3 t4 t5 = some r → Calls Try.prog 86 #[sval [.one (.int .i64 t1), .one (.int .i64 t2), .one (.int .i64 t3), .one (.int .i64 t4), .one (SV.v s1)]] w (Ret w (spec_l03Is.R r)) := by

  refine calls_T (n := 61) (Γ := [(0, sval [.one (.int .i64 t1), .one (.int .i64 t2), .one (.int .i64 t3), .one (.int .i64 t4), .one (SV.v s1)])]) (R := spec_l03Is.R) Try.func86 rfl rfl (Nat.le_of_ble_eq_true rfl) ⟨rfl, trivial⟩ ?_
  unfold spec_l03Is.f
  refine TC.seq ?_
  refine TC.region ?_
  refine TL.box [.one (.int .i64 t1), .one (.int .i64 t2), .one (.int .i64 t3), .one (.int .i64 t4), .one (SV.v s1)] rfl rfl rfl rfl fun b_1 => ?_
  refine TL.assign rfl rfl (v := .bool false) rfl ?_
  refine TL.done ?_
  refine TC.seq ?_
  refine TC.seq ?_
  refine TC.region ?_
  refine TL.fa Try.underlying61 rfl Try.sizeOf2 rfl 0 rfl rfl rfl rfl ?_
  refine TL.load1 0 (Src.box 0 rfl) Try.isAgg2 rfl rfl rfl rfl rfl ?_
  refine TL.call (R := G.spec_l01Prime.R) Try.call99 rfl rfl rfl (fun w hS => G.spec_l01Prime.calls w t1) ?_
  rintro r_1 _ _ ⟨rfl, rfl⟩
  refine TL.not r_1 rfl rfl rfl ?_
  refine TL.move rfl rfl (v := .bool (!r_1)) rfl ?_
  refine TL.cutJ (σ := Bool) (γ := Unit) (Γ' := fun b_2 _ => [(14, .bool b_2), (0, sval [.one (.int .i64 t1), .one (.int .i64 t2), .one (.int .i64 t3), .one (.int .i64 t4), .one (SV.v s1)]), (1, bp b_1 0), (2, .bool false), (5, bp b_1 0), (6, .int .i64 t1), (7, .bool r_1), (8, .bool (!r_1)), (9, .bool (!r_1))]) (L' := fun _ _ => [box b_1 61 [.one (.int .i64 t1), .one (.int .i64 t2), .one (.int .i64 t3), .one (.int .i64 t4), .one (SV.v s1)]]) 5 ?_ ?_
  · refine TL.ifb (t := 9) (b := (!r_1)) rfl (fun c1 => ?_) (fun c2 => ?_)
    · refine TL.skip rfl rfl (by decide) ?_
      refine TL.skip rfl rfl (by decide) ?_
      refine TL.skip rfl rfl (by decide) ?_
      refine TL.skip rfl rfl (by decide) ?_
      refine TL.pick rfl rfl (b := true) rfl (r := .bool true) rfl ?_
      refine TL.done ?_
      exact TC.nrm (true) () ⟨rfl, rfl, rfl, rfl, rfl, rfl, rfl, rfl, (by rw [c1]; rfl), trivial⟩ [0] rfl
    · refine TL.fa Try.underlying61 rfl Try.sizeOf2 rfl 1 rfl rfl rfl rfl ?_
      refine TL.load1 1 (Src.box 0 rfl) Try.isAgg2 rfl rfl rfl rfl rfl ?_
      refine TL.call (R := G.spec_l01In.R) Try.call75 rfl rfl rfl (fun w hS => G.spec_l01In.calls w t2 1 6) ?_
      rintro r_2 _ _ ⟨rfl, rfl⟩
      refine TL.not r_2 rfl rfl rfl ?_
      refine TL.pick rfl rfl (b := false) rfl (r := .bool (!r_2)) rfl ?_
      refine TL.done ?_
      exact TC.nrm ((!r_2)) () ⟨rfl, rfl, rfl, rfl, rfl, rfl, rfl, rfl, (by rw [c2]; rfl), trivial⟩ [0] rfl
  · rintro b_2 _
    refine TL.move rfl rfl (v := .bool b_2) rfl ?_
    refine TL.cutJ (σ := Bool) (γ := Unit) (Γ' := fun b_3 _ => [(20, .bool b_3), (0, sval [.one (.int .i64 t1), .one (.int .i64 t2), .one (.int .i64 t3), .one (.int .i64 t4), .one (SV.v s1)]), (1, bp b_1 0), (2, .bool false), (5, bp b_1 0), (6, .int .i64 t1), (7, .bool r_1), (8, .bool (!r_1)), (9, .bool (!r_1)), (14, .bool b_2), (15, .bool b_2)]) (L' := fun _ _ => [box b_1 61 [.one (.int .i64 t1), .one (.int .i64 t2), .one (.int .i64 t3), .one (.int .i64 t4), .one (SV.v s1)]]) 5 ?_ ?_
    · refine TL.ifb (t := 15) (b := b_2) rfl (fun c3 => ?_) (fun c4 => ?_)
      · refine TL.skip rfl rfl (by decide) ?_
        refine TL.skip rfl rfl (by decide) ?_
        refine TL.skip rfl rfl (by decide) ?_
        refine TL.skip rfl rfl (by decide) ?_
        refine TL.pick rfl rfl (b := true) rfl (r := .bool true) rfl ?_
        refine TL.done ?_
        exact TC.nrm (true) () ⟨rfl, rfl, rfl, rfl, rfl, rfl, rfl, rfl, rfl, rfl, (by rw [c3]; rfl), trivial⟩ [0] rfl
      · refine TL.fa Try.underlying61 rfl Try.sizeOf2 rfl 2 rfl rfl rfl rfl ?_
        refine TL.load1 2 (Src.box 0 rfl) Try.isAgg2 rfl rfl rfl rfl rfl ?_
        refine TL.call (R := G.spec_l01In.R) Try.call75 rfl rfl rfl (fun w hS => G.spec_l01In.calls w t3 0 8) ?_
        rintro r_3 _ _ ⟨rfl, rfl⟩
        refine TL.not r_3 rfl rfl rfl ?_
        refine TL.pick rfl rfl (b := false) rfl (r := .bool (!r_3)) rfl ?_
        refine TL.done ?_
        exact TC.nrm ((!r_3)) () ⟨rfl, rfl, rfl, rfl, rfl, rfl, rfl, rfl, rfl, rfl, (by rw [c4]; rfl), trivial⟩ [0] rfl
    · rintro b_3 _
      refine TL.move rfl rfl (v := .bool b_3) rfl ?_
      refine TL.cutJ (σ := Bool) (γ := Unit) (Γ' := fun b_4 _ => [(26, .bool b_4), (0, sval [.one (.int .i64 t1), .one (.int .i64 t2), .one (.int .i64 t3), .one (.int .i64 t4), .one (SV.v s1)]), (1, bp b_1 0), (2, .bool false), (5, bp b_1 0), (6, .int .i64 t1), (7, .bool r_1), (8, .bool (!r_1)), (9, .bool (!r_1)), (14, .bool b_2), (15, .bool b_2), (20, .bool b_3), (21, .bool b_3)]) (L' := fun _ _ => [box b_1 61 [.one (.int .i64 t1), .one (.int .i64 t2), .one (.int .i64 t3), .one (.int .i64 t4), .one (SV.v s1)]]) 5 ?_ ?_
      · refine TL.ifb (t := 21) (b := b_3) rfl (fun c5 => ?_) (fun c6 => ?_)
        · refine TL.skip rfl rfl (by decide) ?_
          refine TL.skip rfl rfl (by decide) ?_
          refine TL.skip rfl rfl (by decide) ?_
          refine TL.skip rfl rfl (by decide) ?_
          refine TL.pick rfl rfl (b := true) rfl (r := .bool true) rfl ?_
          refine TL.done ?_
          exact TC.nrm (true) () ⟨rfl, rfl, rfl, rfl, rfl, rfl, rfl, rfl, rfl, rfl, rfl, rfl, (by rw [c5]; rfl), trivial⟩ [0] rfl
        · refine TL.fa Try.underlying61 rfl Try.sizeOf2 rfl 3 rfl rfl rfl rfl ?_
          refine TL.load1 3 (Src.box 0 rfl) Try.isAgg2 rfl rfl rfl rfl rfl ?_
          refine TL.call (R := G.spec_l01In.R) Try.call75 rfl rfl rfl (fun w hS => G.spec_l01In.calls w t4 0 8) ?_
          rintro r_4 _ _ ⟨rfl, rfl⟩
          refine TL.not r_4 rfl rfl rfl ?_
          refine TL.pick rfl rfl (b := false) rfl (r := .bool (!r_4)) rfl ?_
          refine TL.done ?_
          exact TC.nrm ((!r_4)) () ⟨rfl, rfl, rfl, rfl, rfl, rfl, rfl, rfl, rfl, rfl, rfl, rfl, (by rw [c6]; rfl), trivial⟩ [0] rfl
      · rintro b_4 _
        refine TL.done ?_
        refine TC.cond (b := b_4) rfl (fun c7 => ?_) (fun c8 => ?_)
        · refine TC.seq ?_
          refine TC.region ?_
          refine TL.assign rfl rfl (v := .bool false) rfl ?_
          refine TL.done ?_
          exact TC.retF (Fin.body (fin1 (.inr rfl) rfl (.tmp rfl) [] rfl ⟨rfl, rfl⟩))
        · refine TC.skip ?_
          refine TC.seq ?_
          refine TC.region ?_
          refine TL.fa Try.underlying61 rfl Try.sizeOf2 rfl 1 rfl rfl rfl rfl ?_
          refine TL.load1 1 (Src.box 0 rfl) Try.isAgg2 rfl rfl rfl rfl rfl ?_
          refine TL.fa Try.underlying61 rfl Try.sizeOf2 rfl 2 rfl rfl rfl rfl ?_
          refine TL.load1 2 (Src.box 0 rfl) Try.isAgg2 rfl rfl rfl rfl rfl ?_
          refine TL.fa Try.underlying61 rfl Try.sizeOf2 rfl 3 rfl rfl rfl rfl ?_
          refine TL.load1 3 (Src.box 0 rfl) Try.isAgg2 rfl rfl rfl rfl rfl ?_
          refine TL.bin .i64 t3 t4 rfl rfl rfl rfl (v := .int .i64 (w64 (t3 + t4))) rfl ?_
          refine TL.call (R := G.spec_l03Power.R) Try.call107 rfl rfl rfl (fun w hS => G.spec_l03Power.calls w t2 (w64 (t3 + t4))) ?_
          rintro r_5 _ _ ⟨rfl, rfl⟩
          refine TL.assign rfl rfl (v := .int .i64 r_5) rfl ?_
          refine TL.done ?_
          refine TC.seq ?_
          refine TC.seq ?_
          refine TC.region ?_
          refine TL.move rfl rfl (v := .int .i64 r_5) rfl ?_
          refine TL.bin .i64 r_5 1296 rfl rfl rfl rfl (v := .bool (decide (r_5 > 1296))) rfl ?_
          refine TL.move rfl rfl (v := .bool (decide (r_5 > 1296))) rfl ?_
          refine TL.cutU 6 [(43, .bool ((decide (r_5 > 1296)) || ((t5.length : Int) != r_5))), (0, sval [.one (.int .i64 t1), .one (.int .i64 t2), .one (.int .i64 t3), .one (.int .i64 t4), .one (SV.v s1)]), (1, bp b_1 0), (2, .bool false), (5, bp b_1 0), (6, .int .i64 t1), (7, .bool r_1), (8, .bool (!r_1)), (9, .bool (!r_1)), (14, .bool b_2), (15, .bool b_2), (20, .bool b_3), (21, .bool b_3), (26, .bool b_4), (27, bp b_1 1), (28, .int .i64 t2), (29, bp b_1 2), (30, .int .i64 t3), (31, bp b_1 3), (32, .int .i64 t4), (33, .int .i64 (w64 (t3 + t4))), (34, .int .i64 r_5), (3, .int .i64 r_5), (35, .int .i64 r_5), (36, .bool (decide (r_5 > 1296))), (37, .bool (decide (r_5 > 1296)))] [box b_1 61 [.one (.int .i64 t1), .one (.int .i64 t2), .one (.int .i64 t3), .one (.int .i64 t4), .one (SV.v s1)]] ?_ ?_
          · refine TL.cases (t := 37) (b := (decide (r_5 > 1296))) rfl (fun c9 => ?_) (fun c10 => ?_)
            · refine TL.skip rfl rfl (by decide) ?_
              refine TL.skip rfl rfl (by decide) ?_
              refine TL.skip rfl rfl (by decide) ?_
              refine TL.skip rfl rfl (by decide) ?_
              refine TL.skip rfl rfl (by decide) ?_
              refine TL.pick rfl rfl (b := true) rfl (r := .bool true) rfl ?_
              refine TL.done ?_
              exact TC.nrm () () ⟨(by rw [c9]; rfl), rfl, rfl, rfl, rfl, rfl, rfl, rfl, rfl, rfl, rfl, rfl, rfl, rfl, rfl, rfl, rfl, rfl, rfl, rfl, rfl, rfl, rfl, rfl, rfl, (by rw [c9]; rfl), trivial⟩ [0] rfl
            · refine TL.fa Try.underlying61 rfl Try.sizeOf44 rfl 4 rfl rfl rfl rfl ?_
              refine TL.load1 4 (Src.box 0 rfl) Try.isAgg44 rfl rfl rfl rfl rfl ?_
              refine TL.len (Rd.old h1) Try.underlying44 rfl rfl rfl ?_
              refine TL.move rfl rfl (v := .int .i64 r_5) rfl ?_
              refine TL.bin .i64 (t5.length : Int) r_5 rfl rfl rfl rfl (v := .bool ((t5.length : Int) != r_5)) rfl ?_
              refine TL.pick rfl rfl (b := false) rfl (r := .bool ((t5.length : Int) != r_5)) rfl ?_
              refine TL.done ?_
              exact TC.nrm () () ⟨(by rw [c10]; rfl), rfl, rfl, rfl, rfl, rfl, rfl, rfl, rfl, rfl, rfl, rfl, rfl, rfl, rfl, rfl, rfl, rfl, rfl, rfl, rfl, rfl, rfl, rfl, rfl, (by rw [c10]; rfl), trivial⟩ [0] rfl
          · refine TL.done ?_
            refine TC.cond (b := ((decide (r_5 > 1296)) || ((t5.length : Int) != r_5))) rfl (fun c11 => ?_) (fun c12 => ?_)
            · refine TC.seq ?_
              refine TC.region ?_
              refine TL.assign rfl rfl (v := .bool false) rfl ?_
              refine TL.done ?_
              exact TC.retF (Fin.body (fin1 (.inr rfl) rfl (.tmp rfl) [] rfl ⟨rfl, rfl⟩))
            · refine TC.skip ?_
              refine TC.seq ?_
              refine TC.seq ?_
              refine TC.region ?_
              refine TL.assign rfl rfl (v := .int .i64 0) rfl ?_
              refine TL.done ?_
              refine TC.loopK (σ := Int) (γ := Unit) (Γ' := (fun i1 _ => [(1, bp b_1 0), (4, .int .i64 i1)])) (L' := (fun i1 _ => [box b_1 61 [.one (.int .i64 t1), .one (.int .i64 t2), .one (.int .i64 t3), .one (.int .i64 t4), .one (SV.v s1)]])) (Γb := (fun i1 _ => [(1, bp b_1 0), (4, .int .i64 i1)])) (Lb := (fun i1 _ => [box b_1 61 [.one (.int .i64 t1), .one (.int .i64 t2), .one (.int .i64 t3), .one (.int .i64 t4), .one (SV.v s1)]])) (0) (()) ⟨rfl, rfl, trivial⟩ [0] rfl ?_ ?_
              · rintro i1 _
                refine TC.seq ?_
                refine TC.seq ?_
                refine TC.region ?_
                refine TL.move rfl rfl (v := .int .i64 i1) rfl ?_
                refine TL.fa Try.underlying61 rfl Try.sizeOf44 rfl 4 rfl rfl rfl rfl ?_
                refine TL.load1 4 (Src.box 0 rfl) Try.isAgg44 rfl rfl rfl rfl rfl ?_
                refine TL.len (Rd.old h1) Try.underlying44 rfl rfl rfl ?_
                refine TL.bin .i64 i1 (t5.length : Int) rfl rfl rfl rfl (v := .bool (decide (i1 < (t5.length : Int)))) rfl ?_
                refine TL.done ?_
                refine TC.cond (b := (decide (i1 < (t5.length : Int)))) rfl (fun c13 => ?_) (fun c14 => ?_)
                · refine TC.skip ?_
                  refine TC.seq ?_
                  refine TC.block (NoEx.loop rfl NoEx.body) ?_
                  refine TC.seq ?_
                  refine TC.wk (Γ' := [(1, bp b_1 0), (4, .int .i64 i1), (44, .int .i64 i1), (45, bp b_1 4), (46, SV.v s1), (47, .int .i64 (t5.length : Int)), (48, .bool (decide (i1 < (t5.length : Int))))]) ⟨rfl, rfl, rfl, rfl, rfl, rfl, rfl, trivial⟩ ?_
                  refine TC.chk fun h2 => ?_
                  refine TC.bindE fun r_6 hr1 => ?_
                  refine TC.draw [bp b_1 4, SV.v s1, .int .i64 i1, ep s1 i1.toNat, .int .i64 (gt t5 i1), bp b_1 0, .int .i64 t1, .int .i64 (w64 (t1 - 1)), .bool r_6, .bool (!r_6)] 10 [box b_1 61 [.one (.int .i64 t1), .one (.int .i64 t2), .one (.int .i64 t3), .one (.int .i64 t4), .one (SV.v s1)]] (by kernel_rfl) rfl rfl rfl rfl ?_ ?_
                  · refine ⟨?_, ?_, ?_, ?_, ?_, ?_, ?_, ?_, ?_, ?_, trivial⟩
                    · refine TL.fa Try.underlying61 rfl Try.sizeOf44 rfl 4 rfl rfl rfl rfl ?_
                      refine TL.done ?_
                      exact TC.nrm () () ⟨rfl, trivial⟩ [0] rfl
                    · refine TL.load1 4 (Src.box 0 rfl) Try.isAgg44 rfl rfl rfl rfl rfl ?_
                      refine TL.done ?_
                      exact TC.nrm () () ⟨rfl, trivial⟩ [0] rfl
                    · refine TL.move rfl rfl (v := .int .i64 i1) rfl ?_
                      refine TL.done ?_
                      exact TC.nrm () () ⟨rfl, trivial⟩ [0] rfl
                    · refine TL.ixs i1 i1.toNat (Rd.old h1) h2 Try.underlying44 Try.sizeOf2 rfl rfl rfl rfl (by omega) ?_
                      refine TL.done ?_
                      exact TC.nrm () () ⟨rfl, trivial⟩ [0] rfl
                    · refine TL.loadE (Rd.old h1) Try.isAgg2 i1.toNat 0 (gt_spec h2) (v := .int .i64 (gt t5 i1)) rfl (by simp only [show Ei.sz = 1 from rfl]; omega) rfl rfl rfl ?_
                      refine TL.done ?_
                      exact TC.nrm () () ⟨rfl, trivial⟩ [0] rfl
                    · refine TL.fa Try.underlying61 rfl Try.sizeOf2 rfl 0 rfl rfl rfl rfl ?_
                      refine TL.done ?_
                      exact TC.nrm () () ⟨rfl, trivial⟩ [0] rfl
                    · refine TL.load1 0 (Src.box 0 rfl) Try.isAgg2 rfl rfl rfl rfl rfl ?_
                      refine TL.done ?_
                      exact TC.nrm () () ⟨rfl, trivial⟩ [0] rfl
                    · refine TL.bin .i64 t1 1 rfl rfl rfl rfl (v := .int .i64 (w64 (t1 - 1))) rfl ?_
                      refine TL.done ?_
                      exact TC.nrm () () ⟨rfl, trivial⟩ [0] rfl
                    · refine TL.callH (R := G.spec_l01In.R) hr1 Try.call75 rfl rfl rfl (fun w hS => G.spec_l01In.calls w (gt t5 i1) 0 (w64 (t1 - 1))) ?_
                      rintro _ _ ⟨rfl, rfl⟩
                      refine TL.done ?_
                      exact TC.nrm () () ⟨rfl, trivial⟩ [0] rfl
                    · refine TL.not r_6 rfl rfl rfl ?_
                      refine TL.done ?_
                      exact TC.nrm () () ⟨rfl, trivial⟩ [0] rfl
                  · refine TC.cond (b := (!r_6)) rfl (fun c15 => ?_) (fun c16 => ?_)
                    · refine TC.seq ?_
                      refine TC.region ?_
                      refine TL.assign rfl rfl (v := .bool false) rfl ?_
                      refine TL.done ?_
                      exact TC.retF (Fin.loop Far.ret (Fin.body (fin1 (.inr rfl) rfl (.tmp rfl) [] rfl ⟨rfl, rfl⟩)))
                    · refine TC.skip ?_
                      refine TC.region ?_
                      refine TL.move rfl rfl (v := .int .i64 i1) rfl ?_
                      refine TL.bin .i64 i1 1 rfl rfl rfl rfl (v := .int .i64 (w64 (i1 + 1))) rfl ?_
                      refine TL.assign rfl rfl (v := .int .i64 (w64 (i1 + 1))) rfl ?_
                      refine TL.done ?_
                      exact TC.next ((w64 (i1 + 1))) (()) ⟨rfl, rfl, trivial⟩ [0] rfl
                · exact TC.brk (i1) (()) ⟨rfl, rfl, trivial⟩ [0] rfl
              · rintro i1 _
                refine TC.seq ?_
                refine TC.region ?_
                refine TL.assign rfl rfl (v := .bool true) rfl ?_
                refine TL.done ?_
                exact TC.retF (Fin.body (fin1 (.inr rfl) rfl (.tmp rfl) [] rfl ⟨rfl, rfl⟩))

end Go.Proofs.Ytgljkechjkllgaa.G
