/- Functions of the program, as pure functions. -/
import Derived.Test.YtjjfoofjipafiaaMPermuteTensor1
import Derived.Test.YtjjfoofjipafiaaProg
/- spec.l03Is, as a pure function. -/
set_option linter.unusedVariables false
namespace Go.Proofs.Ytjjfoofjipafiaa.G
open Go Go.Sx Go.Proofs

def spec_l03Is.b0 (t5 : List Int) (t1 : Int) : Int → Option (LR Int Bool) := fun i1 => (bif (decide (i1 < (t5.length : Int))) then chk i1 t5.length ((G.spec_l01In.f (gt t5 i1) 0 (w64 (t1 - 1))).bind (fun r_6 => (bif (!r_6) then some (.ret (false)) else some (.next (w64 (i1 + 1)))))) else some (.brk i1))

def spec_l03Is.f (t1 : Int) (t2 : Int) (t3 : Int) (t4 : Int) (t5 : List Int) : Option Bool := (G.spec_l01Prime.f t1).bind (fun r_1 => (bif (!r_1) then some true else (G.spec_l01In.f t2 1 6).bind (fun r_2 => some (!r_2))).bind (fun b_2 => (bif b_2 then some true else (G.spec_l01In.f t3 0 8).bind (fun r_3 => some (!r_3))).bind (fun b_3 => (bif b_3 then some true else (G.spec_l01In.f t4 0 8).bind (fun r_4 => some (!r_4))).bind (fun b_4 => (bif b_4 then some false else (G.spec_l03Power.f t2 (w64 (t3 + t4))).bind (fun r_5 => (bif ((decide (r_5 > 1296)) || ((t5.length : Int) != r_5)) then some false else (loop (spec_l03Is.b0 t5 t1) 0).bind (ln (fun i1 => some true)))))))))

def spec_l03Is.R (r : Bool) (v : Value) (L : List Asn) : Prop := v = .bool r ∧ L = []

set_option maxRecDepth 100000 in
set_option maxHeartbeats 4000000 in
theorem spec_l03Is.calls (w : World) (t1 : Int) (t2 : Int) (t3 : Int) (t4 : Int) (s1 : SV) (t5 : List Int) (h1 : Reads Ei (hp w) s1 t5) :
    ∀ r, spec_l03Is.f t1 t2 t3 t4 t5 = some r → Calls Try.prog 55 #[sval [.one (.int .i64 t1), .one (.int .i64 t2), .one (.int .i64 t3), .one (.int .i64 t4), .one (SV.v s1)]] w (Ret w (spec_l03Is.R r)) := by

  refine calls_T (n := 61) (Γ := [(0, sval [.one (.int .i64 t1), .one (.int .i64 t2), .one (.int .i64 t3), .one (.int .i64 t4), .one (SV.v s1)])]) (R := spec_l03Is.R) Try.func55 rfl rfl (Nat.le_of_ble_eq_true rfl) ⟨rfl, trivial⟩ ?_
  unfold spec_l03Is.f
  refine TC.seq ?_
  refine TC.region ?_
  refine TL.box [.one (.int .i64 t1), .one (.int .i64 t2), .one (.int .i64 t3), .one (.int .i64 t4), .one (SV.v s1)] rfl rfl rfl rfl fun b_1 => ?_
  refine TL.assign rfl rfl (v := .bool false) rfl ?_
  refine TL.done ?_
  refine TC.seq ?_
  refine TC.seq ?_
  refine TC.region ?_
  refine TL.fa Try.underlying24 rfl Try.sizeOf2 rfl 0 rfl rfl rfl rfl ?_
  refine TL.load1 0 (Src.box 0 rfl) Try.isAgg2 rfl rfl rfl rfl rfl ?_
  refine TL.call (R := G.spec_l01Prime.R) Try.call82 rfl rfl rfl (fun w hS => G.spec_l01Prime.calls w t1) ?_
  rintro r_1 _ _ ⟨rfl, rfl⟩
  refine TL.not r_1 rfl rfl rfl ?_
  refine TL.move rfl rfl (v := .bool (!r_1)) rfl ?_
  refine TL.cutJ (σ := Bool) (γ := Unit) (Γ' := fun b_2 _ => [(14, .bool b_2), (0, sval [.one (.int .i64 t1), .one (.int .i64 t2), .one (.int .i64 t3), .one (.int .i64 t4), .one (SV.v s1)]), (1, bp b_1 0), (2, .bool false), (5, bp b_1 0), (6, .int .i64 t1), (7, .bool r_1), (8, .bool (!r_1)), (9, .bool (!r_1))]) (L' := fun _ _ => [box b_1 24 [.one (.int .i64 t1), .one (.int .i64 t2), .one (.int .i64 t3), .one (.int .i64 t4), .one (SV.v s1)]]) 5 ?_ ?_
  · refine TL.ifb (t := 9) (b := (!r_1)) rfl (fun c1 => ?_) (fun c2 => ?_)
    · refine TL.skip rfl rfl (by decide) ?_
      refine TL.skip rfl rfl (by decide) ?_
      refine TL.skip rfl rfl (by decide) ?_
      refine TL.skip rfl rfl (by decide) ?_
      refine TL.pick rfl rfl (b := true) rfl (r := .bool true) rfl ?_
      refine TL.done ?_
      exact TC.nrm (true) () ⟨rfl, rfl, rfl, rfl, rfl, rfl, rfl, rfl, (by rw [c1]; rfl), trivial⟩ [0] (by kernel_rfl)
    · refine TL.fa Try.underlying24 rfl Try.sizeOf2 rfl 1 rfl rfl rfl rfl ?_
      refine TL.load1 1 (Src.box 0 rfl) Try.isAgg2 rfl rfl rfl rfl rfl ?_
      refine TL.call (R := G.spec_l01In.R) Try.call49 rfl rfl rfl (fun w hS => G.spec_l01In.calls w t2 1 6) ?_
      rintro r_2 _ _ ⟨rfl, rfl⟩
      refine TL.not r_2 rfl rfl rfl ?_
      refine TL.pick rfl rfl (b := false) rfl (r := .bool (!r_2)) rfl ?_
      refine TL.done ?_
      exact TC.nrm ((!r_2)) () ⟨rfl, rfl, rfl, rfl, rfl, rfl, rfl, rfl, (by rw [c2]; rfl), trivial⟩ [0] (by kernel_rfl)
  · rintro b_2 _
    refine TL.move rfl rfl (v := .bool b_2) rfl ?_
    refine TL.cutJ (σ := Bool) (γ := Unit) (Γ' := fun b_3 _ => [(20, .bool b_3), (0, sval [.one (.int .i64 t1), .one (.int .i64 t2), .one (.int .i64 t3), .one (.int .i64 t4), .one (SV.v s1)]), (1, bp b_1 0), (2, .bool false), (5, bp b_1 0), (6, .int .i64 t1), (7, .bool r_1), (8, .bool (!r_1)), (9, .bool (!r_1)), (14, .bool b_2), (15, .bool b_2)]) (L' := fun _ _ => [box b_1 24 [.one (.int .i64 t1), .one (.int .i64 t2), .one (.int .i64 t3), .one (.int .i64 t4), .one (SV.v s1)]]) 5 ?_ ?_
    · refine TL.ifb (t := 15) (b := b_2) rfl (fun c3 => ?_) (fun c4 => ?_)
      · refine TL.skip rfl rfl (by decide) ?_
        refine TL.skip rfl rfl (by decide) ?_
        refine TL.skip rfl rfl (by decide) ?_
        refine TL.skip rfl rfl (by decide) ?_
        refine TL.pick rfl rfl (b := true) rfl (r := .bool true) rfl ?_
        refine TL.done ?_
        exact TC.nrm (true) () ⟨rfl, rfl, rfl, rfl, rfl, rfl, rfl, rfl, rfl, rfl, (by rw [c3]; rfl), trivial⟩ [0] (by kernel_rfl)
      · refine TL.fa Try.underlying24 rfl Try.sizeOf2 rfl 2 rfl rfl rfl rfl ?_
        refine TL.load1 2 (Src.box 0 rfl) Try.isAgg2 rfl rfl rfl rfl rfl ?_
        refine TL.call (R := G.spec_l01In.R) Try.call49 rfl rfl rfl (fun w hS => G.spec_l01In.calls w t3 0 8) ?_
        rintro r_3 _ _ ⟨rfl, rfl⟩
        refine TL.not r_3 rfl rfl rfl ?_
        refine TL.pick rfl rfl (b := false) rfl (r := .bool (!r_3)) rfl ?_
        refine TL.done ?_
        exact TC.nrm ((!r_3)) () ⟨rfl, rfl, rfl, rfl, rfl, rfl, rfl, rfl, rfl, rfl, (by rw [c4]; rfl), trivial⟩ [0] (by kernel_rfl)
    · rintro b_3 _
      refine TL.move rfl rfl (v := .bool b_3) rfl ?_
      refine TL.cutJ (σ := Bool) (γ := Unit) (Γ' := fun b_4 _ => [(26, .bool b_4), (0, sval [.one (.int .i64 t1), .one (.int .i64 t2), .one (.int .i64 t3), .one (.int .i64 t4), .one (SV.v s1)]), (1, bp b_1 0), (2, .bool false), (5, bp b_1 0), (6, .int .i64 t1), (7, .bool r_1), (8, .bool (!r_1)), (9, .bool (!r_1)), (14, .bool b_2), (15, .bool b_2), (20, .bool b_3), (21, .bool b_3)]) (L' := fun _ _ => [box b_1 24 [.one (.int .i64 t1), .one (.int .i64 t2), .one (.int .i64 t3), .one (.int .i64 t4), .one (SV.v s1)]]) 5 ?_ ?_
      · refine TL.ifb (t := 21) (b := b_3) rfl (fun c5 => ?_) (fun c6 => ?_)
        · refine TL.skip rfl rfl (by decide) ?_
          refine TL.skip rfl rfl (by decide) ?_
          refine TL.skip rfl rfl (by decide) ?_
          refine TL.skip rfl rfl (by decide) ?_
          refine TL.pick rfl rfl (b := true) rfl (r := .bool true) rfl ?_
          refine TL.done ?_
          exact TC.nrm (true) () ⟨rfl, rfl, rfl, rfl, rfl, rfl, rfl, rfl, rfl, rfl, rfl, rfl, (by rw [c5]; rfl), trivial⟩ [0] (by kernel_rfl)
        · refine TL.fa Try.underlying24 rfl Try.sizeOf2 rfl 3 rfl rfl rfl rfl ?_
          refine TL.load1 3 (Src.box 0 rfl) Try.isAgg2 rfl rfl rfl rfl rfl ?_
          refine TL.call (R := G.spec_l01In.R) Try.call49 rfl rfl rfl (fun w hS => G.spec_l01In.calls w t4 0 8) ?_
          rintro r_4 _ _ ⟨rfl, rfl⟩
          refine TL.not r_4 rfl rfl rfl ?_
          refine TL.pick rfl rfl (b := false) rfl (r := .bool (!r_4)) rfl ?_
          refine TL.done ?_
          exact TC.nrm ((!r_4)) () ⟨rfl, rfl, rfl, rfl, rfl, rfl, rfl, rfl, rfl, rfl, rfl, rfl, (by rw [c6]; rfl), trivial⟩ [0] (by kernel_rfl)
      · rintro b_4 _
        refine TL.done ?_
        refine TC.cond (b := b_4) rfl (fun c7 => ?_) (fun c8 => ?_)
        · refine TC.seq ?_
          refine TC.region ?_
          refine TL.assign rfl rfl (v := .bool false) rfl ?_
          refine TL.done ?_
          exact TC.retF (Fin.body (fin1 (.inr rfl) rfl (.tmp rfl) [] rfl ⟨rfl, rfl⟩))
        · refine TC.skip ?_
          refine TC.seq ?_
          refine TC.region ?_
          refine TL.fa Try.underlying24 rfl Try.sizeOf2 rfl 1 rfl rfl rfl rfl ?_
          refine TL.load1 1 (Src.box 0 rfl) Try.isAgg2 rfl rfl rfl rfl rfl ?_
          refine TL.fa Try.underlying24 rfl Try.sizeOf2 rfl 2 rfl rfl rfl rfl ?_
          refine TL.load1 2 (Src.box 0 rfl) Try.isAgg2 rfl rfl rfl rfl rfl ?_
          refine TL.fa Try.underlying24 rfl Try.sizeOf2 rfl 3 rfl rfl rfl rfl ?_
          refine TL.load1 3 (Src.box 0 rfl) Try.isAgg2 rfl rfl rfl rfl rfl ?_
          refine TL.bin .i64 t3 t4 rfl rfl rfl rfl (v := .int .i64 (w64 (t3 + t4))) rfl ?_
          refine TL.call (R := G.spec_l03Power.R) Try.call56 rfl rfl rfl (fun w hS => G.spec_l03Power.calls w t2 (w64 (t3 + t4))) ?_
          rintro r_5 _ _ ⟨rfl, rfl⟩
          refine TL.assign rfl rfl (v := .int .i64 r_5) rfl ?_
          refine TL.done ?_
          refine TC.seq ?_
          refine TC.seq ?_
          refine TC.region ?_
          refine TL.move rfl rfl (v := .int .i64 r_5) rfl ?_
          refine TL.bin .i64 r_5 1296 rfl rfl rfl rfl (v := .bool (decide (r_5 > 1296))) rfl ?_
          refine TL.move rfl rfl (v := .bool (decide (r_5 > 1296))) rfl ?_
          refine TL.cutU 6 [(43, .bool ((decide (r_5 > 1296)) || ((t5.length : Int) != r_5))), (0, sval [.one (.int .i64 t1), .one (.int .i64 t2), .one (.int .i64 t3), .one (.int .i64 t4), .one (SV.v s1)]), (1, bp b_1 0), (2, .bool false), (5, bp b_1 0), (6, .int .i64 t1), (7, .bool r_1), (8, .bool (!r_1)), (9, .bool (!r_1)), (14, .bool b_2), (15, .bool b_2), (20, .bool b_3), (21, .bool b_3), (26, .bool b_4), (27, bp b_1 1), (28, .int .i64 t2), (29, bp b_1 2), (30, .int .i64 t3), (31, bp b_1 3), (32, .int .i64 t4), (33, .int .i64 (w64 (t3 + t4))), (34, .int .i64 r_5), (3, .int .i64 r_5), (35, .int .i64 r_5), (36, .bool (decide (r_5 > 1296))), (37, .bool (decide (r_5 > 1296)))] [box b_1 24 [.one (.int .i64 t1), .one (.int .i64 t2), .one (.int .i64 t3), .one (.int .i64 t4), .one (SV.v s1)]] ?_ ?_
          · refine TL.cases (t := 37) (b := (decide (r_5 > 1296))) rfl (fun c9 => ?_) (fun c10 => ?_)
            · refine TL.skip rfl rfl (by decide) ?_
              refine TL.skip rfl rfl (by decide) ?_
              refine TL.skip rfl rfl (by decide) ?_
              refine TL.skip rfl rfl (by decide) ?_
              refine TL.skip rfl rfl (by decide) ?_
              refine TL.pick rfl rfl (b := true) rfl (r := .bool true) rfl ?_
              refine TL.done ?_
              exact TC.nrm () () ⟨(by rw [c9]; rfl), rfl, rfl, rfl, rfl, rfl, rfl, rfl, rfl, rfl, rfl, rfl, rfl, rfl, rfl, rfl, rfl, rfl, rfl, rfl, rfl, rfl, rfl, rfl, rfl, (by rw [c9]; rfl), trivial⟩ [0] (by kernel_rfl)
            · refine TL.fa Try.underlying24 rfl Try.sizeOf22 rfl 4 rfl rfl rfl rfl ?_
              refine TL.load1 4 (Src.box 0 rfl) Try.isAgg22 rfl rfl rfl rfl rfl ?_
              refine TL.len (Rd.old h1) Try.underlying22 rfl rfl rfl ?_
              refine TL.move rfl rfl (v := .int .i64 r_5) rfl ?_
              refine TL.bin .i64 (t5.length : Int) r_5 rfl rfl rfl rfl (v := .bool ((t5.length : Int) != r_5)) rfl ?_
              refine TL.pick rfl rfl (b := false) rfl (r := .bool ((t5.length : Int) != r_5)) rfl ?_
              refine TL.done ?_
              exact TC.nrm () () ⟨(by rw [c10]; rfl), rfl, rfl, rfl, rfl, rfl, rfl, rfl, rfl, rfl, rfl, rfl, rfl, rfl, rfl, rfl, rfl, rfl, rfl, rfl, rfl, rfl, rfl, rfl, rfl, (by rw [c10]; rfl), trivial⟩ [0] (by kernel_rfl)
          · refine TL.done ?_
            refine TC.cond (b := ((decide (r_5 > 1296)) || ((t5.length : Int) != r_5))) rfl (fun c11 => ?_) (fun c12 => ?_)
            · refine TC.seq ?_
              refine TC.region ?_
              refine TL.assign rfl rfl (v := .bool false) rfl ?_
              refine TL.done ?_
              exact TC.retF (Fin.body (fin1 (.inr rfl) rfl (.tmp rfl) [] rfl ⟨rfl, rfl⟩))
            · refine TC.skip ?_
              refine TC.seq ?_
              refine TC.seq ?_
              refine TC.region ?_
              refine TL.assign rfl rfl (v := .int .i64 0) rfl ?_
              refine TL.done ?_
              refine TC.loopK (σ := Int) (γ := Unit) (Γ' := (fun i1 _ => [(1, bp b_1 0), (4, .int .i64 i1)])) (L' := (fun i1 _ => [box b_1 24 [.one (.int .i64 t1), .one (.int .i64 t2), .one (.int .i64 t3), .one (.int .i64 t4), .one (SV.v s1)]])) (Γb := (fun i1 _ => [(1, bp b_1 0), (4, .int .i64 i1)])) (Lb := (fun i1 _ => [box b_1 24 [.one (.int .i64 t1), .one (.int .i64 t2), .one (.int .i64 t3), .one (.int .i64 t4), .one (SV.v s1)]])) (0) (()) ⟨rfl, rfl, trivial⟩ [0] rfl ?_ ?_
              · rintro i1 _
                refine TC.seq ?_
                refine TC.seq ?_
                refine TC.region ?_
                refine TL.move rfl rfl (v := .int .i64 i1) rfl ?_
                refine TL.fa Try.underlying24 rfl Try.sizeOf22 rfl 4 rfl rfl rfl rfl ?_
                refine TL.load1 4 (Src.box 0 rfl) Try.isAgg22 rfl rfl rfl rfl rfl ?_
                refine TL.len (Rd.old h1) Try.underlying22 rfl rfl rfl ?_
                refine TL.bin .i64 i1 (t5.length : Int) rfl rfl rfl rfl (v := .bool (decide (i1 < (t5.length : Int)))) rfl ?_
                refine TL.done ?_
                refine TC.cond (b := (decide (i1 < (t5.length : Int)))) rfl (fun c13 => ?_) (fun c14 => ?_)
                · refine TC.skip ?_
                  refine TC.seq ?_
                  refine TC.block (NoEx.loop rfl NoEx.body) ?_
                  refine TC.seq ?_
                  refine TC.wk (Γ' := [(1, bp b_1 0), (4, .int .i64 i1), (44, .int .i64 i1), (45, bp b_1 4), (46, SV.v s1), (47, .int .i64 (t5.length : Int)), (48, .bool (decide (i1 < (t5.length : Int))))]) ⟨rfl, rfl, rfl, rfl, rfl, rfl, rfl, trivial⟩ ?_
                  refine TC.chk fun h2 => ?_
                  refine TC.bindE fun r_6 hr1 => ?_
                  refine TC.draw [bp b_1 4, SV.v s1, .int .i64 i1, ep s1 i1.toNat, .int .i64 (gt t5 i1), bp b_1 0, .int .i64 t1, .int .i64 (w64 (t1 - 1)), .bool r_6, .bool (!r_6)] 10 [box b_1 24 [.one (.int .i64 t1), .one (.int .i64 t2), .one (.int .i64 t3), .one (.int .i64 t4), .one (SV.v s1)]] (by kernel_rfl) rfl rfl rfl rfl ?_ ?_
                  · refine ⟨?_, ?_, ?_, ?_, ?_, ?_, ?_, ?_, ?_, ?_, trivial⟩
                    · refine TL.fa Try.underlying24 rfl Try.sizeOf22 rfl 4 rfl rfl rfl rfl ?_
                      refine TL.done ?_
                      exact TC.nrm () () ⟨rfl, trivial⟩ [0] (by kernel_rfl)
                    · refine TL.load1 4 (Src.box 0 rfl) Try.isAgg22 rfl rfl rfl rfl rfl ?_
                      refine TL.done ?_
                      exact TC.nrm () () ⟨rfl, trivial⟩ [0] (by kernel_rfl)
                    · refine TL.move rfl rfl (v := .int .i64 i1) rfl ?_
                      refine TL.done ?_
                      exact TC.nrm () () ⟨rfl, trivial⟩ [0] (by kernel_rfl)
                    · refine TL.ixs i1 i1.toNat (Rd.old h1) h2 Try.underlying22 Try.sizeOf2 rfl rfl rfl rfl (by omega) ?_
                      refine TL.done ?_
                      exact TC.nrm () () ⟨rfl, trivial⟩ [0] (by kernel_rfl)
                    · refine TL.loadE (Rd.old h1) Try.isAgg2 i1.toNat 0 (gt_spec h2) (v := .int .i64 (gt t5 i1)) rfl (by simp only [show Ei.sz = 1 from rfl] <;> omega) rfl rfl rfl ?_
                      refine TL.done ?_
                      exact TC.nrm () () ⟨rfl, trivial⟩ [0] (by kernel_rfl)
                    · refine TL.fa Try.underlying24 rfl Try.sizeOf2 rfl 0 rfl rfl rfl rfl ?_
                      refine TL.done ?_
                      exact TC.nrm () () ⟨rfl, trivial⟩ [0] (by kernel_rfl)
                    · refine TL.load1 0 (Src.box 0 rfl) Try.isAgg2 rfl rfl rfl rfl rfl ?_
                      refine TL.done ?_
                      exact TC.nrm () () ⟨rfl, trivial⟩ [0] (by kernel_rfl)
                    · refine TL.bin .i64 t1 1 rfl rfl rfl rfl (v := .int .i64 (w64 (t1 - 1))) rfl ?_
                      refine TL.done ?_
                      exact TC.nrm () () ⟨rfl, trivial⟩ [0] (by kernel_rfl)
                    · refine TL.callH (R := G.spec_l01In.R) hr1 Try.call49 rfl rfl rfl (fun w hS => G.spec_l01In.calls w (gt t5 i1) 0 (w64 (t1 - 1))) ?_
                      rintro _ _ ⟨rfl, rfl⟩
                      refine TL.done ?_
                      exact TC.nrm () () ⟨rfl, trivial⟩ [0] (by kernel_rfl)
                    · refine TL.not r_6 rfl rfl rfl ?_
                      refine TL.done ?_
                      exact TC.nrm () () ⟨rfl, trivial⟩ [0] (by kernel_rfl)
                  · refine TC.cond (b := (!r_6)) rfl (fun c15 => ?_) (fun c16 => ?_)
                    · refine TC.seq ?_
                      refine TC.region ?_
                      refine TL.assign rfl rfl (v := .bool false) rfl ?_
                      refine TL.done ?_
                      exact TC.retF (Fin.loop Far.ret (Fin.body (fin1 (.inr rfl) rfl (.tmp rfl) [] rfl ⟨rfl, rfl⟩)))
                    · refine TC.skip ?_
                      refine TC.region ?_
                      refine TL.move rfl rfl (v := .int .i64 i1) rfl ?_
                      refine TL.bin .i64 i1 1 rfl rfl rfl rfl (v := .int .i64 (w64 (i1 + 1))) rfl ?_
                      refine TL.assign rfl rfl (v := .int .i64 (w64 (i1 + 1))) rfl ?_
                      refine TL.done ?_
                      exact TC.next ((w64 (i1 + 1))) (()) ⟨rfl, rfl, trivial⟩ [0] rfl
                · exact TC.brk (i1) (()) ⟨rfl, rfl, trivial⟩ [0] rfl
              · rintro i1 _
                refine TC.seq ?_
                refine TC.region ?_
                refine TL.assign rfl rfl (v := .bool true) rfl ?_
                refine TL.done ?_
                exact TC.retF (Fin.body (fin1 (.inr rfl) rfl (.tmp rfl) [] rfl ⟨rfl, rfl⟩))

end Go.Proofs.Ytjjfoofjipafiaa.G

/- spec.l03Digits, as a pure function. -/
set_option linter.unusedVariables false
namespace Go.Proofs.Ytjjfoofjipafiaa.G
open Go Go.Sx Go.Proofs

def spec_l03Digits.b0 (n_1 : Int) : Int × (List Int) × Int → Option (LB (Int × (List Int) × Int)) := fun p => match p with | (at_2, out1, i1) => (bif (decide (i1 ≥ 0)) then nz n_1 (chk i1 out1.length (some (.next ((w64 (Int.tdiv at_2 n_1)), (out1.set i1.toNat (Int.tmod at_2 n_1)), (w64 (i1 - 1)))))) else some (.brk (at_2, out1, i1)))

def spec_l03Digits.f (at_1 : Int) (n_1 : Int) (count1 : Int) : Option (List Int) := grd (decide (0 ≤ count1)) (small count1.toNat ((loop1 (spec_l03Digits.b0 n_1) (at_1, (List.replicate count1.toNat (0 : Int)), (w64 (count1 - 1)))).bind (fun p => match p with | (at_2, out1, i1) => some out1)))

def spec_l03Digits.R (r : List Int) (v : Value) (L : List Asn) : Prop := ∃ (s0 : SV), v = SV.v s0 ∧ L = [row Ei 2 s0 r]

set_option maxRecDepth 100000 in
set_option maxHeartbeats 4000000 in
theorem spec_l03Digits.calls (w : World) (at_1 : Int) (n_1 : Int) (count1 : Int) :
    ∀ r, spec_l03Digits.f at_1 n_1 count1 = some r → Calls Try.prog 71 #[.int .i64 at_1, .int .i64 n_1, .int .i64 count1] w (Ret w (spec_l03Digits.R r)) := by

  refine calls_T (n := 27) (Γ := [(0, .int .i64 at_1), (1, .int .i64 n_1), (2, .int .i64 count1)]) (R := spec_l03Digits.R) Try.func71 rfl rfl (Nat.le_of_ble_eq_true rfl) ⟨rfl, rfl, rfl, trivial⟩ ?_
  unfold spec_l03Digits.f
  refine TC.seq ?_
  refine TC.region ?_
  refine TL.assign rfl rfl (v := SV.v ⟨none, 0, 0⟩) rfl ?_
  refine TL.done ?_
  refine TC.seq ?_
  refine TC.region ?_
  refine TL.move rfl rfl (v := .int .i64 count1) rfl ?_
  refine TL.grd fun h2 => ?_
  refine TL.small fun h1 => ?_
  refine TL.mkslice Ei (0 : Int) count1 Try.underlying22 (info_of Try.type2) (zv := (Try.t2.zero.getD (.bool false))) rfl rfl rfl (by simp [Ei, flat, Seg.cells]) (by decide) (by simpa using h2) (by omega) rfl rfl rfl rfl fun s1 => ?_
  refine TL.assign rfl rfl (v := SV.v s1) rfl ?_
  refine TL.done ?_
  refine TC.seq ?_
  refine TC.seq ?_
  refine TC.region ?_
  refine TL.move rfl rfl (v := .int .i64 count1) rfl ?_
  refine TL.bin .i64 count1 1 rfl rfl rfl rfl (v := .int .i64 (w64 (count1 - 1))) rfl ?_
  refine TL.assign rfl rfl (v := .int .i64 (w64 (count1 - 1))) rfl ?_
  refine TL.done ?_
  refine TC.loop1 (σ := Int × (List Int) × Int) (γ := Unit) (Γ' := (fun p q => match p, q with | (at_2, out1, i1), _ => [(0, .int .i64 at_2), (1, .int .i64 n_1), (7, SV.v s1), (8, .int .i64 i1)])) (L' := (fun p q => match p, q with | (at_2, out1, i1), _ => [row Ei 2 s1 out1])) (Γb := (fun p q => match p, q with | (at_2, out1, i1), _ => [(0, .int .i64 at_2), (1, .int .i64 n_1), (7, SV.v s1), (8, .int .i64 i1)])) (Lb := (fun p q => match p, q with | (at_2, out1, i1), _ => [row Ei 2 s1 out1])) ((at_1, (List.replicate count1.toNat (0 : Int)), (w64 (count1 - 1)))) (()) ⟨rfl, rfl, rfl, rfl, trivial⟩ [0] rfl ?_ ?_
  · rintro ⟨at_2, out1, i1⟩ _
    refine TC.seq ?_
    refine TC.seq ?_
    refine TC.region ?_
    refine TL.move rfl rfl (v := .int .i64 i1) rfl ?_
    refine TL.bin .i64 i1 0 rfl rfl rfl rfl (v := .bool (decide (i1 ≥ 0))) rfl ?_
    refine TL.done ?_
    refine TC.cond (b := (decide (i1 ≥ 0))) rfl (fun c1 => ?_) (fun c2 => ?_)
    · refine TC.skip ?_
      refine TC.seq ?_
      refine TC.block (NoEx.loop1 rfl) ?_
      refine TC.seq ?_
      refine TC.region ?_
      refine TL.move rfl rfl (v := SV.v s1) rfl ?_
      refine TL.move rfl rfl (v := .int .i64 i1) rfl ?_
      refine TL.move rfl rfl (v := .int .i64 at_2) rfl ?_
      refine TL.move rfl rfl (v := .int .i64 n_1) rfl ?_
      refine TL.nz fun z1 => ?_
      refine TL.rem .i64 at_2 n_1 z1 rfl rfl rfl rfl ?_
      refine TL.chk fun h3 => ?_
      refine TL.ixs i1 i1.toNat (Rd.row 0 rfl) h3 Try.underlying22 Try.sizeOf2 rfl rfl rfl rfl (by omega) ?_
      refine TL.stE 0 (i1.toNat) (Int.tmod at_2 n_1) (v := .int .i64 (Int.tmod at_2 n_1)) rfl Try.sizeOf2 rfl rfl rfl (by have h_ := h3; omega) (by simp only [show Ei.sz = 1 from rfl] <;> omega) rfl rfl rfl ?_
      refine TL.done ?_
      refine TC.region ?_
      refine TL.move rfl rfl (v := .int .i64 at_2) rfl ?_
      refine TL.move rfl rfl (v := .int .i64 n_1) rfl ?_
      refine TL.quo .i64 at_2 n_1 z1 rfl rfl rfl rfl ?_
      refine TL.assign rfl rfl (v := .int .i64 (w64 (Int.tdiv at_2 n_1))) rfl ?_
      refine TL.done ?_
      refine TC.region ?_
      refine TL.move rfl rfl (v := .int .i64 i1) rfl ?_
      refine TL.bin .i64 i1 1 rfl rfl rfl rfl (v := .int .i64 (w64 (i1 - 1))) rfl ?_
      refine TL.assign rfl rfl (v := .int .i64 (w64 (i1 - 1))) rfl ?_
      refine TL.done ?_
      exact TC.next1 (((w64 (Int.tdiv at_2 n_1)), (out1.set i1.toNat (Int.tmod at_2 n_1)), (w64 (i1 - 1)))) (()) ⟨rfl, rfl, rfl, rfl, trivial⟩ [0] rfl
    · exact TC.brk1 ((at_2, out1, i1)) (()) ⟨rfl, rfl, rfl, rfl, trivial⟩ [0] rfl
  · rintro ⟨at_2, out1, i1⟩ _
    refine TC.seq ?_
    refine TC.region ?_
    refine TL.move rfl rfl (v := SV.v s1) rfl ?_
    refine TL.assign rfl rfl (v := SV.v s1) rfl ?_
    refine TL.done ?_
    exact TC.retF (Fin.body (fin1 (.inr rfl) rfl (.tmp rfl) [0] rfl ⟨s1, rfl, rfl⟩))

end Go.Proofs.Ytjjfoofjipafiaa.G

/- spec.l03Legs, as a pure function. -/
set_option linter.unusedVariables false
namespace Go.Proofs.Ytjjfoofjipafiaa.G
open Go Go.Sx Go.Proofs

def spec_l03Legs.b0 (list_1 : List Int) (n_1 : Int) : (Nat → Bool) × Int → Option (LR ((Nat → Bool) × Int) Bool) := fun p => match p with | (met1, i1) => (bif (decide (i1 < (list_1.length : Int))) then chk i1 list_1.length ((G.spec_l01In.f (gt list_1 i1) 0 (w64 (n_1 - 1))).bind (fun r_1 => (bif (!r_1) then some true else chk (gt list_1 i1) 8 (some (met1 ((gt list_1 i1).toNat)))).bind (fun b_2 => (bif b_2 then some (.ret (false)) else chk (gt list_1 i1) 8 (some (.next ((upd met1 ((gt list_1 i1).toNat) true), (w64 (i1 + 1))))))))) else some (.brk (met1, i1)))

def spec_l03Legs.f (list_1 : List Int) (n_1 : Int) : Option Bool := (loop (spec_l03Legs.b0 list_1 n_1) ((fun _ => false), 0)).bind (ln (fun p => match p with | (met1, i1) => some ((list_1.length : Int) == n_1)))

def spec_l03Legs.R (r : Bool) (v : Value) (L : List Asn) : Prop := v = .bool r ∧ L = []

set_option maxRecDepth 100000 in
set_option maxHeartbeats 4000000 in
theorem spec_l03Legs.calls (w : World) (s1 : SV) (list_1 : List Int) (n_1 : Int) (h1 : Reads Ei (hp w) s1 list_1) :
    ∀ r, spec_l03Legs.f list_1 n_1 = some r → Calls Try.prog 77 #[SV.v s1, .int .i64 n_1] w (Ret w (spec_l03Legs.R r)) := by

  refine calls_T (n := 39) (Γ := [(0, SV.v s1), (1, .int .i64 n_1)]) (R := spec_l03Legs.R) Try.func77 rfl rfl (Nat.le_of_ble_eq_true rfl) ⟨rfl, rfl, trivial⟩ ?_
  unfold spec_l03Legs.f
  refine TC.seq ?_
  refine TC.region ?_
  refine TL.assign rfl rfl (v := .bool false) rfl ?_
  refine TL.done ?_
  refine TC.seq ?_
  refine TC.region ?_
  refine TL.buildA (segs0 := [.arr 8 (enf blv (fun _ => false))]) (segs := [.arr 8 (enf blv (fun _ => false))]) Try.underlying99 Try.sizeOf4 Try.zeroValue99 rfl [] rfl rfl rfl rfl ?_
  refine TL.alloc [.arr 8 (enf blv (fun _ => false))] rfl rfl Try.zeroValue99 rfl fun b_1 => ?_
  refine TL.stM (news := [.arr 8 (enf blv (fun _ => false))]) 0 0 1 rfl Try.sizeOf99 (ones_arr (fun _ => rfl) ones_nil) rfl rfl rfl rfl rfl rfl ?_
  refine TL.done ?_
  refine TC.seq ?_
  refine TC.seq ?_
  refine TC.region ?_
  refine TL.assign rfl rfl (v := .int .i64 0) rfl ?_
  refine TL.done ?_
  refine TC.loopK (σ := (Nat → Bool) × Int) (γ := Unit) (Γ' := (fun p q => match p, q with | (met1, i1), _ => [(0, SV.v s1), (1, .int .i64 n_1), (5, bp b_1 0), (6, .int .i64 i1)])) (L' := (fun p q => match p, q with | (met1, i1), _ => [box b_1 99 [.arr 8 (enf blv met1)]])) (Γb := (fun p q => match p, q with | (met1, i1), _ => [(0, SV.v s1), (1, .int .i64 n_1), (5, bp b_1 0), (6, .int .i64 i1)])) (Lb := (fun p q => match p, q with | (met1, i1), _ => [box b_1 99 [.arr 8 (enf blv met1)]])) (((fun _ => false), 0)) (()) ⟨rfl, rfl, rfl, rfl, trivial⟩ [0] rfl ?_ ?_
  · rintro ⟨met1, i1⟩ _
    refine TC.seq ?_
    refine TC.seq ?_
    refine TC.region ?_
    refine TL.move rfl rfl (v := .int .i64 i1) rfl ?_
    refine TL.move rfl rfl (v := SV.v s1) rfl ?_
    refine TL.len (Rd.old h1) Try.underlying22 rfl rfl rfl ?_
    refine TL.bin .i64 i1 (list_1.length : Int) rfl rfl rfl rfl (v := .bool (decide (i1 < (list_1.length : Int)))) rfl ?_
    refine TL.done ?_
    refine TC.cond (b := (decide (i1 < (list_1.length : Int)))) rfl (fun c1 => ?_) (fun c2 => ?_)
    · refine TC.skip ?_
      refine TC.seq ?_
      refine TC.block (NoEx.loop rfl NoEx.body) ?_
      refine TC.seq ?_
      refine TC.seq ?_
      refine TC.region ?_
      refine TL.move rfl rfl (v := SV.v s1) rfl ?_
      refine TL.move rfl rfl (v := .int .i64 i1) rfl ?_
      refine TL.chk fun h2 => ?_
      refine TL.ixs i1 i1.toNat (Rd.old h1) h2 Try.underlying22 Try.sizeOf2 rfl rfl rfl rfl (by omega) ?_
      refine TL.loadE (Rd.old h1) Try.isAgg2 i1.toNat 0 (gt_spec h2) (v := .int .i64 (gt list_1 i1)) rfl (by simp only [show Ei.sz = 1 from rfl] <;> omega) rfl rfl rfl ?_
      refine TL.move rfl rfl (v := .int .i64 n_1) rfl ?_
      refine TL.bin .i64 n_1 1 rfl rfl rfl rfl (v := .int .i64 (w64 (n_1 - 1))) rfl ?_
      refine TL.call (R := G.spec_l01In.R) Try.call49 rfl rfl rfl (fun w hS => G.spec_l01In.calls w (gt list_1 i1) 0 (w64 (n_1 - 1))) ?_
      rintro r_1 _ _ ⟨rfl, rfl⟩
      refine TL.not r_1 rfl rfl rfl ?_
      refine TL.move rfl rfl (v := .bool (!r_1)) rfl ?_
      refine TL.cutJ (σ := Bool) (γ := Unit) (Γ' := fun b_2 _ => [(29, .bool b_2), (0, SV.v s1), (1, .int .i64 n_1), (5, bp b_1 0), (6, .int .i64 i1), (8, .int .i64 i1), (9, SV.v s1), (10, .int .i64 (list_1.length : Int)), (11, .bool (decide (i1 < (list_1.length : Int)))), (14, SV.v s1), (15, .int .i64 i1), (16, ep s1 i1.toNat), (17, .int .i64 (gt list_1 i1)), (18, .int .i64 n_1), (19, .int .i64 (w64 (n_1 - 1))), (20, .bool r_1), (21, .bool (!r_1)), (22, .bool (!r_1))]) (L' := fun _ _ => [box b_1 99 [.arr 8 (enf blv met1)]]) 7 ?_ ?_
      · refine TL.ifb (t := 22) (b := (!r_1)) rfl (fun c3 => ?_) (fun c4 => ?_)
        · refine TL.skip rfl rfl (by decide) ?_
          refine TL.skip rfl rfl (by decide) ?_
          refine TL.skip rfl rfl (by decide) ?_
          refine TL.skip rfl rfl (by decide) ?_
          refine TL.skip rfl rfl (by decide) ?_
          refine TL.skip rfl rfl (by decide) ?_
          refine TL.pick rfl rfl (b := true) rfl (r := .bool true) rfl ?_
          refine TL.done ?_
          exact TC.nrm (true) () ⟨rfl, rfl, rfl, rfl, rfl, rfl, rfl, rfl, rfl, rfl, rfl, rfl, rfl, rfl, rfl, rfl, rfl, (by rw [c3]; rfl), trivial⟩ [0] (by kernel_rfl)
        · refine TL.move rfl rfl (v := SV.v s1) rfl ?_
          refine TL.move rfl rfl (v := .int .i64 i1) rfl ?_
          refine TL.ixs i1 i1.toNat (Rd.old h1) h2 Try.underlying22 Try.sizeOf2 rfl rfl rfl rfl (by omega) ?_
          refine TL.loadE (Rd.old h1) Try.isAgg2 i1.toNat 0 (gt_spec h2) (v := .int .i64 (gt list_1 i1)) rfl (by simp only [show Ei.sz = 1 from rfl] <;> omega) rfl rfl rfl ?_
          refine TL.chk fun h3 => ?_
          refine TL.ixa (gt list_1 i1) ((gt list_1 i1).toNat) h3 Try.underlying99 Try.sizeOf4 rfl rfl rfl rfl (by omega) ?_
          refine TL.loadA ((gt list_1 i1).toNat) 0 (Src.box 0 rfl) Try.isAgg4 rfl (by omega) (v := .bool (met1 ((gt list_1 i1).toNat))) rfl (st := 0) rfl (by omega) rfl rfl rfl ?_
          refine TL.pick rfl rfl (b := false) rfl (r := .bool (met1 ((gt list_1 i1).toNat))) rfl ?_
          refine TL.done ?_
          exact TC.nrm ((met1 ((gt list_1 i1).toNat))) () ⟨rfl, rfl, rfl, rfl, rfl, rfl, rfl, rfl, rfl, rfl, rfl, rfl, rfl, rfl, rfl, rfl, rfl, (by rw [c4]; rfl), trivial⟩ [0] (by kernel_rfl)
      · rintro b_2 _
        refine TL.done ?_
        refine TC.cond (b := b_2) rfl (fun c5 => ?_) (fun c6 => ?_)
        · refine TC.seq ?_
          refine TC.region ?_
          refine TL.assign rfl rfl (v := .bool false) rfl ?_
          refine TL.done ?_
          exact TC.retF (Fin.loop Far.ret (Fin.body (fin1 (.inr rfl) rfl (.tmp rfl) [] rfl ⟨rfl, rfl⟩)))
        · refine TC.skip ?_
          refine TC.region ?_
          refine TL.move rfl rfl (v := SV.v s1) rfl ?_
          refine TL.move rfl rfl (v := .int .i64 i1) rfl ?_
          refine TL.ixs i1 i1.toNat (Rd.old h1) h2 Try.underlying22 Try.sizeOf2 rfl rfl rfl rfl (by omega) ?_
          refine TL.loadE (Rd.old h1) Try.isAgg2 i1.toNat 0 (gt_spec h2) (v := .int .i64 (gt list_1 i1)) rfl (by simp only [show Ei.sz = 1 from rfl] <;> omega) rfl rfl rfl ?_
          refine TL.chk fun h4 => ?_
          refine TL.ixa (gt list_1 i1) ((gt list_1 i1).toNat) h4 Try.underlying99 Try.sizeOf4 rfl rfl rfl rfl (by omega) ?_
          refine TL.stA (e := blv) (z := true) 0 0 ((gt list_1 i1).toNat) rfl Try.sizeOf4 rfl (by omega) (s := 0) rfl (by omega) rfl rfl rfl rfl rfl ?_
          refine TL.done ?_
          refine TC.region ?_
          refine TL.move rfl rfl (v := .int .i64 i1) rfl ?_
          refine TL.bin .i64 i1 1 rfl rfl rfl rfl (v := .int .i64 (w64 (i1 + 1))) rfl ?_
          refine TL.assign rfl rfl (v := .int .i64 (w64 (i1 + 1))) rfl ?_
          refine TL.done ?_
          exact TC.next (((upd met1 ((gt list_1 i1).toNat) true), (w64 (i1 + 1)))) (()) ⟨rfl, rfl, rfl, rfl, trivial⟩ [0] rfl
    · exact TC.brk ((met1, i1)) (()) ⟨rfl, rfl, rfl, rfl, trivial⟩ [0] rfl
  · rintro ⟨met1, i1⟩ _
    refine TC.seq ?_
    refine TC.region ?_
    refine TL.move rfl rfl (v := SV.v s1) rfl ?_
    refine TL.len (Rd.old h1) Try.underlying22 rfl rfl rfl ?_
    refine TL.move rfl rfl (v := .int .i64 n_1) rfl ?_
    refine TL.bin .i64 (list_1.length : Int) n_1 rfl rfl rfl rfl (v := .bool ((list_1.length : Int) == n_1)) rfl ?_
    refine TL.assign rfl rfl (v := .bool ((list_1.length : Int) == n_1)) rfl ?_
    refine TL.done ?_
    exact TC.retF (Fin.body (fin1 (.inr rfl) rfl (.tmp rfl) [] rfl ⟨rfl, rfl⟩))

end Go.Proofs.Ytjjfoofjipafiaa.G

/- spec.l03Place, as a pure function. -/
set_option linter.unusedVariables false
namespace Go.Proofs.Ytjjfoofjipafiaa.G
open Go Go.Sx Go.Proofs

def spec_l03Place.b0 (digits1 : List Int) (n_1 : Int) : Int × Int → Option (LB (Int × Int)) := fun p => match p with | (out1, i1) => (bif (decide (i1 < (digits1.length : Int))) then chk i1 digits1.length (some (.next ((w64 ((w64 (out1 * n_1)) + (gt digits1 i1))), (w64 (i1 + 1))))) else some (.brk (out1, i1)))

def spec_l03Place.f (digits1 : List Int) (n_1 : Int) : Option Int := (loop1 (spec_l03Place.b0 digits1 n_1) (0, 0)).bind (fun p => match p with | (out1, i1) => some out1)

def spec_l03Place.R (r : Int) (v : Value) (L : List Asn) : Prop := v = .int .i64 r ∧ L = []

set_option maxRecDepth 100000 in
set_option maxHeartbeats 4000000 in
theorem spec_l03Place.calls (w : World) (s1 : SV) (digits1 : List Int) (n_1 : Int) (h1 : Reads Ei (hp w) s1 digits1) :
    ∀ r, spec_l03Place.f digits1 n_1 = some r → Calls Try.prog 78 #[SV.v s1, .int .i64 n_1] w (Ret w (spec_l03Place.R r)) := by

  refine calls_T (n := 22) (Γ := [(0, SV.v s1), (1, .int .i64 n_1)]) (R := spec_l03Place.R) Try.func78 rfl rfl (Nat.le_of_ble_eq_true rfl) ⟨rfl, rfl, trivial⟩ ?_
  unfold spec_l03Place.f
  refine TC.seq ?_
  refine TC.region ?_
  refine TL.assign rfl rfl (v := .int .i64 0) rfl ?_
  refine TL.done ?_
  refine TC.seq ?_
  refine TC.region ?_
  refine TL.assign rfl rfl (v := .int .i64 0) rfl ?_
  refine TL.done ?_
  refine TC.seq ?_
  refine TC.seq ?_
  refine TC.region ?_
  refine TL.assign rfl rfl (v := .int .i64 0) rfl ?_
  refine TL.done ?_
  refine TC.loop1 (σ := Int × Int) (γ := Unit) (Γ' := (fun p q => match p, q with | (out1, i1), _ => [(0, SV.v s1), (1, .int .i64 n_1), (5, .int .i64 out1), (6, .int .i64 i1)])) (L' := (fun p q => match p, q with | (out1, i1), _ => [])) (Γb := (fun p q => match p, q with | (out1, i1), _ => [(0, SV.v s1), (1, .int .i64 n_1), (5, .int .i64 out1), (6, .int .i64 i1)])) (Lb := (fun p q => match p, q with | (out1, i1), _ => [])) ((0, 0)) (()) ⟨rfl, rfl, rfl, rfl, trivial⟩ [] rfl ?_ ?_
  · rintro ⟨out1, i1⟩ _
    refine TC.seq ?_
    refine TC.seq ?_
    refine TC.region ?_
    refine TL.move rfl rfl (v := .int .i64 i1) rfl ?_
    refine TL.move rfl rfl (v := SV.v s1) rfl ?_
    refine TL.len (Rd.old h1) Try.underlying22 rfl rfl rfl ?_
    refine TL.bin .i64 i1 (digits1.length : Int) rfl rfl rfl rfl (v := .bool (decide (i1 < (digits1.length : Int)))) rfl ?_
    refine TL.done ?_
    refine TC.cond (b := (decide (i1 < (digits1.length : Int)))) rfl (fun c1 => ?_) (fun c2 => ?_)
    · refine TC.skip ?_
      refine TC.seq ?_
      refine TC.block (NoEx.loop1 rfl) ?_
      refine TC.region ?_
      refine TL.move rfl rfl (v := .int .i64 out1) rfl ?_
      refine TL.move rfl rfl (v := .int .i64 n_1) rfl ?_
      refine TL.bin .i64 out1 n_1 rfl rfl rfl rfl (v := .int .i64 (w64 (out1 * n_1))) rfl ?_
      refine TL.move rfl rfl (v := SV.v s1) rfl ?_
      refine TL.move rfl rfl (v := .int .i64 i1) rfl ?_
      refine TL.chk fun h2 => ?_
      refine TL.ixs i1 i1.toNat (Rd.old h1) h2 Try.underlying22 Try.sizeOf2 rfl rfl rfl rfl (by omega) ?_
      refine TL.loadE (Rd.old h1) Try.isAgg2 i1.toNat 0 (gt_spec h2) (v := .int .i64 (gt digits1 i1)) rfl (by simp only [show Ei.sz = 1 from rfl] <;> omega) rfl rfl rfl ?_
      refine TL.bin .i64 (w64 (out1 * n_1)) (gt digits1 i1) rfl rfl rfl rfl (v := .int .i64 (w64 ((w64 (out1 * n_1)) + (gt digits1 i1)))) rfl ?_
      refine TL.assign rfl rfl (v := .int .i64 (w64 ((w64 (out1 * n_1)) + (gt digits1 i1)))) rfl ?_
      refine TL.done ?_
      refine TC.region ?_
      refine TL.move rfl rfl (v := .int .i64 i1) rfl ?_
      refine TL.bin .i64 i1 1 rfl rfl rfl rfl (v := .int .i64 (w64 (i1 + 1))) rfl ?_
      refine TL.assign rfl rfl (v := .int .i64 (w64 (i1 + 1))) rfl ?_
      refine TL.done ?_
      exact TC.next1 (((w64 ((w64 (out1 * n_1)) + (gt digits1 i1))), (w64 (i1 + 1)))) (()) ⟨rfl, rfl, rfl, rfl, trivial⟩ [] rfl
    · exact TC.brk1 ((out1, i1)) (()) ⟨rfl, rfl, rfl, rfl, trivial⟩ [] rfl
  · rintro ⟨out1, i1⟩ _
    refine TC.seq ?_
    refine TC.region ?_
    refine TL.move rfl rfl (v := .int .i64 out1) rfl ?_
    refine TL.assign rfl rfl (v := .int .i64 out1) rfl ?_
    refine TL.done ?_
    exact TC.retF (Fin.body (fin1 (.inr rfl) rfl (.tmp rfl) [] rfl ⟨rfl, rfl⟩))

end Go.Proofs.Ytjjfoofjipafiaa.G

/- spec.PermuteTensor, as a pure function. -/
set_option linter.unusedVariables false
namespace Go.Proofs.Ytjjfoofjipafiaa.G
open Go Go.Sx Go.Proofs

def spec_PermuteTensor.b0 (x6 : List Int) (r_9 : List Int) : (List Int) × Int → Option (LB ((List Int) × Int)) := fun p => match p with | (l2, x9) => (bif (decide (x9 < (x6.length : Int))) then chk x9 x6.length (chk x9 r_9.length (chk (gt x6 x9) l2.length (some (.next ((l2.set (gt x6 x9).toNat (gt r_9 x9)), (w64 (x9 + 1))))))) else some (.brk (l2, x9)))

def spec_PermuteTensor.b1 (x7 : List Int) (x3 : Int) (r_9 : List Int) : (List Int) × Int → Option (LB ((List Int) × Int)) := fun p => match p with | (l3, x10) => (bif (decide (x10 < (x7.length : Int))) then chk x10 x7.length (chk (w64 (x3 + x10)) r_9.length (chk (w64 (x3 + (gt x7 x10))) l3.length (some (.next ((l3.set (w64 (x3 + (gt x7 x10))).toNat (gt r_9 (w64 (x3 + x10)))), (w64 (x10 + 1))))))) else some (.brk (l3, x10)))

def spec_PermuteTensor.b2 (x2 : Int) (x3 : Int) (x4 : Int) (x6 : List Int) (x7 : List Int) (x5 : List Int) : (List Int) × Int → Option (LB ((List Int) × Int)) := fun p => match p with | (l1, x8) => (bif (decide (x8 < (l1.length : Int))) then (G.spec_l03Digits.f x8 x2 (w64 (x3 + x4))).bind (fun r_9 => small r_9.length ((loop1 (spec_PermuteTensor.b0 x6 r_9) ((List.replicate (r_9.length : Int).toNat (0 : Int)), 0)).bind (fun p => match p with | (l2, x9) => (loop1 (spec_PermuteTensor.b1 x7 x3 r_9) (l2, 0)).bind (fun p => match p with | (l3, x10) => (G.spec_l03Place.f l3 x2).bind (fun r_10 => chk r_10 x5.length (chk x8 l1.length (some (.next ((l1.set x8.toNat (gt x5 r_10)), (w64 (x8 + 1))))))))))) else some (.brk (l1, x8)))

def spec_PermuteTensor.f (x1 : Int) (x2 : Int) (x3 : Int) (x4 : Int) (x5 : List Int) (x6 : List Int) (x7 : List Int) : Option (Int × Int × Int × Int × (List Int) × Int) := (G.spec_l03Is.f x1 x2 x3 x4 x5).bind (fun r_1 => (bif (!r_1) then some (0, 0, 0, 0, ([] : List Int), 1) else (G.spec_l03Legs.f x6 x3).bind (fun r_2 => (bif (!r_2) then some true else (G.spec_l03Legs.f x7 x4).bind (fun r_3 => some (!r_3))).bind (fun b_3 => (bif b_3 then some (0, 0, 0, 0, ([] : List Int), 2) else (G.spec_l03Empty.f x1 x2 x3 x4).bind (fun p => match p with | (r_4, r_5, r_6, r_7, r_8) => (loop1 (spec_PermuteTensor.b2 x2 x3 x4 x6 x7 x5) (r_8, 0)).bind (fun p => match p with | (l1, x8) => some (r_4, r_5, r_6, r_7, l1, 0))))))))

def spec_PermuteTensor.R (r : Int × Int × Int × Int × (List Int) × Int) (v : Value) (L : List Asn) : Prop := ∃ (s0 : SV), v = .tuple #[sval [.one (.int .i64 r.1), .one (.int .i64 r.2.1), .one (.int .i64 r.2.2.1), .one (.int .i64 r.2.2.2.1), .one (SV.v s0)], .int .i64 r.2.2.2.2.2] ∧ L = [row Ei 2 s0 r.2.2.2.2.1]

set_option maxRecDepth 100000 in
set_option maxHeartbeats 4000000 in
theorem spec_PermuteTensor.calls (w : World) (x1 : Int) (x2 : Int) (x3 : Int) (x4 : Int) (s1 : SV) (x5 : List Int) (s2 : SV) (x6 : List Int) (s3 : SV) (x7 : List Int) (h1 : Reads Ei (hp w) s1 x5) (h2 : Reads Ei (hp w) s2 x6) (h3 : Reads Ei (hp w) s3 x7) :
    ∀ r, spec_PermuteTensor.f x1 x2 x3 x4 x5 x6 x7 = some r → Calls Try.prog 38 #[sval [.one (.int .i64 x1), .one (.int .i64 x2), .one (.int .i64 x3), .one (.int .i64 x4), .one (SV.v s1)], SV.v s2, SV.v s3] w (Ret w (spec_PermuteTensor.R r)) := by

  refine calls_T (n := 112) (Γ := [(0, sval [.one (.int .i64 x1), .one (.int .i64 x2), .one (.int .i64 x3), .one (.int .i64 x4), .one (SV.v s1)]), (1, SV.v s2), (2, SV.v s3)]) (R := spec_PermuteTensor.R) Try.func38 rfl rfl (Nat.le_of_ble_eq_true rfl) ⟨rfl, rfl, rfl, trivial⟩ ?_
  unfold spec_PermuteTensor.f
  refine TC.seq ?_
  refine TC.region ?_
  refine TL.box [.one (.int .i64 x1), .one (.int .i64 x2), .one (.int .i64 x3), .one (.int .i64 x4), .one (SV.v s1)] rfl rfl rfl rfl fun b_1 => ?_
  refine TL.alloc [.one (.int .i64 0), .one (.int .i64 0), .one (.int .i64 0), .one (.int .i64 0), .one (SV.v ⟨none, 0, 0⟩)] rfl rfl Try.zeroValue24 rfl fun b_2 => ?_
  refine TL.assign rfl rfl (v := .int .i64 0) rfl ?_
  refine TL.done ?_
  refine TC.seq ?_
  refine TC.block NoEx.body ?_
  refine TC.seq ?_
  refine TC.region ?_
  refine TL.loadM 0 5 (Src.box 1 rfl) Try.isAgg24 Try.sizeOf24 (mid := [.one (.int .i64 x1), .one (.int .i64 x2), .one (.int .i64 x3), .one (.int .i64 x4), .one (SV.v s1)]) rfl rfl rfl rfl rfl rfl ?_
  refine TL.call (R := G.spec_l03Is.R) Try.call55 rfl rfl rfl (fun w hS => G.spec_l03Is.calls w x1 x2 x3 x4 s1 x5 ((Rd.old h1) w hS)) ?_
  rintro r_1 _ _ ⟨rfl, rfl⟩
  refine TL.not r_1 rfl rfl rfl ?_
  refine TL.assign rfl rfl (v := .bool (!r_1)) rfl ?_
  refine TL.done ?_
  refine TC.cond (b := (!r_1)) rfl (fun c1 => ?_) (fun c2 => ?_)
  · refine TC.seq ?_
    refine TC.region ?_
    refine TL.buildS (segs0 := [.one (.int .i64 0), .one (.int .i64 0), .one (.int .i64 0), .one (.int .i64 0), .one (SV.v ⟨none, 0, 0⟩)]) (segs := [.one (.int .i64 0), .one (.int .i64 0), .one (.int .i64 0), .one (.int .i64 0), .one (SV.v ⟨none, 0, 0⟩)]) [1, 1, 1, 1, 1] Try.underlying24 ⟨Try.sizeOf2, Try.sizeOf2, Try.sizeOf2, Try.sizeOf2, Try.sizeOf22, trivial⟩ Try.zeroValue24 rfl [] rfl (fun pl hpl => by subst hpl; exact rfl) rfl rfl ?_
    refine TL.stM (news := [.one (.int .i64 0), .one (.int .i64 0), .one (.int .i64 0), .one (.int .i64 0), .one (SV.v ⟨none, 0, 0⟩)]) 0 0 5 rfl Try.sizeOf24 (ones_one rfl (ones_one rfl (ones_one rfl (ones_one rfl (ones_one rfl ones_nil))))) rfl rfl rfl rfl rfl rfl ?_
    refine TL.assign rfl rfl (v := .int .i64 1) rfl ?_
    refine TL.done ?_
    refine TC.nilrow Ei 2 ?_
    exact TC.retF (Fin.body (fin2 (.inr rfl) rfl (.cellN rfl (Src.box 1 rfl) Try.isAgg24 Try.sizeOf24 rfl) (.tmp rfl) [0] rfl ⟨⟨none, 0, 0⟩, rfl, rfl⟩))
  · refine TC.seq ?_
    refine TC.region ?_
    refine TL.move rfl rfl (v := SV.v s2) rfl ?_
    refine TL.fa Try.underlying24 rfl Try.sizeOf2 rfl 2 rfl rfl rfl rfl ?_
    refine TL.load1 2 (Src.box 1 rfl) Try.isAgg2 rfl rfl rfl rfl rfl ?_
    refine TL.call (R := G.spec_l03Legs.R) Try.call77 rfl rfl rfl (fun w hS => G.spec_l03Legs.calls w s2 x6 x3 ((Rd.old h2) w hS)) ?_
    rintro r_2 _ _ ⟨rfl, rfl⟩
    refine TL.not r_2 rfl rfl rfl ?_
    refine TL.move rfl rfl (v := .bool (!r_2)) rfl ?_
    refine TL.cutJ (σ := Bool) (γ := Unit) (Γ' := fun b_3 _ => [(31, .bool b_3), (0, sval [.one (.int .i64 x1), .one (.int .i64 x2), .one (.int .i64 x3), .one (.int .i64 x4), .one (SV.v s1)]), (1, SV.v s2), (2, SV.v s3), (3, bp b_1 0), (6, bp b_2 0), (7, .int .i64 0), (15, sval [.one (.int .i64 x1), .one (.int .i64 x2), .one (.int .i64 x3), .one (.int .i64 x4), .one (SV.v s1)]), (16, .bool r_1), (17, .bool (!r_1)), (14, .bool (!r_1)), (20, SV.v s2), (21, bp b_1 2), (22, .int .i64 x3), (23, .bool r_2), (24, .bool (!r_2)), (25, .bool (!r_2))]) (L' := fun _ _ => [box b_2 24 [.one (.int .i64 0), .one (.int .i64 0), .one (.int .i64 0), .one (.int .i64 0), .one (SV.v ⟨none, 0, 0⟩)], box b_1 24 [.one (.int .i64 x1), .one (.int .i64 x2), .one (.int .i64 x3), .one (.int .i64 x4), .one (SV.v s1)]]) 6 ?_ ?_
    · refine TL.ifb (t := 25) (b := (!r_2)) rfl (fun c3 => ?_) (fun c4 => ?_)
      · refine TL.skip rfl rfl (by decide) ?_
        refine TL.skip rfl rfl (by decide) ?_
        refine TL.skip rfl rfl (by decide) ?_
        refine TL.skip rfl rfl (by decide) ?_
        refine TL.skip rfl rfl (by decide) ?_
        refine TL.pick rfl rfl (b := true) rfl (r := .bool true) rfl ?_
        refine TL.done ?_
        exact TC.nrm (true) () ⟨rfl, rfl, rfl, rfl, rfl, rfl, rfl, rfl, rfl, rfl, rfl, rfl, rfl, rfl, rfl, rfl, (by rw [c3]; rfl), trivial⟩ [0, 0] (by kernel_rfl)
      · refine TL.move rfl rfl (v := SV.v s3) rfl ?_
        refine TL.fa Try.underlying24 rfl Try.sizeOf2 rfl 3 rfl rfl rfl rfl ?_
        refine TL.load1 3 (Src.box 1 rfl) Try.isAgg2 rfl rfl rfl rfl rfl ?_
        refine TL.call (R := G.spec_l03Legs.R) Try.call77 rfl rfl rfl (fun w hS => G.spec_l03Legs.calls w s3 x7 x4 ((Rd.old h3) w hS)) ?_
        rintro r_3 _ _ ⟨rfl, rfl⟩
        refine TL.not r_3 rfl rfl rfl ?_
        refine TL.pick rfl rfl (b := false) rfl (r := .bool (!r_3)) rfl ?_
        refine TL.done ?_
        exact TC.nrm ((!r_3)) () ⟨rfl, rfl, rfl, rfl, rfl, rfl, rfl, rfl, rfl, rfl, rfl, rfl, rfl, rfl, rfl, rfl, (by rw [c4]; rfl), trivial⟩ [0, 0] (by kernel_rfl)
    · rintro b_3 _
      refine TL.assign rfl rfl (v := .bool b_3) rfl ?_
      refine TL.done ?_
      refine TC.cond (b := b_3) rfl (fun c5 => ?_) (fun c6 => ?_)
      · refine TC.seq ?_
        refine TC.region ?_
        refine TL.buildS (segs0 := [.one (.int .i64 0), .one (.int .i64 0), .one (.int .i64 0), .one (.int .i64 0), .one (SV.v ⟨none, 0, 0⟩)]) (segs := [.one (.int .i64 0), .one (.int .i64 0), .one (.int .i64 0), .one (.int .i64 0), .one (SV.v ⟨none, 0, 0⟩)]) [1, 1, 1, 1, 1] Try.underlying24 ⟨Try.sizeOf2, Try.sizeOf2, Try.sizeOf2, Try.sizeOf2, Try.sizeOf22, trivial⟩ Try.zeroValue24 rfl [] rfl (fun pl hpl => by subst hpl; exact rfl) rfl rfl ?_
        refine TL.stM (news := [.one (.int .i64 0), .one (.int .i64 0), .one (.int .i64 0), .one (.int .i64 0), .one (SV.v ⟨none, 0, 0⟩)]) 0 0 5 rfl Try.sizeOf24 (ones_one rfl (ones_one rfl (ones_one rfl (ones_one rfl (ones_one rfl ones_nil))))) rfl rfl rfl rfl rfl rfl ?_
        refine TL.assign rfl rfl (v := .int .i64 2) rfl ?_
        refine TL.done ?_
        refine TC.nilrow Ei 2 ?_
        exact TC.retF (Fin.body (fin2 (.inr rfl) rfl (.cellN rfl (Src.box 1 rfl) Try.isAgg24 Try.sizeOf24 rfl) (.tmp rfl) [0] rfl ⟨⟨none, 0, 0⟩, rfl, rfl⟩))
      · refine TC.skip ?_
        refine TC.seq ?_
        refine TC.region ?_
        refine TL.fa Try.underlying24 rfl Try.sizeOf2 rfl 0 rfl rfl rfl rfl ?_
        refine TL.load1 0 (Src.box 1 rfl) Try.isAgg2 rfl rfl rfl rfl rfl ?_
        refine TL.fa Try.underlying24 rfl Try.sizeOf2 rfl 1 rfl rfl rfl rfl ?_
        refine TL.load1 1 (Src.box 1 rfl) Try.isAgg2 rfl rfl rfl rfl rfl ?_
        refine TL.fa Try.underlying24 rfl Try.sizeOf2 rfl 2 rfl rfl rfl rfl ?_
        refine TL.load1 2 (Src.box 1 rfl) Try.isAgg2 rfl rfl rfl rfl rfl ?_
        refine TL.fa Try.underlying24 rfl Try.sizeOf2 rfl 3 rfl rfl rfl rfl ?_
        refine TL.load1 3 (Src.box 1 rfl) Try.isAgg2 rfl rfl rfl rfl rfl ?_
        refine TL.call (R := G.spec_l03Empty.R) Try.call45 rfl rfl rfl (fun w hS => G.spec_l03Empty.calls w x1 x2 x3 x4) ?_
        rintro ⟨r_4, r_5, r_6, r_7, r_8⟩ _ _ ⟨s4, rfl, rfl⟩
        refine TL.alloc [.one (.int .i64 0), .one (.int .i64 0), .one (.int .i64 0), .one (.int .i64 0), .one (SV.v ⟨none, 0, 0⟩)] rfl rfl Try.zeroValue24 rfl fun b_4 => ?_
        refine TL.stM (news := [.one (.int .i64 r_4), .one (.int .i64 r_5), .one (.int .i64 r_6), .one (.int .i64 r_7), .one (SV.v s4)]) 0 0 5 rfl Try.sizeOf24 (ones_one rfl (ones_one rfl (ones_one rfl (ones_one rfl (ones_one rfl ones_nil))))) rfl rfl rfl rfl rfl rfl ?_
        refine TL.done ?_
        refine TC.seq ?_
        refine TC.seq ?_
        refine TC.region ?_
        refine TL.assign rfl rfl (v := .int .i64 0) rfl ?_
        refine TL.done ?_
        refine TC.loop1 (σ := (List Int) × Int) (γ := Unit) (Γ' := (fun p q => match p, q with | (l1, x8), _ => [(1, SV.v s2), (2, SV.v s3), (3, bp b_1 0), (6, bp b_2 0), (8, bp b_4 0), (9, .int .i64 x8)])) (L' := (fun p q => match p, q with | (l1, x8), _ => [box b_1 24 [.one (.int .i64 x1), .one (.int .i64 x2), .one (.int .i64 x3), .one (.int .i64 x4), .one (SV.v s1)], box b_2 24 [.one (.int .i64 0), .one (.int .i64 0), .one (.int .i64 0), .one (.int .i64 0), .one (SV.v ⟨none, 0, 0⟩)], box b_4 24 [.one (.int .i64 r_4), .one (.int .i64 r_5), .one (.int .i64 r_6), .one (.int .i64 r_7), .one (SV.v s4)], row Ei 2 s4 l1])) (Γb := (fun p q => match p, q with | (l1, x8), _ => [(1, SV.v s2), (2, SV.v s3), (3, bp b_1 0), (6, bp b_2 0), (8, bp b_4 0), (9, .int .i64 x8)])) (Lb := (fun p q => match p, q with | (l1, x8), _ => [box b_1 24 [.one (.int .i64 x1), .one (.int .i64 x2), .one (.int .i64 x3), .one (.int .i64 x4), .one (SV.v s1)], box b_2 24 [.one (.int .i64 0), .one (.int .i64 0), .one (.int .i64 0), .one (.int .i64 0), .one (SV.v ⟨none, 0, 0⟩)], box b_4 24 [.one (.int .i64 r_4), .one (.int .i64 r_5), .one (.int .i64 r_6), .one (.int .i64 r_7), .one (SV.v s4)], row Ei 2 s4 l1])) ((r_8, 0)) (()) ⟨rfl, rfl, rfl, rfl, rfl, rfl, trivial⟩ [3, 2, 0, 0] rfl ?_ ?_
        · rintro ⟨l1, x8⟩ _
          refine TC.seq ?_
          refine TC.seq ?_
          refine TC.region ?_
          refine TL.move rfl rfl (v := .int .i64 x8) rfl ?_
          refine TL.fa Try.underlying24 rfl Try.sizeOf22 rfl 4 rfl rfl rfl rfl ?_
          refine TL.load1 4 (Src.box 2 rfl) Try.isAgg22 rfl rfl rfl rfl rfl ?_
          refine TL.len (Rd.row 3 rfl) Try.underlying22 rfl rfl rfl ?_
          refine TL.bin .i64 x8 (l1.length : Int) rfl rfl rfl rfl (v := .bool (decide (x8 < (l1.length : Int)))) rfl ?_
          refine TL.done ?_
          refine TC.cond (b := (decide (x8 < (l1.length : Int)))) rfl (fun c7 => ?_) (fun c8 => ?_)
          · refine TC.skip ?_
            refine TC.seq ?_
            refine TC.block (NoEx.loop1 rfl) ?_
            refine TC.seq ?_
            refine TC.region ?_
            refine TL.move rfl rfl (v := .int .i64 x8) rfl ?_
            refine TL.fa Try.underlying24 rfl Try.sizeOf2 rfl 1 rfl rfl rfl rfl ?_
            refine TL.load1 1 (Src.box 0 rfl) Try.isAgg2 rfl rfl rfl rfl rfl ?_
            refine TL.fa Try.underlying24 rfl Try.sizeOf2 rfl 2 rfl rfl rfl rfl ?_
            refine TL.load1 2 (Src.box 0 rfl) Try.isAgg2 rfl rfl rfl rfl rfl ?_
            refine TL.fa Try.underlying24 rfl Try.sizeOf2 rfl 3 rfl rfl rfl rfl ?_
            refine TL.load1 3 (Src.box 0 rfl) Try.isAgg2 rfl rfl rfl rfl rfl ?_
            refine TL.bin .i64 x3 x4 rfl rfl rfl rfl (v := .int .i64 (w64 (x3 + x4))) rfl ?_
            refine TL.call (R := G.spec_l03Digits.R) Try.call71 rfl rfl rfl (fun w hS => G.spec_l03Digits.calls w x8 x2 (w64 (x3 + x4))) ?_
            rintro r_9 _ _ ⟨s5, rfl, rfl⟩
            refine TL.assign rfl rfl (v := SV.v s5) rfl ?_
            refine TL.done ?_
            refine TC.seq ?_
            refine TC.region ?_
            refine TL.move rfl rfl (v := SV.v s5) rfl ?_
            refine TL.len (Rd.row 0 rfl) Try.underlying22 rfl rfl rfl ?_
            refine TL.small fun h4 => ?_
            refine TL.mkslice Ei (0 : Int) (r_9.length : Int) Try.underlying22 (info_of Try.type2) (zv := (Try.t2.zero.getD (.bool false))) rfl rfl rfl (by simp [Ei, flat, Seg.cells]) (by decide) (by omega) (by omega) rfl rfl rfl rfl fun s6 => ?_
            refine TL.assign rfl rfl (v := SV.v s6) rfl ?_
            refine TL.done ?_
            refine TC.seq ?_
            refine TC.seq ?_
            refine TC.region ?_
            refine TL.assign rfl rfl (v := .int .i64 0) rfl ?_
            refine TL.done ?_
            refine TC.loop1 (σ := (List Int) × Int) (γ := Unit) (Γ' := (fun p q => match p, q with | (l2, x9), _ => [(1, SV.v s2), (2, SV.v s3), (3, bp b_1 0), (6, bp b_2 0), (8, bp b_4 0), (9, .int .i64 x8), (10, SV.v s5), (11, SV.v s6), (12, .int .i64 x9)])) (L' := (fun p q => match p, q with | (l2, x9), _ => [box b_1 24 [.one (.int .i64 x1), .one (.int .i64 x2), .one (.int .i64 x3), .one (.int .i64 x4), .one (SV.v s1)], box b_2 24 [.one (.int .i64 0), .one (.int .i64 0), .one (.int .i64 0), .one (.int .i64 0), .one (SV.v ⟨none, 0, 0⟩)], box b_4 24 [.one (.int .i64 r_4), .one (.int .i64 r_5), .one (.int .i64 r_6), .one (.int .i64 r_7), .one (SV.v s4)], row Ei 2 s4 l1, row Ei 2 s5 r_9, row Ei 2 s6 l2])) (Γb := (fun p q => match p, q with | (l2, x9), _ => [(1, SV.v s2), (2, SV.v s3), (3, bp b_1 0), (6, bp b_2 0), (8, bp b_4 0), (9, .int .i64 x8), (10, SV.v s5), (11, SV.v s6), (12, .int .i64 x9)])) (Lb := (fun p q => match p, q with | (l2, x9), _ => [box b_1 24 [.one (.int .i64 x1), .one (.int .i64 x2), .one (.int .i64 x3), .one (.int .i64 x4), .one (SV.v s1)], box b_2 24 [.one (.int .i64 0), .one (.int .i64 0), .one (.int .i64 0), .one (.int .i64 0), .one (SV.v ⟨none, 0, 0⟩)], box b_4 24 [.one (.int .i64 r_4), .one (.int .i64 r_5), .one (.int .i64 r_6), .one (.int .i64 r_7), .one (SV.v s4)], row Ei 2 s4 l1, row Ei 2 s5 r_9, row Ei 2 s6 l2])) (((List.replicate (r_9.length : Int).toNat (0 : Int)), 0)) (()) ⟨rfl, rfl, rfl, rfl, rfl, rfl, rfl, rfl, rfl, trivial⟩ [2, 2, 2, 2, 1, 0] rfl ?_ ?_
            · rintro ⟨l2, x9⟩ _
              refine TC.seq ?_
              refine TC.seq ?_
              refine TC.region ?_
              refine TL.move rfl rfl (v := .int .i64 x9) rfl ?_
              refine TL.move rfl rfl (v := SV.v s2) rfl ?_
              refine TL.len (Rd.old h2) Try.underlying22 rfl rfl rfl ?_
              refine TL.bin .i64 x9 (x6.length : Int) rfl rfl rfl rfl (v := .bool (decide (x9 < (x6.length : Int)))) rfl ?_
              refine TL.done ?_
              refine TC.cond (b := (decide (x9 < (x6.length : Int)))) rfl (fun c9 => ?_) (fun c10 => ?_)
              · refine TC.skip ?_
                refine TC.seq ?_
                refine TC.block (NoEx.loop1 rfl) ?_
                refine TC.wk (Γ' := [(1, SV.v s2), (2, SV.v s3), (3, bp b_1 0), (6, bp b_2 0), (8, bp b_4 0), (9, .int .i64 x8), (10, SV.v s5), (11, SV.v s6), (12, .int .i64 x9), (61, .int .i64 x9), (62, SV.v s2), (63, .int .i64 (x6.length : Int)), (64, .bool (decide (x9 < (x6.length : Int))))]) ⟨rfl, rfl, rfl, rfl, rfl, rfl, rfl, rfl, rfl, rfl, rfl, rfl, rfl, trivial⟩ ?_
                refine TC.chk fun h6 => ?_
                refine TC.chk fun h7 => ?_
                refine TC.chk fun h8 => ?_
                refine TC.draw [SV.v s6, SV.v s2, .int .i64 x9, ep s2 x9.toNat, .int .i64 (gt x6 x9), SV.v s5, .int .i64 x9, ep s5 x9.toNat, .int .i64 (gt r_9 x9), ep s6 ((gt x6 x9).toNat), undef] 10 [box b_1 24 [.one (.int .i64 x1), .one (.int .i64 x2), .one (.int .i64 x3), .one (.int .i64 x4), .one (SV.v s1)], box b_2 24 [.one (.int .i64 0), .one (.int .i64 0), .one (.int .i64 0), .one (.int .i64 0), .one (SV.v ⟨none, 0, 0⟩)], box b_4 24 [.one (.int .i64 r_4), .one (.int .i64 r_5), .one (.int .i64 r_6), .one (.int .i64 r_7), .one (SV.v s4)], row Ei 2 s4 l1, row Ei 2 s5 r_9, row Ei 2 s6 (l2.set (gt x6 x9).toNat (gt r_9 x9))] (by kernel_rfl) rfl rfl rfl rfl ?_ ?_
                · refine ⟨?_, ?_, ?_, ?_, ?_, ?_, ?_, ?_, ?_, ?_, ?_, trivial⟩
                  · refine TL.move rfl rfl (v := SV.v s6) rfl ?_
                    refine TL.done ?_
                    exact TC.nrm () () ⟨rfl, trivial⟩ [0, 0, 0, 0, 0, 0] (by kernel_rfl)
                  · refine TL.move rfl rfl (v := SV.v s2) rfl ?_
                    refine TL.done ?_
                    exact TC.nrm () () ⟨rfl, trivial⟩ [0, 0, 0, 0, 0, 0] (by kernel_rfl)
                  · refine TL.move rfl rfl (v := .int .i64 x9) rfl ?_
                    refine TL.done ?_
                    exact TC.nrm () () ⟨rfl, trivial⟩ [0, 0, 0, 0, 0, 0] (by kernel_rfl)
                  · refine TL.ixs x9 x9.toNat (Rd.old h2) h6 Try.underlying22 Try.sizeOf2 rfl rfl rfl rfl (by omega) ?_
                    refine TL.done ?_
                    exact TC.nrm () () ⟨rfl, trivial⟩ [0, 0, 0, 0, 0, 0] (by kernel_rfl)
                  · refine TL.loadE (Rd.old h2) Try.isAgg2 x9.toNat 0 (gt_spec h6) (v := .int .i64 (gt x6 x9)) rfl (by simp only [show Ei.sz = 1 from rfl] <;> omega) rfl rfl rfl ?_
                    refine TL.done ?_
                    exact TC.nrm () () ⟨rfl, trivial⟩ [0, 0, 0, 0, 0, 0] (by kernel_rfl)
                  · refine TL.move rfl rfl (v := SV.v s5) rfl ?_
                    refine TL.done ?_
                    exact TC.nrm () () ⟨rfl, trivial⟩ [0, 0, 0, 0, 0, 0] (by kernel_rfl)
                  · refine TL.move rfl rfl (v := .int .i64 x9) rfl ?_
                    refine TL.done ?_
                    exact TC.nrm () () ⟨rfl, trivial⟩ [0, 0, 0, 0, 0, 0] (by kernel_rfl)
                  · refine TL.ixs x9 x9.toNat (Rd.row 4 rfl) h7 Try.underlying22 Try.sizeOf2 rfl rfl rfl rfl (by omega) ?_
                    refine TL.done ?_
                    exact TC.nrm () () ⟨rfl, trivial⟩ [0, 0, 0, 0, 0, 0] (by kernel_rfl)
                  · refine TL.loadE (Rd.row 4 rfl) Try.isAgg2 x9.toNat 0 (gt_spec h7) (v := .int .i64 (gt r_9 x9)) rfl (by simp only [show Ei.sz = 1 from rfl] <;> omega) rfl rfl rfl ?_
                    refine TL.done ?_
                    exact TC.nrm () () ⟨rfl, trivial⟩ [0, 0, 0, 0, 0, 0] (by kernel_rfl)
                  · refine TL.ixs (gt x6 x9) ((gt x6 x9).toNat) (Rd.row 5 rfl) h8 Try.underlying22 Try.sizeOf2 rfl rfl rfl rfl (by omega) ?_
                    refine TL.done ?_
                    exact TC.nrm () () ⟨rfl, trivial⟩ [0, 0, 0, 0, 0, 0] (by kernel_rfl)
                  · refine TL.stE 5 ((gt x6 x9).toNat) (gt r_9 x9) (v := .int .i64 (gt r_9 x9)) rfl Try.sizeOf2 rfl rfl rfl (by have h_ := h8; omega) (by simp only [show Ei.sz = 1 from rfl] <;> omega) rfl rfl rfl ?_
                    refine TL.done ?_
                    exact TC.nrm () () trivial [0, 0, 0, 0, 0, 0] (by kernel_rfl)
                · refine TC.region ?_
                  refine TL.move rfl rfl (v := .int .i64 x9) rfl ?_
                  refine TL.bin .i64 x9 1 rfl rfl rfl rfl (v := .int .i64 (w64 (x9 + 1))) rfl ?_
                  refine TL.assign rfl rfl (v := .int .i64 (w64 (x9 + 1))) rfl ?_
                  refine TL.done ?_
                  exact TC.next1 (((l2.set (gt x6 x9).toNat (gt r_9 x9)), (w64 (x9 + 1)))) (()) ⟨rfl, rfl, rfl, rfl, rfl, rfl, rfl, rfl, rfl, trivial⟩ [0, 0, 0, 0, 0, 0] rfl
              · exact TC.brk1 ((l2, x9)) (()) ⟨rfl, rfl, rfl, rfl, rfl, rfl, rfl, rfl, rfl, trivial⟩ [0, 0, 0, 0, 0, 0] rfl
            · rintro ⟨l2, x9⟩ _
              refine TC.seq ?_
              refine TC.seq ?_
              refine TC.region ?_
              refine TL.assign rfl rfl (v := .int .i64 0) rfl ?_
              refine TL.done ?_
              refine TC.loop1 (σ := (List Int) × Int) (γ := Unit) (Γ' := (fun p q => match p, q with | (l3, x10), _ => [(1, SV.v s2), (2, SV.v s3), (3, bp b_1 0), (6, bp b_2 0), (8, bp b_4 0), (9, .int .i64 x8), (10, SV.v s5), (11, SV.v s6), (13, .int .i64 x10)])) (L' := (fun p q => match p, q with | (l3, x10), _ => [box b_1 24 [.one (.int .i64 x1), .one (.int .i64 x2), .one (.int .i64 x3), .one (.int .i64 x4), .one (SV.v s1)], box b_2 24 [.one (.int .i64 0), .one (.int .i64 0), .one (.int .i64 0), .one (.int .i64 0), .one (SV.v ⟨none, 0, 0⟩)], box b_4 24 [.one (.int .i64 r_4), .one (.int .i64 r_5), .one (.int .i64 r_6), .one (.int .i64 r_7), .one (SV.v s4)], row Ei 2 s4 l1, row Ei 2 s5 r_9, row Ei 2 s6 l3])) (Γb := (fun p q => match p, q with | (l3, x10), _ => [(1, SV.v s2), (2, SV.v s3), (3, bp b_1 0), (6, bp b_2 0), (8, bp b_4 0), (9, .int .i64 x8), (10, SV.v s5), (11, SV.v s6), (13, .int .i64 x10)])) (Lb := (fun p q => match p, q with | (l3, x10), _ => [box b_1 24 [.one (.int .i64 x1), .one (.int .i64 x2), .one (.int .i64 x3), .one (.int .i64 x4), .one (SV.v s1)], box b_2 24 [.one (.int .i64 0), .one (.int .i64 0), .one (.int .i64 0), .one (.int .i64 0), .one (SV.v ⟨none, 0, 0⟩)], box b_4 24 [.one (.int .i64 r_4), .one (.int .i64 r_5), .one (.int .i64 r_6), .one (.int .i64 r_7), .one (SV.v s4)], row Ei 2 s4 l1, row Ei 2 s5 r_9, row Ei 2 s6 l3])) ((l2, 0)) (()) ⟨rfl, rfl, rfl, rfl, rfl, rfl, rfl, rfl, rfl, trivial⟩ [0, 0, 0, 0, 0, 0] rfl ?_ ?_
              · rintro ⟨l3, x10⟩ _
                refine TC.seq ?_
                refine TC.seq ?_
                refine TC.region ?_
                refine TL.move rfl rfl (v := .int .i64 x10) rfl ?_
                refine TL.move rfl rfl (v := SV.v s3) rfl ?_
                refine TL.len (Rd.old h3) Try.underlying22 rfl rfl rfl ?_
                refine TL.bin .i64 x10 (x7.length : Int) rfl rfl rfl rfl (v := .bool (decide (x10 < (x7.length : Int)))) rfl ?_
                refine TL.done ?_
                refine TC.cond (b := (decide (x10 < (x7.length : Int)))) rfl (fun c11 => ?_) (fun c12 => ?_)
                · refine TC.skip ?_
                  refine TC.seq ?_
                  refine TC.block (NoEx.loop1 rfl) ?_
                  refine TC.wk (Γ' := [(1, SV.v s2), (2, SV.v s3), (3, bp b_1 0), (6, bp b_2 0), (8, bp b_4 0), (9, .int .i64 x8), (10, SV.v s5), (11, SV.v s6), (13, .int .i64 x10), (77, .int .i64 x10), (78, SV.v s3), (79, .int .i64 (x7.length : Int)), (80, .bool (decide (x10 < (x7.length : Int))))]) ⟨rfl, rfl, rfl, rfl, rfl, rfl, rfl, rfl, rfl, rfl, rfl, rfl, rfl, trivial⟩ ?_
                  refine TC.chk fun h9 => ?_
                  refine TC.chk fun h10 => ?_
                  refine TC.chk fun h11 => ?_
                  refine TC.draw [SV.v s6, bp b_1 2, .int .i64 x3, SV.v s3, .int .i64 x10, ep s3 x10.toNat, .int .i64 (gt x7 x10), .int .i64 (w64 (x3 + (gt x7 x10))), SV.v s5, bp b_1 2, .int .i64 x3, .int .i64 x10, .int .i64 (w64 (x3 + x10)), ep s5 ((w64 (x3 + x10)).toNat), .int .i64 (gt r_9 (w64 (x3 + x10))), ep s6 ((w64 (x3 + (gt x7 x10))).toNat), undef] 16 [box b_1 24 [.one (.int .i64 x1), .one (.int .i64 x2), .one (.int .i64 x3), .one (.int .i64 x4), .one (SV.v s1)], box b_2 24 [.one (.int .i64 0), .one (.int .i64 0), .one (.int .i64 0), .one (.int .i64 0), .one (SV.v ⟨none, 0, 0⟩)], box b_4 24 [.one (.int .i64 r_4), .one (.int .i64 r_5), .one (.int .i64 r_6), .one (.int .i64 r_7), .one (SV.v s4)], row Ei 2 s4 l1, row Ei 2 s5 r_9, row Ei 2 s6 (l3.set (w64 (x3 + (gt x7 x10))).toNat (gt r_9 (w64 (x3 + x10))))] (by kernel_rfl) rfl rfl rfl rfl ?_ ?_
                  · refine ⟨?_, ?_, ?_, ?_, ?_, ?_, ?_, ?_, ?_, ?_, ?_, ?_, ?_, ?_, ?_, ?_, ?_, trivial⟩
                    · refine TL.move rfl rfl (v := SV.v s6) rfl ?_
                      refine TL.done ?_
                      exact TC.nrm () () ⟨rfl, trivial⟩ [0, 0, 0, 0, 0, 0] (by kernel_rfl)
                    · refine TL.fa Try.underlying24 rfl Try.sizeOf2 rfl 2 rfl rfl rfl rfl ?_
                      refine TL.done ?_
                      exact TC.nrm () () ⟨rfl, trivial⟩ [0, 0, 0, 0, 0, 0] (by kernel_rfl)
                    · refine TL.load1 2 (Src.box 0 rfl) Try.isAgg2 rfl rfl rfl rfl rfl ?_
                      refine TL.done ?_
                      exact TC.nrm () () ⟨rfl, trivial⟩ [0, 0, 0, 0, 0, 0] (by kernel_rfl)
                    · refine TL.move rfl rfl (v := SV.v s3) rfl ?_
                      refine TL.done ?_
                      exact TC.nrm () () ⟨rfl, trivial⟩ [0, 0, 0, 0, 0, 0] (by kernel_rfl)
                    · refine TL.move rfl rfl (v := .int .i64 x10) rfl ?_
                      refine TL.done ?_
                      exact TC.nrm () () ⟨rfl, trivial⟩ [0, 0, 0, 0, 0, 0] (by kernel_rfl)
                    · refine TL.ixs x10 x10.toNat (Rd.old h3) h9 Try.underlying22 Try.sizeOf2 rfl rfl rfl rfl (by omega) ?_
                      refine TL.done ?_
                      exact TC.nrm () () ⟨rfl, trivial⟩ [0, 0, 0, 0, 0, 0] (by kernel_rfl)
                    · refine TL.loadE (Rd.old h3) Try.isAgg2 x10.toNat 0 (gt_spec h9) (v := .int .i64 (gt x7 x10)) rfl (by simp only [show Ei.sz = 1 from rfl] <;> omega) rfl rfl rfl ?_
                      refine TL.done ?_
                      exact TC.nrm () () ⟨rfl, trivial⟩ [0, 0, 0, 0, 0, 0] (by kernel_rfl)
                    · refine TL.bin .i64 x3 (gt x7 x10) rfl rfl rfl rfl (v := .int .i64 (w64 (x3 + (gt x7 x10)))) rfl ?_
                      refine TL.done ?_
                      exact TC.nrm () () ⟨rfl, trivial⟩ [0, 0, 0, 0, 0, 0] (by kernel_rfl)
                    · refine TL.move rfl rfl (v := SV.v s5) rfl ?_
                      refine TL.done ?_
                      exact TC.nrm () () ⟨rfl, trivial⟩ [0, 0, 0, 0, 0, 0] (by kernel_rfl)
                    · refine TL.fa Try.underlying24 rfl Try.sizeOf2 rfl 2 rfl rfl rfl rfl ?_
                      refine TL.done ?_
                      exact TC.nrm () () ⟨rfl, trivial⟩ [0, 0, 0, 0, 0, 0] (by kernel_rfl)
                    · refine TL.load1 2 (Src.box 0 rfl) Try.isAgg2 rfl rfl rfl rfl rfl ?_
                      refine TL.done ?_
                      exact TC.nrm () () ⟨rfl, trivial⟩ [0, 0, 0, 0, 0, 0] (by kernel_rfl)
                    · refine TL.move rfl rfl (v := .int .i64 x10) rfl ?_
                      refine TL.done ?_
                      exact TC.nrm () () ⟨rfl, trivial⟩ [0, 0, 0, 0, 0, 0] (by kernel_rfl)
                    · refine TL.bin .i64 x3 x10 rfl rfl rfl rfl (v := .int .i64 (w64 (x3 + x10))) rfl ?_
                      refine TL.done ?_
                      exact TC.nrm () () ⟨rfl, trivial⟩ [0, 0, 0, 0, 0, 0] (by kernel_rfl)
                    · refine TL.ixs (w64 (x3 + x10)) ((w64 (x3 + x10)).toNat) (Rd.row 4 rfl) h10 Try.underlying22 Try.sizeOf2 rfl rfl rfl rfl (by omega) ?_
                      refine TL.done ?_
                      exact TC.nrm () () ⟨rfl, trivial⟩ [0, 0, 0, 0, 0, 0] (by kernel_rfl)
                    · refine TL.loadE (Rd.row 4 rfl) Try.isAgg2 (w64 (x3 + x10)).toNat 0 (gt_spec h10) (v := .int .i64 (gt r_9 (w64 (x3 + x10)))) rfl (by simp only [show Ei.sz = 1 from rfl] <;> omega) rfl rfl rfl ?_
                      refine TL.done ?_
                      exact TC.nrm () () ⟨rfl, trivial⟩ [0, 0, 0, 0, 0, 0] (by kernel_rfl)
                    · refine TL.ixs (w64 (x3 + (gt x7 x10))) ((w64 (x3 + (gt x7 x10))).toNat) (Rd.row 5 rfl) h11 Try.underlying22 Try.sizeOf2 rfl rfl rfl rfl (by omega) ?_
                      refine TL.done ?_
                      exact TC.nrm () () ⟨rfl, trivial⟩ [0, 0, 0, 0, 0, 0] (by kernel_rfl)
                    · refine TL.stE 5 ((w64 (x3 + (gt x7 x10))).toNat) (gt r_9 (w64 (x3 + x10))) (v := .int .i64 (gt r_9 (w64 (x3 + x10)))) rfl Try.sizeOf2 rfl rfl rfl (by have h_ := h11; omega) (by simp only [show Ei.sz = 1 from rfl] <;> omega) rfl rfl rfl ?_
                      refine TL.done ?_
                      exact TC.nrm () () trivial [0, 0, 0, 0, 0, 0] (by kernel_rfl)
                  · refine TC.region ?_
                    refine TL.move rfl rfl (v := .int .i64 x10) rfl ?_
                    refine TL.bin .i64 x10 1 rfl rfl rfl rfl (v := .int .i64 (w64 (x10 + 1))) rfl ?_
                    refine TL.assign rfl rfl (v := .int .i64 (w64 (x10 + 1))) rfl ?_
                    refine TL.done ?_
                    exact TC.next1 (((l3.set (w64 (x3 + (gt x7 x10))).toNat (gt r_9 (w64 (x3 + x10)))), (w64 (x10 + 1)))) (()) ⟨rfl, rfl, rfl, rfl, rfl, rfl, rfl, rfl, rfl, trivial⟩ [0, 0, 0, 0, 0, 0] rfl
                · exact TC.brk1 ((l3, x10)) (()) ⟨rfl, rfl, rfl, rfl, rfl, rfl, rfl, rfl, rfl, trivial⟩ [0, 0, 0, 0, 0, 0] rfl
              · rintro ⟨l3, x10⟩ _
                refine TC.wk (Γ' := [(1, SV.v s2), (2, SV.v s3), (3, bp b_1 0), (6, bp b_2 0), (8, bp b_4 0), (9, .int .i64 x8), (10, SV.v s5), (11, SV.v s6), (13, .int .i64 x10)]) ⟨rfl, rfl, rfl, rfl, rfl, rfl, rfl, rfl, rfl, trivial⟩ ?_
                refine TC.bindE fun r_10 hr1 => ?_
                refine TC.chk fun h12 => ?_
                refine TC.chk fun h13 => ?_
                refine TC.draw [bp b_4 4, SV.v s4, .int .i64 x8, bp b_1 4, SV.v s1, SV.v s6, bp b_1 1, .int .i64 x2, .int .i64 r_10, ep s1 r_10.toNat, .int .i64 (gt x5 r_10), ep s4 x8.toNat, undef] 12 [box b_1 24 [.one (.int .i64 x1), .one (.int .i64 x2), .one (.int .i64 x3), .one (.int .i64 x4), .one (SV.v s1)], box b_2 24 [.one (.int .i64 0), .one (.int .i64 0), .one (.int .i64 0), .one (.int .i64 0), .one (SV.v ⟨none, 0, 0⟩)], box b_4 24 [.one (.int .i64 r_4), .one (.int .i64 r_5), .one (.int .i64 r_6), .one (.int .i64 r_7), .one (SV.v s4)], row Ei 2 s4 (l1.set x8.toNat (gt x5 r_10)), row Ei 2 s5 r_9, row Ei 2 s6 l3] (by kernel_rfl) rfl rfl rfl rfl ?_ ?_
                · refine ⟨?_, ?_, ?_, ?_, ?_, ?_, ?_, ?_, ?_, ?_, ?_, ?_, ?_, trivial⟩
                  · refine TL.fa Try.underlying24 rfl Try.sizeOf22 rfl 4 rfl rfl rfl rfl ?_
                    refine TL.done ?_
                    exact TC.nrm () () ⟨rfl, trivial⟩ [0, 0, 0, 0, 0, 0] (by kernel_rfl)
                  · refine TL.load1 4 (Src.box 2 rfl) Try.isAgg22 rfl rfl rfl rfl rfl ?_
                    refine TL.done ?_
                    exact TC.nrm () () ⟨rfl, trivial⟩ [0, 0, 0, 0, 0, 0] (by kernel_rfl)
                  · refine TL.move rfl rfl (v := .int .i64 x8) rfl ?_
                    refine TL.done ?_
                    exact TC.nrm () () ⟨rfl, trivial⟩ [0, 0, 0, 0, 0, 0] (by kernel_rfl)
                  · refine TL.fa Try.underlying24 rfl Try.sizeOf22 rfl 4 rfl rfl rfl rfl ?_
                    refine TL.done ?_
                    exact TC.nrm () () ⟨rfl, trivial⟩ [0, 0, 0, 0, 0, 0] (by kernel_rfl)
                  · refine TL.load1 4 (Src.box 0 rfl) Try.isAgg22 rfl rfl rfl rfl rfl ?_
                    refine TL.done ?_
                    exact TC.nrm () () ⟨rfl, trivial⟩ [0, 0, 0, 0, 0, 0] (by kernel_rfl)
                  · refine TL.move rfl rfl (v := SV.v s6) rfl ?_
                    refine TL.done ?_
                    exact TC.nrm () () ⟨rfl, trivial⟩ [0, 0, 0, 0, 0, 0] (by kernel_rfl)
                  · refine TL.fa Try.underlying24 rfl Try.sizeOf2 rfl 1 rfl rfl rfl rfl ?_
                    refine TL.done ?_
                    exact TC.nrm () () ⟨rfl, trivial⟩ [0, 0, 0, 0, 0, 0] (by kernel_rfl)
                  · refine TL.load1 1 (Src.box 0 rfl) Try.isAgg2 rfl rfl rfl rfl rfl ?_
                    refine TL.done ?_
                    exact TC.nrm () () ⟨rfl, trivial⟩ [0, 0, 0, 0, 0, 0] (by kernel_rfl)
                  · refine TL.callH (R := G.spec_l03Place.R) hr1 Try.call78 rfl rfl rfl (fun w hS => G.spec_l03Place.calls w s6 l3 x2 ((Rd.row 5 rfl) w hS)) ?_
                    rintro _ _ ⟨rfl, rfl⟩
                    refine TL.done ?_
                    exact TC.nrm () () ⟨rfl, trivial⟩ [0, 0, 0, 0, 0, 0] (by kernel_rfl)
                  · refine TL.ixs r_10 r_10.toNat (Rd.old h1) h12 Try.underlying22 Try.sizeOf2 rfl rfl rfl rfl (by omega) ?_
                    refine TL.done ?_
                    exact TC.nrm () () ⟨rfl, trivial⟩ [0, 0, 0, 0, 0, 0] (by kernel_rfl)
                  · refine TL.loadE (Rd.old h1) Try.isAgg2 r_10.toNat 0 (gt_spec h12) (v := .int .i64 (gt x5 r_10)) rfl (by simp only [show Ei.sz = 1 from rfl] <;> omega) rfl rfl rfl ?_
                    refine TL.done ?_
                    exact TC.nrm () () ⟨rfl, trivial⟩ [0, 0, 0, 0, 0, 0] (by kernel_rfl)
                  · refine TL.ixs x8 x8.toNat (Rd.row 3 rfl) h13 Try.underlying22 Try.sizeOf2 rfl rfl rfl rfl (by omega) ?_
                    refine TL.done ?_
                    exact TC.nrm () () ⟨rfl, trivial⟩ [0, 0, 0, 0, 0, 0] (by kernel_rfl)
                  · refine TL.stE 3 (x8.toNat) (gt x5 r_10) (v := .int .i64 (gt x5 r_10)) rfl Try.sizeOf2 rfl rfl rfl (by have h_ := h13; omega) (by simp only [show Ei.sz = 1 from rfl] <;> omega) rfl rfl rfl ?_
                    refine TL.done ?_
                    exact TC.nrm () () trivial [0, 0, 0, 0, 0, 0] (by kernel_rfl)
                · refine TC.region ?_
                  refine TL.move rfl rfl (v := .int .i64 x8) rfl ?_
                  refine TL.bin .i64 x8 1 rfl rfl rfl rfl (v := .int .i64 (w64 (x8 + 1))) rfl ?_
                  refine TL.assign rfl rfl (v := .int .i64 (w64 (x8 + 1))) rfl ?_
                  refine TL.done ?_
                  exact TC.next1 (((l1.set x8.toNat (gt x5 r_10)), (w64 (x8 + 1)))) (()) ⟨rfl, rfl, rfl, rfl, rfl, rfl, trivial⟩ [0, 0, 0, 0] rfl
          · exact TC.brk1 ((l1, x8)) (()) ⟨rfl, rfl, rfl, rfl, rfl, rfl, trivial⟩ [0, 0, 0, 0] rfl
        · rintro ⟨l1, x8⟩ _
          refine TC.seq ?_
          refine TC.region ?_
          refine TL.loadM 0 5 (Src.box 2 rfl) Try.isAgg24 Try.sizeOf24 (mid := [.one (.int .i64 r_4), .one (.int .i64 r_5), .one (.int .i64 r_6), .one (.int .i64 r_7), .one (SV.v s4)]) rfl rfl rfl rfl rfl rfl ?_
          refine TL.stM (news := [.one (.int .i64 r_4), .one (.int .i64 r_5), .one (.int .i64 r_6), .one (.int .i64 r_7), .one (SV.v s4)]) 1 0 5 rfl Try.sizeOf24 (ones_one rfl (ones_one rfl (ones_one rfl (ones_one rfl (ones_one rfl ones_nil))))) rfl rfl rfl rfl rfl rfl ?_
          refine TL.assign rfl rfl (v := .int .i64 0) rfl ?_
          refine TL.done ?_
          exact TC.retF (Fin.body (fin2 (.inr rfl) rfl (.cellN rfl (Src.box 1 rfl) Try.isAgg24 Try.sizeOf24 rfl) (.tmp rfl) [3] rfl ⟨s4, rfl, rfl⟩))

end Go.Proofs.Ytjjfoofjipafiaa.G

/- impl.in, as a pure function. -/
set_option linter.unusedVariables false
namespace Go.Proofs.Ytjjfoofjipafiaa.G
open Go Go.Sx Go.Proofs

def impl_in.f (n_1 : Int) (low1 : Int) (high1 : Int) : Option Bool := some ((decide (n_1 ≥ low1)) && (decide (n_1 ≤ high1)))

def impl_in.R (r : Bool) (v : Value) (L : List Asn) : Prop := v = .bool r ∧ L = []

set_option maxRecDepth 100000 in
set_option maxHeartbeats 4000000 in
theorem impl_in.calls (w : World) (n_1 : Int) (low1 : Int) (high1 : Int) :
    ∀ r, impl_in.f n_1 low1 high1 = some r → Calls Try.prog 62 #[.int .i64 n_1, .int .i64 low1, .int .i64 high1] w (Ret w (impl_in.R r)) := by

  refine calls_T (n := 15) (Γ := [(0, .int .i64 n_1), (1, .int .i64 low1), (2, .int .i64 high1)]) (R := impl_in.R) Try.func62 rfl rfl (Nat.le_of_ble_eq_true rfl) ⟨rfl, rfl, rfl, trivial⟩ ?_
  unfold impl_in.f
  refine TC.seq ?_
  refine TC.region ?_
  refine TL.assign rfl rfl (v := .bool false) rfl ?_
  refine TL.done ?_
  refine TC.seq ?_
  refine TC.region ?_
  refine TL.move rfl rfl (v := .int .i64 n_1) rfl ?_
  refine TL.move rfl rfl (v := .int .i64 low1) rfl ?_
  refine TL.bin .i64 n_1 low1 rfl rfl rfl rfl (v := .bool (decide (n_1 ≥ low1))) rfl ?_
  refine TL.move rfl rfl (v := .bool (decide (n_1 ≥ low1))) rfl ?_
  refine TL.cutU 4 [(14, .bool ((decide (n_1 ≥ low1)) && (decide (n_1 ≤ high1)))), (0, .int .i64 n_1), (1, .int .i64 low1), (2, .int .i64 high1), (6, .bool false), (7, .int .i64 n_1), (8, .int .i64 low1), (9, .bool (decide (n_1 ≥ low1))), (10, .bool (decide (n_1 ≥ low1)))] [] ?_ ?_
  · refine TL.cases (t := 10) (b := (decide (n_1 ≥ low1))) rfl (fun c1 => ?_) (fun c2 => ?_)
    · refine TL.move rfl rfl (v := .int .i64 n_1) rfl ?_
      refine TL.move rfl rfl (v := .int .i64 high1) rfl ?_
      refine TL.bin .i64 n_1 high1 rfl rfl rfl rfl (v := .bool (decide (n_1 ≤ high1))) rfl ?_
      refine TL.pick rfl rfl (b := true) rfl (r := .bool (decide (n_1 ≤ high1))) rfl ?_
      refine TL.done ?_
      exact TC.nrm () () ⟨(by rw [c1]; rfl), rfl, rfl, rfl, rfl, rfl, rfl, rfl, (by rw [c1]; rfl), trivial⟩ [] (by kernel_rfl)
    · refine TL.skip rfl rfl (by decide) ?_
      refine TL.skip rfl rfl (by decide) ?_
      refine TL.skip rfl rfl (by decide) ?_
      refine TL.pick rfl rfl (b := false) rfl (r := .bool false) rfl ?_
      refine TL.done ?_
      exact TC.nrm () () ⟨(by rw [c2]; rfl), rfl, rfl, rfl, rfl, rfl, rfl, rfl, (by rw [c2]; rfl), trivial⟩ [] (by kernel_rfl)
  · refine TL.assign rfl rfl (v := .bool ((decide (n_1 ≥ low1)) && (decide (n_1 ≤ high1)))) rfl ?_
    refine TL.done ?_
    exact TC.retF (Fin.body (fin1 (.inr rfl) rfl (.tmp rfl) [] rfl ⟨rfl, rfl⟩))

end Go.Proofs.Ytjjfoofjipafiaa.G

/- impl.endsOk, as a pure function. -/
set_option linter.unusedVariables false
namespace Go.Proofs.Ytjjfoofjipafiaa.G
open Go Go.Sx Go.Proofs

def impl_endsOk.f (k_1 : Int) : Option Bool := (G.impl_in.f k_1 0 8).bind (fun r_1 => some r_1)

def impl_endsOk.R (r : Bool) (v : Value) (L : List Asn) : Prop := v = .bool r ∧ L = []

set_option maxRecDepth 100000 in
set_option maxHeartbeats 4000000 in
theorem impl_endsOk.calls (w : World) (k_1 : Int) :
    ∀ r, impl_endsOk.f k_1 = some r → Calls Try.prog 51 #[.int .i64 k_1] w (Ret w (impl_endsOk.R r)) := by

  refine calls_T (n := 5) (Γ := [(0, .int .i64 k_1)]) (R := impl_endsOk.R) Try.func51 rfl rfl (Nat.le_of_ble_eq_true rfl) ⟨rfl, trivial⟩ ?_
  unfold impl_endsOk.f
  refine TC.seq ?_
  refine TC.region ?_
  refine TL.assign rfl rfl (v := .bool false) rfl ?_
  refine TL.done ?_
  refine TC.seq ?_
  refine TC.region ?_
  refine TL.move rfl rfl (v := .int .i64 k_1) rfl ?_
  refine TL.call (R := G.impl_in.R) Try.call62 rfl rfl rfl (fun w hS => G.impl_in.calls w k_1 0 8) ?_
  rintro r_1 _ _ ⟨rfl, rfl⟩
  refine TL.assign rfl rfl (v := .bool r_1) rfl ?_
  refine TL.done ?_
  exact TC.retF (Fin.body (fin1 (.inr rfl) rfl (.tmp rfl) [] rfl ⟨rfl, rfl⟩))

end Go.Proofs.Ytjjfoofjipafiaa.G

/- impl.powerOf, as a pure function. -/
set_option linter.unusedVariables false
namespace Go.Proofs.Ytjjfoofjipafiaa.G
open Go Go.Sx Go.Proofs

def impl_powerOf.b0 (k_1 : Int) (n_1 : Int) : Int × Int → Option (LR (Int × Int) Int) := fun p => match p with | (out1, x1) => (bif (decide (x1 < k_1)) then (bif (decide ((w64 (out1 * n_1)) > 1296)) then some (.ret ((w64 (out1 * n_1)))) else some (.next ((w64 (out1 * n_1)), (w64 (x1 + 1))))) else some (.brk (out1, x1)))

def impl_powerOf.f (n_1 : Int) (k_1 : Int) : Option Int := (loop (impl_powerOf.b0 k_1 n_1) (1, 0)).bind (ln (fun p => match p with | (out1, x1) => some out1))

def impl_powerOf.R (r : Int) (v : Value) (L : List Asn) : Prop := v = .int .i64 r ∧ L = []

set_option maxRecDepth 100000 in
set_option maxHeartbeats 4000000 in
theorem impl_powerOf.calls (w : World) (n_1 : Int) (k_1 : Int) :
    ∀ r, impl_powerOf.f n_1 k_1 = some r → Calls Try.prog 67 #[.int .i64 n_1, .int .i64 k_1] w (Ret w (impl_powerOf.R r)) := by

  refine calls_T (n := 17) (Γ := [(0, .int .i64 n_1), (1, .int .i64 k_1)]) (R := impl_powerOf.R) Try.func67 rfl rfl (Nat.le_of_ble_eq_true rfl) ⟨rfl, rfl, trivial⟩ ?_
  unfold impl_powerOf.f
  refine TC.seq ?_
  refine TC.region ?_
  refine TL.assign rfl rfl (v := .int .i64 0) rfl ?_
  refine TL.done ?_
  refine TC.seq ?_
  refine TC.region ?_
  refine TL.assign rfl rfl (v := .int .i64 1) rfl ?_
  refine TL.done ?_
  refine TC.seq ?_
  refine TC.seq ?_
  refine TC.region ?_
  refine TL.move rfl rfl (v := .int .i64 k_1) rfl ?_
  refine TL.move rfl rfl (v := .int .i64 0) rfl ?_
  refine TL.done ?_
  refine TC.loopK (σ := Int × Int) (γ := Unit) (Γ' := (fun p q => match p, q with | (out1, x1), _ => [(0, .int .i64 n_1), (5, .int .i64 out1), (6, .int .i64 k_1), (7, .int .i64 x1)])) (L' := (fun p q => match p, q with | (out1, x1), _ => [])) (Γb := (fun p q => match p, q with | (out1, x1), _ => [(0, .int .i64 n_1), (5, .int .i64 out1), (6, .int .i64 k_1), (7, .int .i64 x1)])) (Lb := (fun p q => match p, q with | (out1, x1), _ => [])) ((1, 0)) (()) ⟨rfl, rfl, rfl, rfl, trivial⟩ [] rfl ?_ ?_
  · rintro ⟨out1, x1⟩ _
    refine TC.seq ?_
    refine TC.region ?_
    refine TL.bin .i64 x1 k_1 rfl rfl rfl rfl (v := .bool (decide (x1 < k_1))) rfl ?_
    refine TL.done ?_
    refine TC.seq ?_
    refine TC.cond (b := (decide (x1 < k_1))) rfl (fun c1 => ?_) (fun c2 => ?_)
    · refine TC.skip ?_
      refine TC.seq ?_
      refine TC.block (NoEx.loop rfl NoEx.body) ?_
      refine TC.seq ?_
      refine TC.region ?_
      refine TL.move rfl rfl (v := .int .i64 out1) rfl ?_
      refine TL.move rfl rfl (v := .int .i64 n_1) rfl ?_
      refine TL.bin .i64 out1 n_1 rfl rfl rfl rfl (v := .int .i64 (w64 (out1 * n_1))) rfl ?_
      refine TL.assign rfl rfl (v := .int .i64 (w64 (out1 * n_1))) rfl ?_
      refine TL.done ?_
      refine TC.seq ?_
      refine TC.region ?_
      refine TL.move rfl rfl (v := .int .i64 (w64 (out1 * n_1))) rfl ?_
      refine TL.bin .i64 (w64 (out1 * n_1)) 1296 rfl rfl rfl rfl (v := .bool (decide ((w64 (out1 * n_1)) > 1296))) rfl ?_
      refine TL.done ?_
      refine TC.cond (b := (decide ((w64 (out1 * n_1)) > 1296))) rfl (fun c3 => ?_) (fun c4 => ?_)
      · refine TC.seq ?_
        refine TC.region ?_
        refine TL.move rfl rfl (v := .int .i64 (w64 (out1 * n_1))) rfl ?_
        refine TL.assign rfl rfl (v := .int .i64 (w64 (out1 * n_1))) rfl ?_
        refine TL.done ?_
        exact TC.retF (Fin.loop Far.ret (Fin.body (fin1 (.inr rfl) rfl (.tmp rfl) [] rfl ⟨rfl, rfl⟩)))
      · refine TC.skip ?_
        refine TC.region ?_
        refine TL.bin .i64 x1 1 rfl rfl rfl rfl (v := .int .i64 (w64 (x1 + 1))) rfl ?_
        refine TL.move rfl rfl (v := .int .i64 (w64 (x1 + 1))) rfl ?_
        refine TL.done ?_
        exact TC.next (((w64 (out1 * n_1)), (w64 (x1 + 1)))) (()) ⟨rfl, rfl, rfl, rfl, trivial⟩ [] rfl
    · exact TC.brk ((out1, x1)) (()) ⟨rfl, rfl, rfl, rfl, trivial⟩ [] rfl
  · rintro ⟨out1, x1⟩ _
    refine TC.seq ?_
    refine TC.region ?_
    refine TL.move rfl rfl (v := .int .i64 out1) rfl ?_
    refine TL.assign rfl rfl (v := .int .i64 out1) rfl ?_
    refine TL.done ?_
    exact TC.retF (Fin.body (fin1 (.inr rfl) rfl (.tmp rfl) [] rfl ⟨rfl, rfl⟩))

end Go.Proofs.Ytjjfoofjipafiaa.G

/- impl.digits, as a pure function. -/
set_option linter.unusedVariables false
namespace Go.Proofs.Ytjjfoofjipafiaa.G
open Go Go.Sx Go.Proofs

def impl_digits.b0 (n_1 : Int) : Int × (List Int) × Int → Option (LB (Int × (List Int) × Int)) := fun p => match p with | (x2, out1, i1) => (bif (decide (i1 ≥ 0)) then nz n_1 (chk i1 out1.length (some (.next ((w64 (Int.tdiv x2 n_1)), (out1.set i1.toNat (Int.tmod x2 n_1)), (w64 (i1 - 1)))))) else some (.brk (x2, out1, i1)))

def impl_digits.f (x1 : Int) (n_1 : Int) (many_1 : Int) : Option (List Int) := grd (decide (0 ≤ many_1)) (small many_1.toNat ((loop1 (impl_digits.b0 n_1) (x1, (List.replicate many_1.toNat (0 : Int)), (w64 (many_1 - 1)))).bind (fun p => match p with | (x2, out1, i1) => some out1)))

def impl_digits.R (r : List Int) (v : Value) (L : List Asn) : Prop := ∃ (s0 : SV), v = SV.v s0 ∧ L = [row Ei 2 s0 r]

set_option maxRecDepth 100000 in
set_option maxHeartbeats 4000000 in
theorem impl_digits.calls (w : World) (x1 : Int) (n_1 : Int) (many_1 : Int) :
    ∀ r, impl_digits.f x1 n_1 many_1 = some r → Calls Try.prog 69 #[.int .i64 x1, .int .i64 n_1, .int .i64 many_1] w (Ret w (impl_digits.R r)) := by

  refine calls_T (n := 27) (Γ := [(0, .int .i64 x1), (1, .int .i64 n_1), (2, .int .i64 many_1)]) (R := impl_digits.R) Try.func69 rfl rfl (Nat.le_of_ble_eq_true rfl) ⟨rfl, rfl, rfl, trivial⟩ ?_
  unfold impl_digits.f
  refine TC.seq ?_
  refine TC.region ?_
  refine TL.assign rfl rfl (v := SV.v ⟨none, 0, 0⟩) rfl ?_
  refine TL.done ?_
  refine TC.seq ?_
  refine TC.region ?_
  refine TL.move rfl rfl (v := .int .i64 many_1) rfl ?_
  refine TL.grd fun h2 => ?_
  refine TL.small fun h1 => ?_
  refine TL.mkslice Ei (0 : Int) many_1 Try.underlying22 (info_of Try.type2) (zv := (Try.t2.zero.getD (.bool false))) rfl rfl rfl (by simp [Ei, flat, Seg.cells]) (by decide) (by simpa using h2) (by omega) rfl rfl rfl rfl fun s1 => ?_
  refine TL.assign rfl rfl (v := SV.v s1) rfl ?_
  refine TL.done ?_
  refine TC.seq ?_
  refine TC.seq ?_
  refine TC.region ?_
  refine TL.move rfl rfl (v := .int .i64 many_1) rfl ?_
  refine TL.bin .i64 many_1 1 rfl rfl rfl rfl (v := .int .i64 (w64 (many_1 - 1))) rfl ?_
  refine TL.assign rfl rfl (v := .int .i64 (w64 (many_1 - 1))) rfl ?_
  refine TL.done ?_
  refine TC.loop1 (σ := Int × (List Int) × Int) (γ := Unit) (Γ' := (fun p q => match p, q with | (x2, out1, i1), _ => [(0, .int .i64 x2), (1, .int .i64 n_1), (7, SV.v s1), (8, .int .i64 i1)])) (L' := (fun p q => match p, q with | (x2, out1, i1), _ => [row Ei 2 s1 out1])) (Γb := (fun p q => match p, q with | (x2, out1, i1), _ => [(0, .int .i64 x2), (1, .int .i64 n_1), (7, SV.v s1), (8, .int .i64 i1)])) (Lb := (fun p q => match p, q with | (x2, out1, i1), _ => [row Ei 2 s1 out1])) ((x1, (List.replicate many_1.toNat (0 : Int)), (w64 (many_1 - 1)))) (()) ⟨rfl, rfl, rfl, rfl, trivial⟩ [0] rfl ?_ ?_
  · rintro ⟨x2, out1, i1⟩ _
    refine TC.seq ?_
    refine TC.seq ?_
    refine TC.region ?_
    refine TL.move rfl rfl (v := .int .i64 i1) rfl ?_
    refine TL.bin .i64 i1 0 rfl rfl rfl rfl (v := .bool (decide (i1 ≥ 0))) rfl ?_
    refine TL.done ?_
    refine TC.cond (b := (decide (i1 ≥ 0))) rfl (fun c1 => ?_) (fun c2 => ?_)
    · refine TC.skip ?_
      refine TC.seq ?_
      refine TC.block (NoEx.loop1 rfl) ?_
      refine TC.seq ?_
      refine TC.region ?_
      refine TL.move rfl rfl (v := SV.v s1) rfl ?_
      refine TL.move rfl rfl (v := .int .i64 i1) rfl ?_
      refine TL.move rfl rfl (v := .int .i64 x2) rfl ?_
      refine TL.move rfl rfl (v := .int .i64 n_1) rfl ?_
      refine TL.nz fun z1 => ?_
      refine TL.rem .i64 x2 n_1 z1 rfl rfl rfl rfl ?_
      refine TL.chk fun h3 => ?_
      refine TL.ixs i1 i1.toNat (Rd.row 0 rfl) h3 Try.underlying22 Try.sizeOf2 rfl rfl rfl rfl (by omega) ?_
      refine TL.stE 0 (i1.toNat) (Int.tmod x2 n_1) (v := .int .i64 (Int.tmod x2 n_1)) rfl Try.sizeOf2 rfl rfl rfl (by have h_ := h3; omega) (by simp only [show Ei.sz = 1 from rfl] <;> omega) rfl rfl rfl ?_
      refine TL.done ?_
      refine TC.region ?_
      refine TL.move rfl rfl (v := .int .i64 x2) rfl ?_
      refine TL.move rfl rfl (v := .int .i64 n_1) rfl ?_
      refine TL.quo .i64 x2 n_1 z1 rfl rfl rfl rfl ?_
      refine TL.assign rfl rfl (v := .int .i64 (w64 (Int.tdiv x2 n_1))) rfl ?_
      refine TL.done ?_
      refine TC.region ?_
      refine TL.move rfl rfl (v := .int .i64 i1) rfl ?_
      refine TL.bin .i64 i1 1 rfl rfl rfl rfl (v := .int .i64 (w64 (i1 - 1))) rfl ?_
      refine TL.assign rfl rfl (v := .int .i64 (w64 (i1 - 1))) rfl ?_
      refine TL.done ?_
      exact TC.next1 (((w64 (Int.tdiv x2 n_1)), (out1.set i1.toNat (Int.tmod x2 n_1)), (w64 (i1 - 1)))) (()) ⟨rfl, rfl, rfl, rfl, trivial⟩ [0] rfl
    · exact TC.brk1 ((x2, out1, i1)) (()) ⟨rfl, rfl, rfl, rfl, trivial⟩ [0] rfl
  · rintro ⟨x2, out1, i1⟩ _
    refine TC.seq ?_
    refine TC.region ?_
    refine TL.move rfl rfl (v := SV.v s1) rfl ?_
    refine TL.assign rfl rfl (v := SV.v s1) rfl ?_
    refine TL.done ?_
    exact TC.retF (Fin.body (fin1 (.inr rfl) rfl (.tmp rfl) [0] rfl ⟨s1, rfl, rfl⟩))

end Go.Proofs.Ytjjfoofjipafiaa.G

/- impl.rest, as a pure function. -/
set_option linter.unusedVariables false
namespace Go.Proofs.Ytjjfoofjipafiaa.G
open Go Go.Sx Go.Proofs

def impl_rest.f (n_1 : Int) (p1 : Int) : Option Int := nz p1 (some (Int.tmod (w64 ((Int.tmod n_1 p1) + p1)) p1))

def impl_rest.R (r : Int) (v : Value) (L : List Asn) : Prop := v = .int .i64 r ∧ L = []

set_option maxRecDepth 100000 in
set_option maxHeartbeats 4000000 in
theorem impl_rest.calls (w : World) (n_1 : Int) (p1 : Int) :
    ∀ r, impl_rest.f n_1 p1 = some r → Calls Try.prog 88 #[.int .i64 n_1, .int .i64 p1] w (Ret w (impl_rest.R r)) := by

  refine calls_T (n := 12) (Γ := [(0, .int .i64 n_1), (1, .int .i64 p1)]) (R := impl_rest.R) Try.func88 rfl rfl (Nat.le_of_ble_eq_true rfl) ⟨rfl, rfl, trivial⟩ ?_
  unfold impl_rest.f
  refine TC.seq ?_
  refine TC.region ?_
  refine TL.assign rfl rfl (v := .int .i64 0) rfl ?_
  refine TL.done ?_
  refine TC.seq ?_
  refine TC.region ?_
  refine TL.move rfl rfl (v := .int .i64 n_1) rfl ?_
  refine TL.move rfl rfl (v := .int .i64 p1) rfl ?_
  refine TL.nz fun z1 => ?_
  refine TL.rem .i64 n_1 p1 z1 rfl rfl rfl rfl ?_
  refine TL.move rfl rfl (v := .int .i64 p1) rfl ?_
  refine TL.bin .i64 (Int.tmod n_1 p1) p1 rfl rfl rfl rfl (v := .int .i64 (w64 ((Int.tmod n_1 p1) + p1))) rfl ?_
  refine TL.move rfl rfl (v := .int .i64 p1) rfl ?_
  refine TL.rem .i64 (w64 ((Int.tmod n_1 p1) + p1)) p1 z1 rfl rfl rfl rfl ?_
  refine TL.assign rfl rfl (v := .int .i64 (Int.tmod (w64 ((Int.tmod n_1 p1) + p1)) p1)) rfl ?_
  refine TL.done ?_
  exact TC.retF (Fin.body (fin1 (.inr rfl) rfl (.tmp rfl) [] rfl ⟨rfl, rfl⟩))

end Go.Proofs.Ytjjfoofjipafiaa.G

/- impl.tensor, as a pure function. -/
set_option linter.unusedVariables false
namespace Go.Proofs.Ytjjfoofjipafiaa.G
open Go Go.Sx Go.Proofs

def impl_tensor.b0 (r_1 : Int) (x2 : Int) (x3 : Int) (x4 : Int) (x5 : (List Int) → (List Int) → Option Int) (x1 : Int) : (List Int) × Int → Option (LB ((List Int) × Int)) := fun p => match p with | (y1, x6) => (bif (decide (x6 < r_1)) then (G.impl_digits.f x6 x2 (w64 (x3 + x4))).bind (fun r_4 => grd (decide (0 ≤ 0) && decide (0 ≤ x3) && decide (x3 ≤ (r_4.length : Int))) (grd (decide (0 ≤ x3) && decide (x3 ≤ (r_4.length : Int)) && decide ((r_4.length : Int) ≤ (r_4.length : Int))) ((x5 ((r_4.drop 0).take (x3.toNat - 0)) ((r_4.drop x3.toNat).take (r_4.length - x3.toNat))).bind (fun r_5 => (G.impl_rest.f r_5 x1).bind (fun r_6 => small (y1.length + ([r_6] : List Int).length) (some (.next ((y1 ++ ([r_6] : List Int)), (w64 (x6 + 1)))))))))) else some (.brk (y1, x6)))

def impl_tensor.f (x1 : Int) (x2 : Int) (x3 : Int) (x4 : Int) (x5 : (List Int) → (List Int) → Option Int) : Option (Int × Int × Int × Int × (List Int) × Int) := (G.impl_powerOf.f x2 (w64 (x3 + x4))).bind (fun r_1 => (G.impl_endsOk.f x3).bind (fun r_2 => (bif (!r_2) then some true else (G.impl_endsOk.f x4).bind (fun r_3 => some (!r_3))).bind (fun b_2 => (bif (b_2 || (decide (r_1 > 1296))) then some (0, 0, 0, 0, ([] : List Int), 3) else (loop1 (impl_tensor.b0 r_1 x2 x3 x4 x5 x1) (([] : List Int), 0)).bind (fun p => match p with | (y1, x6) => some (x1, x2, x3, x4, y1, 0))))))

def impl_tensor.R (r : Int × Int × Int × Int × (List Int) × Int) (v : Value) (L : List Asn) : Prop := ∃ (s0 : SV), v = .tuple #[sval [.one (.int .i64 r.1), .one (.int .i64 r.2.1), .one (.int .i64 r.2.2.1), .one (.int .i64 r.2.2.2.1), .one (SV.v s0)], .int .i64 r.2.2.2.2.2] ∧ L = [row Ei 2 s0 r.2.2.2.2.1]

set_option maxRecDepth 100000 in
set_option maxHeartbeats 4000000 in
theorem impl_tensor.calls (w : World) (x1 : Int) (x2 : Int) (x3 : Int) (x4 : Int) (f1 : Nat) (fst1 : List Value) (cap1 : List Value) (x5 : (List Int) → (List Int) → Option Int) (hc1 : ∀ (args_ : Array Value) (w_ : World), (callFunc f1 args_).run Try.prog w_ = .ok (.enter f1 args_) w_) (hf1 : ∀ w_, Hle (hp w) (hp w_) → ∀ (s1_ : SV) (x0_ : List Int) (s2_ : SV) (x1_ : List Int), Reads Ei (hp w_) s1_ x0_ → Reads Ei (hp w_) s2_ x1_ → ∀ r_, x5 x0_ x1_ = some r_ → Calls Try.prog f1 (fst1 ++ ([SV.v s1_, SV.v s2_] : List Value) ++ cap1).toArray w_ (Ret w_ (fun (v_ : Value) (L_ : List Asn) => v_ = .int .i64 r_ ∧ L_ = []))) :
    ∀ r, impl_tensor.f x1 x2 x3 x4 x5 = some r → Calls Try.prog 47 #[.int .i64 x1, .int .i64 x2, .int .i64 x3, .int .i64 x4, .func (.func f1) fst1.toArray cap1.toArray] w (Ret w (impl_tensor.R r)) := by

  refine calls_T (n := 66) (Γ := [(0, .int .i64 x1), (1, .int .i64 x2), (2, .int .i64 x3), (3, .int .i64 x4), (4, .func (.func f1) fst1.toArray cap1.toArray)]) (R := impl_tensor.R) Try.func47 rfl rfl (Nat.le_of_ble_eq_true rfl) ⟨rfl, rfl, rfl, rfl, rfl, trivial⟩ ?_
  unfold impl_tensor.f
  refine TC.seq ?_
  refine TC.region ?_
  refine TL.alloc [.one (.int .i64 0), .one (.int .i64 0), .one (.int .i64 0), .one (.int .i64 0), .one (SV.v ⟨none, 0, 0⟩)] rfl rfl Try.zeroValue24 rfl fun b_1 => ?_
  refine TL.assign rfl rfl (v := .int .i64 0) rfl ?_
  refine TL.done ?_
  refine TC.seq ?_
  refine TC.region ?_
  refine TL.move rfl rfl (v := .int .i64 x2) rfl ?_
  refine TL.move rfl rfl (v := .int .i64 x3) rfl ?_
  refine TL.move rfl rfl (v := .int .i64 x4) rfl ?_
  refine TL.bin .i64 x3 x4 rfl rfl rfl rfl (v := .int .i64 (w64 (x3 + x4))) rfl ?_
  refine TL.call (R := G.impl_powerOf.R) Try.call67 rfl rfl rfl (fun w hS => G.impl_powerOf.calls w x2 (w64 (x3 + x4))) ?_
  rintro r_1 _ _ ⟨rfl, rfl⟩
  refine TL.assign rfl rfl (v := .int .i64 r_1) rfl ?_
  refine TL.done ?_
  refine TC.seq ?_
  refine TC.seq ?_
  refine TC.region ?_
  refine TL.move rfl rfl (v := .int .i64 x3) rfl ?_
  refine TL.call (R := G.impl_endsOk.R) Try.call51 rfl rfl rfl (fun w hS => G.impl_endsOk.calls w x3) ?_
  rintro r_2 _ _ ⟨rfl, rfl⟩
  refine TL.not r_2 rfl rfl rfl ?_
  refine TL.move rfl rfl (v := .bool (!r_2)) rfl ?_
  refine TL.cutJ (σ := Bool) (γ := Unit) (Γ' := fun b_2 _ => [(28, .bool b_2), (0, .int .i64 x1), (1, .int .i64 x2), (2, .int .i64 x3), (3, .int .i64 x4), (4, .func (.func f1) fst1.toArray cap1.toArray), (10, bp b_1 0), (11, .int .i64 0), (16, .int .i64 x2), (17, .int .i64 x3), (18, .int .i64 x4), (19, .int .i64 (w64 (x3 + x4))), (20, .int .i64 r_1), (12, .int .i64 r_1), (21, .int .i64 x3), (22, .bool r_2), (23, .bool (!r_2)), (24, .bool (!r_2))]) (L' := fun _ _ => [box b_1 24 [.one (.int .i64 0), .one (.int .i64 0), .one (.int .i64 0), .one (.int .i64 0), .one (SV.v ⟨none, 0, 0⟩)]]) 4 ?_ ?_
  · refine TL.ifb (t := 24) (b := (!r_2)) rfl (fun c1 => ?_) (fun c2 => ?_)
    · refine TL.skip rfl rfl (by decide) ?_
      refine TL.skip rfl rfl (by decide) ?_
      refine TL.skip rfl rfl (by decide) ?_
      refine TL.pick rfl rfl (b := true) rfl (r := .bool true) rfl ?_
      refine TL.done ?_
      exact TC.nrm (true) () ⟨rfl, rfl, rfl, rfl, rfl, rfl, rfl, rfl, rfl, rfl, rfl, rfl, rfl, rfl, rfl, rfl, rfl, (by rw [c1]; rfl), trivial⟩ [0] (by kernel_rfl)
    · refine TL.move rfl rfl (v := .int .i64 x4) rfl ?_
      refine TL.call (R := G.impl_endsOk.R) Try.call51 rfl rfl rfl (fun w hS => G.impl_endsOk.calls w x4) ?_
      rintro r_3 _ _ ⟨rfl, rfl⟩
      refine TL.not r_3 rfl rfl rfl ?_
      refine TL.pick rfl rfl (b := false) rfl (r := .bool (!r_3)) rfl ?_
      refine TL.done ?_
      exact TC.nrm ((!r_3)) () ⟨rfl, rfl, rfl, rfl, rfl, rfl, rfl, rfl, rfl, rfl, rfl, rfl, rfl, rfl, rfl, rfl, rfl, (by rw [c2]; rfl), trivial⟩ [0] (by kernel_rfl)
  · rintro b_2 _
    refine TL.move rfl rfl (v := .bool b_2) rfl ?_
    refine TL.cutU 3 [(32, .bool (b_2 || (decide (r_1 > 1296)))), (0, .int .i64 x1), (1, .int .i64 x2), (2, .int .i64 x3), (3, .int .i64 x4), (4, .func (.func f1) fst1.toArray cap1.toArray), (10, bp b_1 0), (11, .int .i64 0), (16, .int .i64 x2), (17, .int .i64 x3), (18, .int .i64 x4), (19, .int .i64 (w64 (x3 + x4))), (20, .int .i64 r_1), (12, .int .i64 r_1), (21, .int .i64 x3), (22, .bool r_2), (23, .bool (!r_2)), (24, .bool (!r_2)), (28, .bool b_2), (29, .bool b_2)] [box b_1 24 [.one (.int .i64 0), .one (.int .i64 0), .one (.int .i64 0), .one (.int .i64 0), .one (SV.v ⟨none, 0, 0⟩)]] ?_ ?_
    · refine TL.cases (t := 29) (b := b_2) rfl (fun c3 => ?_) (fun c4 => ?_)
      · refine TL.skip rfl rfl (by decide) ?_
        refine TL.skip rfl rfl (by decide) ?_
        refine TL.pick rfl rfl (b := true) rfl (r := .bool true) rfl ?_
        refine TL.done ?_
        exact TC.nrm () () ⟨(by rw [c3]; rfl), rfl, rfl, rfl, rfl, rfl, rfl, rfl, rfl, rfl, rfl, rfl, rfl, rfl, rfl, rfl, rfl, rfl, rfl, (by rw [c3]; rfl), trivial⟩ [0] (by kernel_rfl)
      · refine TL.move rfl rfl (v := .int .i64 r_1) rfl ?_
        refine TL.bin .i64 r_1 1296 rfl rfl rfl rfl (v := .bool (decide (r_1 > 1296))) rfl ?_
        refine TL.pick rfl rfl (b := false) rfl (r := .bool (decide (r_1 > 1296))) rfl ?_
        refine TL.done ?_
        exact TC.nrm () () ⟨(by rw [c4]; rfl), rfl, rfl, rfl, rfl, rfl, rfl, rfl, rfl, rfl, rfl, rfl, rfl, rfl, rfl, rfl, rfl, rfl, rfl, (by rw [c4]; rfl), trivial⟩ [0] (by kernel_rfl)
    · refine TL.done ?_
      refine TC.cond (b := (b_2 || (decide (r_1 > 1296)))) rfl (fun c5 => ?_) (fun c6 => ?_)
      · refine TC.seq ?_
        refine TC.region ?_
        refine TL.buildS (segs0 := [.one (.int .i64 0), .one (.int .i64 0), .one (.int .i64 0), .one (.int .i64 0), .one (SV.v ⟨none, 0, 0⟩)]) (segs := [.one (.int .i64 0), .one (.int .i64 0), .one (.int .i64 0), .one (.int .i64 0), .one (SV.v ⟨none, 0, 0⟩)]) [1, 1, 1, 1, 1] Try.underlying24 ⟨Try.sizeOf2, Try.sizeOf2, Try.sizeOf2, Try.sizeOf2, Try.sizeOf22, trivial⟩ Try.zeroValue24 rfl [] rfl (fun pl hpl => by subst hpl; exact rfl) rfl rfl ?_
        refine TL.stM (news := [.one (.int .i64 0), .one (.int .i64 0), .one (.int .i64 0), .one (.int .i64 0), .one (SV.v ⟨none, 0, 0⟩)]) 0 0 5 rfl Try.sizeOf24 (ones_one rfl (ones_one rfl (ones_one rfl (ones_one rfl (ones_one rfl ones_nil))))) rfl rfl rfl rfl rfl rfl ?_
        refine TL.assign rfl rfl (v := .int .i64 3) rfl ?_
        refine TL.done ?_
        refine TC.nilrow Ei 2 ?_
        exact TC.retF (Fin.body (fin2 (.inr rfl) rfl (.cellN rfl (Src.box 1 rfl) Try.isAgg24 Try.sizeOf24 rfl) (.tmp rfl) [0] rfl ⟨⟨none, 0, 0⟩, rfl, rfl⟩))
      · refine TC.skip ?_
        refine TC.seq ?_
        refine TC.region ?_
        refine TL.move rfl rfl (v := .int .i64 x1) rfl ?_
        refine TL.move rfl rfl (v := .int .i64 x2) rfl ?_
        refine TL.move rfl rfl (v := .int .i64 x3) rfl ?_
        refine TL.move rfl rfl (v := .int .i64 x4) rfl ?_
        refine TL.buildS (segs0 := [.one (.int .i64 0), .one (.int .i64 0), .one (.int .i64 0), .one (.int .i64 0), .one (SV.v ⟨none, 0, 0⟩)]) (segs := [.one (.int .i64 x1), .one (.int .i64 x2), .one (.int .i64 x3), .one (.int .i64 x4), .one (SV.v ⟨none, 0, 0⟩)]) [1, 1, 1, 1, 1] Try.underlying24 ⟨Try.sizeOf2, Try.sizeOf2, Try.sizeOf2, Try.sizeOf2, Try.sizeOf22, trivial⟩ Try.zeroValue24 rfl [(0, .int .i64 x1), (1, .int .i64 x2), (2, .int .i64 x3), (3, .int .i64 x4)] rfl (fun pl hpl => by subst hpl; exact fill_one 0 rfl rfl rfl rfl (fill_one 1 rfl rfl rfl rfl (fill_one 2 rfl rfl rfl rfl (fill_one 3 rfl rfl rfl rfl (rfl))))) rfl rfl ?_
        refine TL.alloc [.one (.int .i64 0), .one (.int .i64 0), .one (.int .i64 0), .one (.int .i64 0), .one (SV.v ⟨none, 0, 0⟩)] rfl rfl Try.zeroValue24 rfl fun b_3 => ?_
        refine TL.stM (news := [.one (.int .i64 x1), .one (.int .i64 x2), .one (.int .i64 x3), .one (.int .i64 x4), .one (SV.v ⟨none, 0, 0⟩)]) 0 0 5 rfl Try.sizeOf24 (ones_one rfl (ones_one rfl (ones_one rfl (ones_one rfl (ones_one rfl ones_nil))))) rfl rfl rfl rfl rfl rfl ?_
        refine TL.done ?_
        refine TC.seq ?_
        refine TC.seq ?_
        refine TC.region ?_
        refine TL.move rfl rfl (v := .int .i64 r_1) rfl ?_
        refine TL.move rfl rfl (v := .int .i64 0) rfl ?_
        refine TL.done ?_
        refine TC.nilrow Ei 2 ?_
        refine TC.loop1 (σ := (List Int) × Int) (γ := SV) (Γ' := (fun p q => match p, q with | (y1, x6), s1 => [(0, .int .i64 x1), (1, .int .i64 x2), (2, .int .i64 x3), (3, .int .i64 x4), (4, .func (.func f1) fst1.toArray cap1.toArray), (10, bp b_1 0), (13, bp b_3 0), (39, .int .i64 r_1), (40, .int .i64 x6)])) (L' := (fun p q => match p, q with | (y1, x6), s1 => [box b_1 24 [.one (.int .i64 0), .one (.int .i64 0), .one (.int .i64 0), .one (.int .i64 0), .one (SV.v ⟨none, 0, 0⟩)], box b_3 24 [.one (.int .i64 x1), .one (.int .i64 x2), .one (.int .i64 x3), .one (.int .i64 x4), .one (SV.v s1)], row Ei 2 s1 y1])) (Γb := (fun p q => match p, q with | (y1, x6), s1 => [(0, .int .i64 x1), (1, .int .i64 x2), (2, .int .i64 x3), (3, .int .i64 x4), (4, .func (.func f1) fst1.toArray cap1.toArray), (10, bp b_1 0), (13, bp b_3 0), (39, .int .i64 r_1), (40, .int .i64 x6)])) (Lb := (fun p q => match p, q with | (y1, x6), s1 => [box b_1 24 [.one (.int .i64 0), .one (.int .i64 0), .one (.int .i64 0), .one (.int .i64 0), .one (SV.v ⟨none, 0, 0⟩)], box b_3 24 [.one (.int .i64 x1), .one (.int .i64 x2), .one (.int .i64 x3), .one (.int .i64 x4), .one (SV.v s1)], row Ei 2 s1 y1])) ((([] : List Int), 0)) (⟨none, 0, 0⟩) ⟨rfl, rfl, rfl, rfl, rfl, rfl, rfl, rfl, rfl, trivial⟩ [2, 1, 0] rfl ?_ ?_
        · rintro ⟨y1, x6⟩ s1
          refine TC.seq ?_
          refine TC.region ?_
          refine TL.bin .i64 x6 r_1 rfl rfl rfl rfl (v := .bool (decide (x6 < r_1))) rfl ?_
          refine TL.done ?_
          refine TC.seq ?_
          refine TC.cond (b := (decide (x6 < r_1))) rfl (fun c7 => ?_) (fun c8 => ?_)
          · refine TC.skip ?_
            refine TC.seq ?_
            refine TC.block (NoEx.loop1 rfl) ?_
            refine TC.seq ?_
            refine TC.region ?_
            refine TL.move rfl rfl (v := .int .i64 x6) rfl ?_
            refine TL.assign rfl rfl (v := .int .i64 x6) rfl ?_
            refine TL.done ?_
            refine TC.seq ?_
            refine TC.region ?_
            refine TL.move rfl rfl (v := .int .i64 x6) rfl ?_
            refine TL.move rfl rfl (v := .int .i64 x2) rfl ?_
            refine TL.move rfl rfl (v := .int .i64 x3) rfl ?_
            refine TL.move rfl rfl (v := .int .i64 x4) rfl ?_
            refine TL.bin .i64 x3 x4 rfl rfl rfl rfl (v := .int .i64 (w64 (x3 + x4))) rfl ?_
            refine TL.call (R := G.impl_digits.R) Try.call69 rfl rfl rfl (fun w hS => G.impl_digits.calls w x6 x2 (w64 (x3 + x4))) ?_
            rintro r_4 _ _ ⟨s2, rfl, rfl⟩
            refine TL.assign rfl rfl (v := SV.v s2) rfl ?_
            refine TL.done ?_
            refine TC.wk (Γ' := [(0, .int .i64 x1), (1, .int .i64 x2), (2, .int .i64 x3), (3, .int .i64 x4), (4, .func (.func f1) fst1.toArray cap1.toArray), (10, bp b_1 0), (13, bp b_3 0), (39, .int .i64 r_1), (40, .int .i64 x6), (41, .bool (decide (x6 < r_1))), (42, .int .i64 x6), (14, .int .i64 x6), (43, .int .i64 x6), (44, .int .i64 x2), (45, .int .i64 x3), (46, .int .i64 x4), (47, .int .i64 (w64 (x3 + x4))), (48, SV.v s2), (15, SV.v s2)]) ⟨rfl, rfl, rfl, rfl, rfl, rfl, rfl, rfl, rfl, rfl, rfl, rfl, rfl, rfl, rfl, rfl, rfl, rfl, rfl, trivial⟩ ?_
            refine TC.grd fun h1 => ?_
            refine TC.grd fun h2 => ?_
            refine TC.bindE ?_
            rintro r_5 hr1
            refine TC.bindE ?_
            rintro r_6 hr2
            refine TC.small fun h3 => ?_
            refine TC.drawG [(0, .int .i64 x1), (1, .int .i64 x2), (2, .int .i64 x3), (3, .int .i64 x4), (4, .func (.func f1) fst1.toArray cap1.toArray), (10, bp b_1 0), (13, bp b_3 0), (39, .int .i64 r_1), (40, .int .i64 x6), (41, .bool (decide (x6 < r_1))), (42, .int .i64 x6), (14, .int .i64 x6), (43, .int .i64 x6), (44, .int .i64 x2), (45, .int .i64 x3), (46, .int .i64 x4), (47, .int .i64 (w64 (x3 + x4))), (48, SV.v s2), (15, SV.v s2)] [] ⟨rfl, rfl, rfl, rfl, rfl, rfl, rfl, rfl, rfl, rfl, rfl, rfl, rfl, rfl, rfl, rfl, rfl, rfl, rfl, trivial⟩ trivial (fun l_ g1 => [row Ei 2 s2 r_4, box b_1 24 [.one (.int .i64 0), .one (.int .i64 0), .one (.int .i64 0), .one (.int .i64 0), .one (SV.v ⟨none, 0, 0⟩)], (bif nb l_ 15 then box b_3 24 [.one (.int .i64 x1), .one (.int .i64 x2), .one (.int .i64 x3), .one (.int .i64 x4), .one (SV.v (gs (g1 104)))] else box b_3 24 [.one (.int .i64 x1), .one (.int .i64 x2), .one (.int .i64 x3), .one (.int .i64 x4), .one (SV.v s1)]), (bif nb l_ 13 then row Ei 2 (gs (g1 104)) (y1 ++ ([r_6] : List Int)) else row Ei 2 s1 y1), (bif nb l_ 12 then row Ei 2 (gs (g1 96)) ([r_6] : List Int) else emp)]) (fun g1 => [bp b_3 4, SV.v s1, .func (.func f1) fst1.toArray cap1.toArray, SV.v s2, .int .i64 x3, SV.v (SV.cut s2 0 x3.toNat s2.c Ei.sz), SV.v s2, .int .i64 x3, SV.v (SV.cut s2 x3.toNat r_4.length s2.c Ei.sz), .int .i64 r_5, .int .i64 x1, .int .i64 r_6, SV.v (gs (g1 96)), SV.v (gs (g1 104)), bp b_3 4, undef]) [[], [0], [], [], [], [3, 4], [], [], [6, 7], [2, 3, 4, 5, 6, 7, 8], [], [2, 3, 4, 5, 6, 7, 8, 9, 10], [2, 3, 4, 5, 6, 7, 8, 9, 10, 11], [0, 1, 2, 3, 4, 5, 6, 7, 8, 9, 10, 11, 12], [0, 1, 2, 3, 4, 5, 6, 7, 8, 9, 10, 11, 12, 13], [0, 1, 2, 3, 4, 5, 6, 7, 8, 9, 10, 11, 12, 13, 14]] [[some false, some false, none, none, none, none, none, none, none, none, none, none, none, some false, some false, some false], [some true, some false, none, none, none, none, none, none, none, none, none, none, none, some false, some false, some false], [none, none, some false, none, none, none, none, none, none, some false, none, some false, some false, some false, some false, some false], [none, none, none, some false, none, some false, none, none, none, some false, none, some false, some false, some false, some false, some false], [none, none, none, none, some false, some false, none, none, none, some false, none, some false, some false, some false, some false, some false], [none, none, none, some true, some true, some false, none, none, none, some false, none, some false, some false, some false, some false, some false], [none, none, none, none, none, none, some false, none, some false, some false, none, some false, some false, some false, some false, some false], [none, none, none, none, none, none, none, some false, some false, some false, none, some false, some false, some false, some false, some false], [none, none, none, none, none, none, some true, some true, some false, some false, none, some false, some false, some false, some false, some false], [none, none, some true, some true, some true, some true, some true, some true, some true, some false, none, some false, some false, some false, some false, some false], [none, none, none, none, none, none, none, none, none, none, some false, some false, some false, some false, some false, some false], [none, none, some true, some true, some true, some true, some true, some true, some true, some true, some true, some false, some false, some false, some false, some false], [none, none, some true, some true, some true, some true, some true, some true, some true, some true, some true, some true, some false, some false, some false, some false], [some true, some true, some true, some true, some true, some true, some true, some true, some true, some true, some true, some true, some true, some false, some false, some false], [some true, some true, some true, some true, some true, some true, some true, some true, some true, some true, some true, some true, some true, some true, some false, some false], [some true, some true, some true, some true, some true, some true, some true, some true, some true, some true, some true, some true, some true, some true, some true, some false]] (by kernel_rfl) (fun _ => rfl) rfl rfl rfl rfl rfl (fun _ _ => ⟨⟨⟨⟨⟨⟨⟨⟨⟨⟨⟨⟨⟨⟨⟨⟨trivial, rfl⟩, rfl⟩, rfl⟩, rfl⟩, rfl⟩, rfl⟩, rfl⟩, rfl⟩, rfl⟩, rfl⟩, rfl⟩, rfl⟩, rfl⟩, rfl⟩, rfl⟩, rfl⟩) 1 [1, 1, 1, 1, 0] (fun _ => by kernel_rfl) ?_ ?_
            · refine ⟨rfl, ?_, rfl, ?_, rfl, ?_, rfl, ?_, rfl, ?_, rfl, ?_, rfl, ?_, rfl, ?_, rfl, ?_, rfl, ?_, rfl, ?_, rfl, ?_, rfl, ?_, rfl, ?_, rfl, ?_, rfl, ?_, trivial⟩
              · intro b2_ b3_ b4_ b5_ b6_ b7_ b8_ b9_ b10_ b11_ b12_ g1
                refine TL.asL [row Ei 2 s2 r_4, box b_1 24 [.one (.int .i64 0), .one (.int .i64 0), .one (.int .i64 0), .one (.int .i64 0), .one (SV.v ⟨none, 0, 0⟩)], box b_3 24 [.one (.int .i64 x1), .one (.int .i64 x2), .one (.int .i64 x3), .one (.int .i64 x4), .one (SV.v s1)], row Ei 2 s1 y1, (bif b12_ then row Ei 2 (gs (g1 96)) ([r_6] : List Int) else emp)] (by kernel_rfl) ?_
                refine TL.fa Try.underlying24 rfl Try.sizeOf22 rfl 4 rfl rfl rfl rfl ?_
                refine TL.done ?_
                exact TC.nrm () [] ⟨rfl, trivial⟩ [0, 0, 0, 0, 0] (by kernel_rfl)
              · intro b2_ b3_ b4_ b5_ b6_ b7_ b8_ b9_ b10_ b11_ b12_ g1
                refine TL.asL [row Ei 2 s2 r_4, box b_1 24 [.one (.int .i64 0), .one (.int .i64 0), .one (.int .i64 0), .one (.int .i64 0), .one (SV.v ⟨none, 0, 0⟩)], box b_3 24 [.one (.int .i64 x1), .one (.int .i64 x2), .one (.int .i64 x3), .one (.int .i64 x4), .one (SV.v s1)], row Ei 2 s1 y1, (bif b12_ then row Ei 2 (gs (g1 96)) ([r_6] : List Int) else emp)] (by kernel_rfl) ?_
                refine TL.load1 4 (Src.box 2 rfl) Try.isAgg22 rfl rfl rfl rfl rfl ?_
                refine TL.done ?_
                exact TC.nrm () [] ⟨rfl, trivial⟩ [0, 0, 0, 0, 0] (by kernel_rfl)
              · intro b0_ b1_ b3_ b4_ b5_ b6_ b7_ b8_ b10_ g1
                refine TL.move rfl rfl (v := .func (.func f1) fst1.toArray cap1.toArray) rfl ?_
                refine TL.done ?_
                exact TC.nrm () [] ⟨rfl, trivial⟩ [0, 0, 0, 0, 0] (by kernel_rfl)
              · intro b0_ b1_ b2_ b4_ b6_ b7_ b8_ b10_ g1
                refine TL.move rfl rfl (v := SV.v s2) rfl ?_
                refine TL.done ?_
                exact TC.nrm () [] ⟨rfl, trivial⟩ [0, 0, 0, 0, 0] (by kernel_rfl)
              · intro b0_ b1_ b2_ b3_ b6_ b7_ b8_ b10_ g1
                refine TL.move rfl rfl (v := .int .i64 x3) rfl ?_
                refine TL.done ?_
                exact TC.nrm () [] ⟨rfl, trivial⟩ [0, 0, 0, 0, 0] (by kernel_rfl)
              · intro b0_ b1_ b2_ b6_ b7_ b8_ b10_ g1
                refine TL.asL [row Ei 2 s2 r_4, box b_1 24 [.one (.int .i64 0), .one (.int .i64 0), .one (.int .i64 0), .one (.int .i64 0), .one (SV.v ⟨none, 0, 0⟩)], box b_3 24 [.one (.int .i64 x1), .one (.int .i64 x2), .one (.int .i64 x3), .one (.int .i64 x4), .one (SV.v s1)], row Ei 2 s1 y1, emp] (by kernel_rfl) ?_
                refine TL.slice (li := none) (hi' := (some x3)) (l := 0) (h := x3.toNat) (Rd.row 0 rfl) Try.underlying22 Try.sizeOf2 rfl rfl (by have h_ := h1; simp only [Bool.and_eq_true, decide_eq_true_eq] at h_; first | rfl | omega | (simp only [Option.getD_none, Option.getD_some]; omega)) (by have h_ := h1; simp only [Bool.and_eq_true, decide_eq_true_eq] at h_; first | rfl | omega | (simp only [Option.getD_none, Option.getD_some]; omega)) (by have h_ := h1; simp only [Bool.and_eq_true, decide_eq_true_eq] at h_; omega) (by have h_ := h1; simp only [Bool.and_eq_true, decide_eq_true_eq] at h_; omega) rfl rfl rfl ?_
                refine TL.done ?_
                exact TC.nrm () [] ⟨rfl, trivial⟩ [0, 0, 0, 0, 0] (by kernel_rfl)
              · intro b0_ b1_ b2_ b3_ b4_ b5_ b7_ b10_ g1
                refine TL.move rfl rfl (v := SV.v s2) rfl ?_
                refine TL.done ?_
                exact TC.nrm () [] ⟨rfl, trivial⟩ [0, 0, 0, 0, 0] (by kernel_rfl)
              · intro b0_ b1_ b2_ b3_ b4_ b5_ b6_ b10_ g1
                refine TL.move rfl rfl (v := .int .i64 x3) rfl ?_
                refine TL.done ?_
                exact TC.nrm () [] ⟨rfl, trivial⟩ [0, 0, 0, 0, 0] (by kernel_rfl)
              · intro b0_ b1_ b2_ b3_ b4_ b5_ b10_ g1
                refine TL.asL [row Ei 2 s2 r_4, box b_1 24 [.one (.int .i64 0), .one (.int .i64 0), .one (.int .i64 0), .one (.int .i64 0), .one (SV.v ⟨none, 0, 0⟩)], box b_3 24 [.one (.int .i64 x1), .one (.int .i64 x2), .one (.int .i64 x3), .one (.int .i64 x4), .one (SV.v s1)], row Ei 2 s1 y1, emp] (by kernel_rfl) ?_
                refine TL.slice (li := (some x3)) (hi' := none) (l := x3.toNat) (h := r_4.length) (Rd.row 0 rfl) Try.underlying22 Try.sizeOf2 rfl rfl (by have h_ := h2; simp only [Bool.and_eq_true, decide_eq_true_eq] at h_; first | rfl | omega | (simp only [Option.getD_none, Option.getD_some]; omega)) (by have h_ := h2; simp only [Bool.and_eq_true, decide_eq_true_eq] at h_; first | rfl | omega | (simp only [Option.getD_none, Option.getD_some]; omega)) (by have h_ := h2; simp only [Bool.and_eq_true, decide_eq_true_eq] at h_; omega) (by have h_ := h2; simp only [Bool.and_eq_true, decide_eq_true_eq] at h_; omega) rfl rfl rfl ?_
                refine TL.done ?_
                exact TC.nrm () [] ⟨rfl, trivial⟩ [0, 0, 0, 0, 0] (by kernel_rfl)
              · intro b0_ b1_ b10_ g1
                refine TL.asL [row Ei 2 s2 r_4, box b_1 24 [.one (.int .i64 0), .one (.int .i64 0), .one (.int .i64 0), .one (.int .i64 0), .one (SV.v ⟨none, 0, 0⟩)], box b_3 24 [.one (.int .i64 x1), .one (.int .i64 x2), .one (.int .i64 x3), .one (.int .i64 x4), .one (SV.v s1)], row Ei 2 s1 y1, emp] (by kernel_rfl) ?_
                refine TL.callvH (R := (fun r_ => (fun (v_ : Value) (L_ : List Asn) => v_ = .int .i64 r_ ∧ L_ = []))) hr1 (vs := [SV.v (SV.cut s2 0 x3.toNat s2.c Ei.sz), SV.v (SV.cut s2 x3.toNat r_4.length s2.c Ei.sz)]) hc1 rfl rfl rfl rfl (fun w hS => hf1 w hS.iw (SV.cut s2 0 x3.toNat s2.c Ei.sz) ((r_4.drop 0).take (x3.toNat - 0)) (SV.cut s2 x3.toNat r_4.length s2.c Ei.sz) ((r_4.drop x3.toNat).take (r_4.length - x3.toNat)) ((Rd.cut (Rd.row 0 rfl) (by have h_ := h1; simp only [Bool.and_eq_true, decide_eq_true_eq] at h_; omega) (by have h_ := h1; simp only [Bool.and_eq_true, decide_eq_true_eq] at h_; omega)) w hS) ((Rd.cut (Rd.row 0 rfl) (by have h_ := h2; simp only [Bool.and_eq_true, decide_eq_true_eq] at h_; omega) (by have h_ := h2; simp only [Bool.and_eq_true, decide_eq_true_eq] at h_; omega)) w hS)) ?_
                rintro _ _ ⟨rfl, rfl⟩
                refine TL.done ?_
                exact TC.nrm () [] ⟨rfl, trivial⟩ [0, 0, 0, 0, 0] (by kernel_rfl)
              · intro b0_ b1_ b2_ b3_ b4_ b5_ b6_ b7_ b8_ b9_ g1
                refine TL.move rfl rfl (v := .int .i64 x1) rfl ?_
                refine TL.done ?_
                exact TC.nrm () [] ⟨rfl, trivial⟩ [0, 0, 0, 0, 0] (by kernel_rfl)
              · intro b0_ b1_ g1
                refine TL.asL [row Ei 2 s2 r_4, box b_1 24 [.one (.int .i64 0), .one (.int .i64 0), .one (.int .i64 0), .one (.int .i64 0), .one (SV.v ⟨none, 0, 0⟩)], box b_3 24 [.one (.int .i64 x1), .one (.int .i64 x2), .one (.int .i64 x3), .one (.int .i64 x4), .one (SV.v s1)], row Ei 2 s1 y1, emp] (by kernel_rfl) ?_
                refine TL.callH (R := G.impl_rest.R) hr2 Try.call88 rfl rfl rfl (fun w hS => G.impl_rest.calls w r_5 x1) ?_
                rintro _ _ ⟨rfl, rfl⟩
                refine TL.done ?_
                exact TC.nrm () [] ⟨rfl, trivial⟩ [0, 0, 0, 0, 0] (by kernel_rfl)
              · intro b0_ b1_ g1
                refine TL.asL [row Ei 2 s2 r_4, box b_1 24 [.one (.int .i64 0), .one (.int .i64 0), .one (.int .i64 0), .one (.int .i64 0), .one (SV.v ⟨none, 0, 0⟩)], box b_3 24 [.one (.int .i64 x1), .one (.int .i64 x2), .one (.int .i64 x3), .one (.int .i64 x4), .one (SV.v s1)], row Ei 2 s1 y1, emp] (by kernel_rfl) ?_
                refine TL.blit Ei ([r_6] : List Int) Try.underlying22 Try.sizeOf2 Try.zeroValue2 rfl rfl rfl [(0, .int .i64 r_6)] rfl ⟨rfl, rfl, trivial⟩ rfl rfl fun s3 => ?_
                refine TL.done ?_
                exact TC.nrm () [[s3]] ⟨rfl, trivial⟩ [1, 1, 1, 1, 0] (by kernel_rfl)
              · intro g1
                refine TL.asL [row Ei 2 s2 r_4, box b_1 24 [.one (.int .i64 0), .one (.int .i64 0), .one (.int .i64 0), .one (.int .i64 0), .one (SV.v ⟨none, 0, 0⟩)], box b_3 24 [.one (.int .i64 x1), .one (.int .i64 x2), .one (.int .i64 x3), .one (.int .i64 x4), .one (SV.v s1)], row Ei 2 s1 y1, row Ei 2 (gs (g1 96)) ([r_6] : List Int)] (by kernel_rfl) ?_
                refine TL.append 3 rfl (Rd.row 4 rfl) Try.underlying22 (info_of Try.type2) (zv := (Try.t2.zero.getD (.bool false))) rfl rfl rfl (by decide) h3 rfl rfl rfl rfl fun s4 => ?_
                refine TL.done ?_
                exact TC.nrm () [[s4]] ⟨rfl, trivial⟩ [0, 0, 0, 0, 0] (by kernel_rfl)
              · intro g1
                refine TL.asL [row Ei 2 s2 r_4, box b_1 24 [.one (.int .i64 0), .one (.int .i64 0), .one (.int .i64 0), .one (.int .i64 0), .one (SV.v ⟨none, 0, 0⟩)], box b_3 24 [.one (.int .i64 x1), .one (.int .i64 x2), .one (.int .i64 x3), .one (.int .i64 x4), .one (SV.v s1)], row Ei 2 (gs (g1 104)) (y1 ++ ([r_6] : List Int)), row Ei 2 (gs (g1 96)) ([r_6] : List Int)] (by kernel_rfl) ?_
                refine TL.fa Try.underlying24 rfl Try.sizeOf22 rfl 4 rfl rfl rfl rfl ?_
                refine TL.done ?_
                exact TC.nrm () [] ⟨rfl, trivial⟩ [0, 0, 0, 0, 0] (by kernel_rfl)
              · intro g1
                refine TL.asL [row Ei 2 s2 r_4, box b_1 24 [.one (.int .i64 0), .one (.int .i64 0), .one (.int .i64 0), .one (.int .i64 0), .one (SV.v ⟨none, 0, 0⟩)], box b_3 24 [.one (.int .i64 x1), .one (.int .i64 x2), .one (.int .i64 x3), .one (.int .i64 x4), .one (SV.v s1)], row Ei 2 (gs (g1 104)) (y1 ++ ([r_6] : List Int)), row Ei 2 (gs (g1 96)) ([r_6] : List Int)] (by kernel_rfl) ?_
                refine TL.st1 2 4 rfl Try.sizeOf22 rfl rfl rfl rfl rfl rfl rfl ?_
                refine TL.done ?_
                exact TC.nrm () [] trivial [0, 0, 0, 0, 0] (by kernel_rfl)
            · intro g1
              refine TC.asL [row Ei 2 s2 r_4, box b_1 24 [.one (.int .i64 0), .one (.int .i64 0), .one (.int .i64 0), .one (.int .i64 0), .one (SV.v ⟨none, 0, 0⟩)], box b_3 24 [.one (.int .i64 x1), .one (.int .i64 x2), .one (.int .i64 x3), .one (.int .i64 x4), .one (SV.v (gs (g1 104)))], row Ei 2 (gs (g1 104)) (y1 ++ ([r_6] : List Int)), row Ei 2 (gs (g1 96)) ([r_6] : List Int)] (by kernel_rfl) ?_
              refine TC.region ?_
              refine TL.bin .i64 x6 1 rfl rfl rfl rfl (v := .int .i64 (w64 (x6 + 1))) rfl ?_
              refine TL.move rfl rfl (v := .int .i64 (w64 (x6 + 1))) rfl ?_
              refine TL.done ?_
              exact TC.next1 (((y1 ++ ([r_6] : List Int)), (w64 (x6 + 1)))) ((gs (g1 104))) ⟨rfl, rfl, rfl, rfl, rfl, rfl, rfl, rfl, rfl, trivial⟩ [1, 1, 1] rfl
          · exact TC.brk1 ((y1, x6)) (s1) ⟨rfl, rfl, rfl, rfl, rfl, rfl, rfl, rfl, rfl, trivial⟩ [0, 0, 0] rfl
        · rintro ⟨y1, x6⟩ s1
          refine TC.seq ?_
          refine TC.region ?_
          refine TL.loadM 0 5 (Src.box 1 rfl) Try.isAgg24 Try.sizeOf24 (mid := [.one (.int .i64 x1), .one (.int .i64 x2), .one (.int .i64 x3), .one (.int .i64 x4), .one (SV.v s1)]) rfl rfl rfl rfl rfl rfl ?_
          refine TL.stM (news := [.one (.int .i64 x1), .one (.int .i64 x2), .one (.int .i64 x3), .one (.int .i64 x4), .one (SV.v s1)]) 0 0 5 rfl Try.sizeOf24 (ones_one rfl (ones_one rfl (ones_one rfl (ones_one rfl (ones_one rfl ones_nil))))) rfl rfl rfl rfl rfl rfl ?_
          refine TL.assign rfl rfl (v := .int .i64 0) rfl ?_
          refine TL.done ?_
          exact TC.retF (Fin.body (fin2 (.inr rfl) rfl (.cellN rfl (Src.box 0 rfl) Try.isAgg24 Try.sizeOf24 rfl) (.tmp rfl) [2] rfl ⟨s1, rfl, rfl⟩))

end Go.Proofs.Ytjjfoofjipafiaa.G

/- slices.Index[[]int64,int64], as a pure function. -/
set_option linter.unusedVariables false
namespace Go.Proofs.Ytjjfoofjipafiaa.G
open Go Go.Sx Go.Proofs

def slices_Index_int64_int64.b0 (s1 : List Int) (v_1 : Int) : Int → Option (LR Int Int) := fun x1 => (bif (decide (x1 < (s1.length : Int))) then chk x1 s1.length ((bif (v_1 == (gt s1 x1)) then some (.ret (x1)) else some (.next (w64 (x1 + 1))))) else some (.brk x1))

def slices_Index_int64_int64.f (s1 : List Int) (v_1 : Int) : Option Int := (loop (slices_Index_int64_int64.b0 s1 v_1) 0).bind (ln (fun x1 => some (-1)))

def slices_Index_int64_int64.R (r : Int) (v : Value) (L : List Asn) : Prop := v = .int .i64 r ∧ L = []

set_option maxRecDepth 100000 in
set_option maxHeartbeats 4000000 in
theorem slices_Index_int64_int64.calls (w : World) (s2 : SV) (s1 : List Int) (v_1 : Int) (h1 : Reads Ei (hp w) s2 s1) :
    ∀ r, slices_Index_int64_int64.f s1 v_1 = some r → Calls Try.prog 112 #[SV.v s2, .int .i64 v_1] w (Ret w (slices_Index_int64_int64.R r)) := by

  refine calls_T (n := 19) (Γ := [(0, SV.v s2), (1, .int .i64 v_1)]) (R := slices_Index_int64_int64.R) Try.func112 rfl rfl (Nat.le_of_ble_eq_true rfl) ⟨rfl, rfl, trivial⟩ ?_
  unfold slices_Index_int64_int64.f
  refine TC.seq ?_
  refine TC.region ?_
  refine TL.assign rfl rfl (v := .int .i64 0) rfl ?_
  refine TL.done ?_
  refine TC.seq ?_
  refine TC.seq ?_
  refine TC.region ?_
  refine TL.move rfl rfl (v := SV.v s2) rfl ?_
  refine TL.len (Rd.old h1) Try.underlying22 rfl rfl rfl ?_
  refine TL.move rfl rfl (v := .int .i64 0) rfl ?_
  refine TL.done ?_
  refine TC.loopK (σ := Int) (γ := Unit) (Γ' := (fun x1 _ => [(0, SV.v s2), (1, .int .i64 v_1), (7, .int .i64 (s1.length : Int)), (8, .int .i64 x1)])) (L' := (fun x1 _ => [])) (Γb := (fun x1 _ => [(0, SV.v s2), (1, .int .i64 v_1), (7, .int .i64 (s1.length : Int)), (8, .int .i64 x1)])) (Lb := (fun x1 _ => [])) (0) (()) ⟨rfl, rfl, rfl, rfl, trivial⟩ [] rfl ?_ ?_
  · rintro x1 _
    refine TC.seq ?_
    refine TC.region ?_
    refine TL.bin .i64 x1 (s1.length : Int) rfl rfl rfl rfl (v := .bool (decide (x1 < (s1.length : Int)))) rfl ?_
    refine TL.done ?_
    refine TC.seq ?_
    refine TC.cond (b := (decide (x1 < (s1.length : Int)))) rfl (fun c1 => ?_) (fun c2 => ?_)
    · refine TC.skip ?_
      refine TC.seq ?_
      refine TC.block (NoEx.loop rfl NoEx.body) ?_
      refine TC.seq ?_
      refine TC.region ?_
      refine TL.move rfl rfl (v := .int .i64 x1) rfl ?_
      refine TL.assign rfl rfl (v := .int .i64 x1) rfl ?_
      refine TL.done ?_
      refine TC.seq ?_
      refine TC.region ?_
      refine TL.move rfl rfl (v := .int .i64 v_1) rfl ?_
      refine TL.move rfl rfl (v := SV.v s2) rfl ?_
      refine TL.move rfl rfl (v := .int .i64 x1) rfl ?_
      refine TL.chk fun h2 => ?_
      refine TL.ixs x1 x1.toNat (Rd.old h1) h2 Try.underlying22 Try.sizeOf2 rfl rfl rfl rfl (by omega) ?_
      refine TL.loadE (Rd.old h1) Try.isAgg2 x1.toNat 0 (gt_spec h2) (v := .int .i64 (gt s1 x1)) rfl (by simp only [show Ei.sz = 1 from rfl] <;> omega) rfl rfl rfl ?_
      refine TL.bin .i64 v_1 (gt s1 x1) rfl rfl rfl rfl (v := .bool (v_1 == (gt s1 x1))) rfl ?_
      refine TL.done ?_
      refine TC.cond (b := (v_1 == (gt s1 x1))) rfl (fun c3 => ?_) (fun c4 => ?_)
      · refine TC.seq ?_
        refine TC.region ?_
        refine TL.move rfl rfl (v := .int .i64 x1) rfl ?_
        refine TL.assign rfl rfl (v := .int .i64 x1) rfl ?_
        refine TL.done ?_
        exact TC.retF (Fin.loop Far.ret (Fin.body (fin1 (.inr rfl) rfl (.tmp rfl) [] rfl ⟨rfl, rfl⟩)))
      · refine TC.skip ?_
        refine TC.region ?_
        refine TL.bin .i64 x1 1 rfl rfl rfl rfl (v := .int .i64 (w64 (x1 + 1))) rfl ?_
        refine TL.move rfl rfl (v := .int .i64 (w64 (x1 + 1))) rfl ?_
        refine TL.done ?_
        exact TC.next ((w64 (x1 + 1))) (()) ⟨rfl, rfl, rfl, rfl, trivial⟩ [] rfl
    · exact TC.brk (x1) (()) ⟨rfl, rfl, rfl, rfl, trivial⟩ [] rfl
  · rintro x1 _
    refine TC.seq ?_
    refine TC.region ?_
    refine TL.assign rfl rfl (v := .int .i64 (-1)) rfl ?_
    refine TL.done ?_
    exact TC.retF (Fin.body (fin1 (.inr rfl) rfl (.tmp rfl) [] rfl ⟨rfl, rfl⟩))

end Go.Proofs.Ytjjfoofjipafiaa.G

/- slices.Contains[[]int64,int64], as a pure function. -/
set_option linter.unusedVariables false
namespace Go.Proofs.Ytjjfoofjipafiaa.G
open Go Go.Sx Go.Proofs

def slices_Contains_int64_int64.f (s1 : List Int) (v_1 : Int) : Option Bool := (G.slices_Index_int64_int64.f s1 v_1).bind (fun r_1 => some (decide (r_1 ≥ 0)))

def slices_Contains_int64_int64.R (r : Bool) (v : Value) (L : List Asn) : Prop := v = .bool r ∧ L = []

set_option maxRecDepth 100000 in
set_option maxHeartbeats 4000000 in
theorem slices_Contains_int64_int64.calls (w : World) (s2 : SV) (s1 : List Int) (v_1 : Int) (h1 : Reads Ei (hp w) s2 s1) :
    ∀ r, slices_Contains_int64_int64.f s1 v_1 = some r → Calls Try.prog 97 #[SV.v s2, .int .i64 v_1] w (Ret w (slices_Contains_int64_int64.R r)) := by

  refine calls_T (n := 9) (Γ := [(0, SV.v s2), (1, .int .i64 v_1)]) (R := slices_Contains_int64_int64.R) Try.func97 rfl rfl (Nat.le_of_ble_eq_true rfl) ⟨rfl, rfl, trivial⟩ ?_
  unfold slices_Contains_int64_int64.f
  refine TC.seq ?_
  refine TC.region ?_
  refine TL.assign rfl rfl (v := .bool false) rfl ?_
  refine TL.done ?_
  refine TC.seq ?_
  refine TC.region ?_
  refine TL.move rfl rfl (v := SV.v s2) rfl ?_
  refine TL.move rfl rfl (v := .int .i64 v_1) rfl ?_
  refine TL.call (R := G.slices_Index_int64_int64.R) Try.call112 rfl rfl rfl (fun w hS => G.slices_Index_int64_int64.calls w s2 s1 v_1 ((Rd.old h1) w hS)) ?_
  rintro r_1 _ _ ⟨rfl, rfl⟩
  refine TL.bin .i64 r_1 0 rfl rfl rfl rfl (v := .bool (decide (r_1 ≥ 0))) rfl ?_
  refine TL.assign rfl rfl (v := .bool (decide (r_1 ≥ 0))) rfl ?_
  refine TL.done ?_
  exact TC.retF (Fin.body (fin1 (.inr rfl) rfl (.tmp rfl) [] rfl ⟨rfl, rfl⟩))

end Go.Proofs.Ytjjfoofjipafiaa.G

/- impl.isPrime, as a pure function. -/
set_option linter.unusedVariables false
namespace Go.Proofs.Ytjjfoofjipafiaa.G
open Go Go.Sx Go.Proofs

def impl_isPrime.f (p1 : Int) : Option Bool := (G.slices_Contains_int64_int64.f ([2, 3, 5, 7, 11, 13] : List Int) p1).bind (fun r_1 => some r_1)

def impl_isPrime.R (r : Bool) (v : Value) (L : List Asn) : Prop := v = .bool r ∧ L = []

set_option maxRecDepth 100000 in
set_option maxHeartbeats 4000000 in
theorem impl_isPrime.calls (w : World) (p1 : Int) :
    ∀ r, impl_isPrime.f p1 = some r → Calls Try.prog 84 #[.int .i64 p1] w (Ret w (impl_isPrime.R r)) := by

  refine calls_T (n := 6) (Γ := [(0, .int .i64 p1)]) (R := impl_isPrime.R) Try.func84 rfl rfl (Nat.le_of_ble_eq_true rfl) ⟨rfl, trivial⟩ ?_
  unfold impl_isPrime.f
  refine TC.seq ?_
  refine TC.region ?_
  refine TL.assign rfl rfl (v := .bool false) rfl ?_
  refine TL.done ?_
  refine TC.seq ?_
  refine TC.region ?_
  refine TL.blit Ei ([2, 3, 5, 7, 11, 13] : List Int) Try.underlying22 Try.sizeOf2 Try.zeroValue2 rfl rfl rfl [(0, .int .i64 2), (1, .int .i64 3), (2, .int .i64 5), (3, .int .i64 7), (4, .int .i64 11), (5, .int .i64 13)] rfl ⟨rfl, rfl, rfl, rfl, rfl, rfl, rfl, rfl, rfl, rfl, rfl, rfl, trivial⟩ rfl rfl fun s1 => ?_
  refine TL.move rfl rfl (v := .int .i64 p1) rfl ?_
  refine TL.call (R := G.slices_Contains_int64_int64.R) Try.call97 rfl rfl rfl (fun w hS => G.slices_Contains_int64_int64.calls w s1 ([2, 3, 5, 7, 11, 13] : List Int) p1 ((Rd.row 0 rfl) w hS)) ?_
  rintro r_1 _ _ ⟨rfl, rfl⟩
  refine TL.assign rfl rfl (v := .bool r_1) rfl ?_
  refine TL.done ?_
  exact TC.retF (Fin.body (fin1 (.inr rfl) rfl (.tmp rfl) [] rfl ⟨rfl, rfl⟩))

end Go.Proofs.Ytjjfoofjipafiaa.G
