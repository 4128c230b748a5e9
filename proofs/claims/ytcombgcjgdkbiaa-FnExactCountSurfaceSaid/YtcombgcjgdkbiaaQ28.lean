/- spec.CountSurface, as a pure function. -/
import Derived.Test.YtcombgcjgdkbiaaProg
import Derived.Test.YtcombgcjgdkbiaaSx9
import Derived.Test.YtcombgcjgdkbiaaQ54
import Derived.Test.YtcombgcjgdkbiaaQ61
import Derived.Test.YtcombgcjgdkbiaaQ71
set_option linter.unusedVariables false
namespace Go.Proofs.Ytcombgcjgdkbiaa.G
open Go Go.Sx Go.Proofs

def spec_CountSurface.b0 (x1 : Int) (x5 : Int) (x2 : Nat → UInt8) (y1 : Nat → Int) (r_3 : Nat → Int) : (Nat → Int) × Int → Option (LB ((Nat → Int) × Int)) := fun p => match p with | (y3, x6) => (bif (decide (x6 < x1)) then chk x5 6 (chk x6 6 (chk ((x2 (x5.toNat * 6 + x6.toNat)).toNat : Int) 6 (some (.next ((upd y3 ((x2 (x5.toNat * 6 + x6.toNat)).toNat) (w64 ((y3 ((x2 (x5.toNat * 6 + x6.toNat)).toNat)) + (w64 ((y1 x5.toNat) * (r_3 x6.toNat)))))), (w64 (x6 + 1))))))) else some (.brk (y3, x6)))

def spec_CountSurface.b1 (x1 : Int) (x2 : Nat → UInt8) (y1 : Nat → Int) (r_3 : Nat → Int) : (Nat → Int) × Int → Option (LB ((Nat → Int) × Int)) := fun p => match p with | (y2, x5) => (bif (decide (x5 < x1)) then (loop1 (spec_CountSurface.b0 x1 x5 x2 y1 r_3) (y2, 0)).bind (fun p => match p with | (y3, x6) => some (.next (y3, (w64 (x5 + 1))))) else some (.brk (y2, x5)))

def spec_CountSurface.b2 (x1 : Int) (x2 : Nat → UInt8) (r_3 : Nat → Int) : Int × (Nat → Int) → Option (LB (Int × (Nat → Int))) := fun p => match p with | (x4, y1) => (bif (decide (x4 > 0)) then (loop1 (spec_CountSurface.b1 x1 x2 y1 r_3) ((fun _ => 0), 0)).bind (fun p => match p with | (y2, x5) => some (.next ((w64 (x4 - 1)), y2))) else some (.brk (x4, y1)))

def spec_CountSurface.f (x1 : Int) (x2 : Nat → UInt8) (x3 : Int) : Option (Int × Int) := (G.spec_l06Is.f x1 x2).bind (fun r_1 => (bif (!r_1) then some (0, 1) else (G.spec_l01In.f x3 0 8).bind (fun r_2 => (bif (!r_2) then some (0, 2) else (G.spec_l06Commutators.f x1 x2).bind (fun r_3 => (loop1 (spec_CountSurface.b2 x1 x2 r_3) (x3, (upd (fun _ => 0) 0 1))).bind (fun p => match p with | (x4, y1) => (bif (decide ((y1 0) > 1000000000000)) then some (0, 3) else some ((y1 0), 0))))))))

def spec_CountSurface.R (r : Int × Int) (v : Value) (L : List Asn) : Prop := v = .tuple #[.int .i64 r.1, .int .i64 r.2] ∧ L = []

set_option maxRecDepth 100000 in
set_option maxHeartbeats 4000000 in
theorem spec_CountSurface.calls (w : World) (x1 : Int) (x2 : Nat → UInt8) (x3 : Int) :
    ∀ r, spec_CountSurface.f x1 x2 x3 = some r → Calls Try.prog 28 #[sval [.one (.int .i64 x1), .arr 36 (enf u8v x2)], .int .i64 x3] w (Ret w (spec_CountSurface.R r)) := by

  refine calls_T (n := 68) (Γ := [(0, sval [.one (.int .i64 x1), .arr 36 (enf u8v x2)]), (1, .int .i64 x3)]) (R := spec_CountSurface.R) Try.func28 rfl rfl (Nat.le_of_ble_eq_true rfl) ⟨rfl, rfl, trivial⟩ ?_
  unfold spec_CountSurface.f
  refine TC.seq ?_
  refine TC.region ?_
  refine TL.box [.one (.int .i64 x1), .arr 36 (enf u8v x2)] rfl rfl rfl rfl fun b_1 => ?_
  refine TL.assign rfl rfl (v := .int .i64 0) rfl ?_
  refine TL.assign rfl rfl (v := .int .i64 0) rfl ?_
  refine TL.done ?_
  refine TC.seq ?_
  refine TC.block NoEx.body ?_
  refine TC.seq ?_
  refine TC.region ?_
  refine TL.loadM 0 2 (Src.box 0 rfl) Try.isAgg37 Try.sizeOf37 (mid := [.one (.int .i64 x1), .arr 36 (enf u8v x2)]) rfl rfl rfl rfl rfl rfl ?_
  refine TL.call (R := G.spec_l06Is.R) Try.call61 rfl rfl rfl (fun w hS => G.spec_l06Is.calls w x1 x2) ?_
  rintro r_1 _ _ ⟨rfl, rfl⟩
  refine TL.not r_1 rfl rfl rfl ?_
  refine TL.assign rfl rfl (v := .bool (!r_1)) rfl ?_
  refine TL.done ?_
  refine TC.cond (b := (!r_1)) rfl (fun c1 => ?_) (fun c2 => ?_)
  · refine TC.seq ?_
    refine TC.region ?_
    refine TL.assign rfl rfl (v := .int .i64 0) rfl ?_
    refine TL.assign rfl rfl (v := .int .i64 1) rfl ?_
    refine TL.done ?_
    exact TC.retF (Fin.body (fin2 (.inr rfl) rfl (.tmp rfl) (.tmp rfl) [] rfl ⟨rfl, rfl⟩))
  · refine TC.seq ?_
    refine TC.region ?_
    refine TL.move rfl rfl (v := .int .i64 x3) rfl ?_
    refine TL.call (R := G.spec_l01In.R) Try.call54 rfl rfl rfl (fun w hS => G.spec_l01In.calls w x3 0 8) ?_
    rintro r_2 _ _ ⟨rfl, rfl⟩
    refine TL.not r_2 rfl rfl rfl ?_
    refine TL.assign rfl rfl (v := .bool (!r_2)) rfl ?_
    refine TL.done ?_
    refine TC.cond (b := (!r_2)) rfl (fun c3 => ?_) (fun c4 => ?_)
    · refine TC.seq ?_
      refine TC.region ?_
      refine TL.assign rfl rfl (v := .int .i64 0) rfl ?_
      refine TL.assign rfl rfl (v := .int .i64 2) rfl ?_
      refine TL.done ?_
      exact TC.retF (Fin.body (fin2 (.inr rfl) rfl (.tmp rfl) (.tmp rfl) [] rfl ⟨rfl, rfl⟩))
    · refine TC.skip ?_
      refine TC.seq ?_
      refine TC.region ?_
      refine TL.buildA (segs0 := [.arr 6 (enf i64v (fun _ => 0))]) (segs := [.arr 6 (enf i64v (upd (fun _ => 0) 0 1))]) Try.underlying71 Try.sizeOf2 Try.zeroValue71 rfl [(0, .int .i64 1)] rfl (fill_arr (e := i64v) (z := 1) (q := 0) (s := 0) 0 rfl rfl rfl rfl rfl rfl (rfl)) rfl rfl ?_
      refine TL.loadM 0 2 (Src.box 0 rfl) Try.isAgg37 Try.sizeOf37 (mid := [.one (.int .i64 x1), .arr 36 (enf u8v x2)]) rfl rfl rfl rfl rfl rfl ?_
      refine TL.call (R := G.spec_l06Commutators.R) Try.call71 rfl rfl rfl (fun w hS => G.spec_l06Commutators.calls w x1 x2) ?_
      rintro r_3 _ _ ⟨rfl, rfl⟩
      refine TL.alloc [.arr 6 (enf i64v (fun _ => 0))] rfl rfl Try.zeroValue71 rfl fun b_2 => ?_
      refine TL.alloc [.arr 6 (enf i64v (fun _ => 0))] rfl rfl Try.zeroValue71 rfl fun b_3 => ?_
      refine TL.stM (news := [.arr 6 (enf i64v (upd (fun _ => 0) 0 1))]) 1 0 1 rfl Try.sizeOf71 (ones_arr (fun _ => rfl) ones_nil) rfl rfl rfl rfl rfl rfl ?_
      refine TL.stM (news := [.arr 6 (enf i64v r_3)]) 0 0 1 rfl Try.sizeOf71 (ones_arr (fun _ => rfl) ones_nil) rfl rfl rfl rfl rfl rfl ?_
      refine TL.done ?_
      refine TC.seq ?_
      refine TC.loop1 (σ := Int × (Nat → Int)) (γ := Unit) (Γ' := (fun p q => match p, q with | (x4, y1), _ => [(1, .int .i64 x4), (2, bp b_1 0), (6, bp b_2 0), (7, bp b_3 0)])) (L' := (fun p q => match p, q with | (x4, y1), _ => [box b_1 37 [.one (.int .i64 x1), .arr 36 (enf u8v x2)], box b_2 71 [.arr 6 (enf i64v y1)], box b_3 71 [.arr 6 (enf i64v r_3)]])) (Γb := (fun p q => match p, q with | (x4, y1), _ => [(1, .int .i64 x4), (2, bp b_1 0), (6, bp b_2 0), (7, bp b_3 0)])) (Lb := (fun p q => match p, q with | (x4, y1), _ => [box b_1 37 [.one (.int .i64 x1), .arr 36 (enf u8v x2)], box b_2 71 [.arr 6 (enf i64v y1)], box b_3 71 [.arr 6 (enf i64v r_3)]])) ((x3, (upd (fun _ => 0) 0 1))) (()) ⟨rfl, rfl, rfl, rfl, trivial⟩ [2, 1, 0] rfl ?_ ?_
      · rintro ⟨x4, y1⟩ _
        refine TC.seq ?_
        refine TC.seq ?_
        refine TC.region ?_
        refine TL.move rfl rfl (v := .int .i64 x4) rfl ?_
        refine TL.bin .i64 x4 0 rfl rfl rfl rfl (v := .bool (decide (x4 > 0))) rfl ?_
        refine TL.done ?_
        refine TC.cond (b := (decide (x4 > 0))) rfl (fun c5 => ?_) (fun c6 => ?_)
        · refine TC.skip ?_
          refine TC.seq ?_
          refine TC.block (NoEx.loop1 rfl) ?_
          refine TC.seq ?_
          refine TC.region ?_
          refine TL.buildA (segs0 := [.arr 6 (enf i64v (fun _ => 0))]) (segs := [.arr 6 (enf i64v (fun _ => 0))]) Try.underlying71 Try.sizeOf2 Try.zeroValue71 rfl [] rfl rfl rfl rfl ?_
          refine TL.alloc [.arr 6 (enf i64v (fun _ => 0))] rfl rfl Try.zeroValue71 rfl fun b_4 => ?_
          refine TL.stM (news := [.arr 6 (enf i64v (fun _ => 0))]) 0 0 1 rfl Try.sizeOf71 (ones_arr (fun _ => rfl) ones_nil) rfl rfl rfl rfl rfl rfl ?_
          refine TL.done ?_
          refine TC.seq ?_
          refine TC.seq ?_
          refine TC.region ?_
          refine TL.assign rfl rfl (v := .int .i64 0) rfl ?_
          refine TL.done ?_
          refine TC.loop1 (σ := (Nat → Int) × Int) (γ := Unit) (Γ' := (fun p q => match p, q with | (y2, x5), _ => [(1, .int .i64 x4), (2, bp b_1 0), (6, bp b_2 0), (7, bp b_3 0), (8, bp b_4 0), (9, .int .i64 x5)])) (L' := (fun p q => match p, q with | (y2, x5), _ => [box b_1 37 [.one (.int .i64 x1), .arr 36 (enf u8v x2)], box b_2 71 [.arr 6 (enf i64v y1)], box b_3 71 [.arr 6 (enf i64v r_3)], box b_4 71 [.arr 6 (enf i64v y2)]])) (Γb := (fun p q => match p, q with | (y2, x5), _ => [(1, .int .i64 x4), (2, bp b_1 0), (6, bp b_2 0), (7, bp b_3 0), (8, bp b_4 0), (9, .int .i64 x5)])) (Lb := (fun p q => match p, q with | (y2, x5), _ => [box b_1 37 [.one (.int .i64 x1), .arr 36 (enf u8v x2)], box b_2 71 [.arr 6 (enf i64v y1)], box b_3 71 [.arr 6 (enf i64v r_3)], box b_4 71 [.arr 6 (enf i64v y2)]])) (((fun _ => 0), 0)) (()) ⟨rfl, rfl, rfl, rfl, rfl, rfl, trivial⟩ [1, 1, 1, 0] rfl ?_ ?_
          · rintro ⟨y2, x5⟩ _
            refine TC.seq ?_
            refine TC.seq ?_
            refine TC.region ?_
            refine TL.move rfl rfl (v := .int .i64 x5) rfl ?_
            refine TL.fa Try.underlying37 rfl Try.sizeOf2 rfl 0 rfl rfl rfl rfl ?_
            refine TL.load1 0 (Src.box 0 rfl) Try.isAgg2 rfl rfl rfl rfl rfl ?_
            refine TL.bin .i64 x5 x1 rfl rfl rfl rfl (v := .bool (decide (x5 < x1))) rfl ?_
            refine TL.done ?_
            refine TC.cond (b := (decide (x5 < x1))) rfl (fun c7 => ?_) (fun c8 => ?_)
            · refine TC.skip ?_
              refine TC.seq ?_
              refine TC.block (NoEx.loop1 rfl) ?_
              refine TC.seq ?_
              refine TC.region ?_
              refine TL.assign rfl rfl (v := .int .i64 0) rfl ?_
              refine TL.done ?_
              refine TC.loop1 (σ := (Nat → Int) × Int) (γ := Unit) (Γ' := (fun p q => match p, q with | (y3, x6), _ => [(1, .int .i64 x4), (2, bp b_1 0), (6, bp b_2 0), (7, bp b_3 0), (8, bp b_4 0), (9, .int .i64 x5), (10, .int .i64 x6)])) (L' := (fun p q => match p, q with | (y3, x6), _ => [box b_1 37 [.one (.int .i64 x1), .arr 36 (enf u8v x2)], box b_2 71 [.arr 6 (enf i64v y1)], box b_3 71 [.arr 6 (enf i64v r_3)], box b_4 71 [.arr 6 (enf i64v y3)]])) (Γb := (fun p q => match p, q with | (y3, x6), _ => [(1, .int .i64 x4), (2, bp b_1 0), (6, bp b_2 0), (7, bp b_3 0), (8, bp b_4 0), (9, .int .i64 x5), (10, .int .i64 x6)])) (Lb := (fun p q => match p, q with | (y3, x6), _ => [box b_1 37 [.one (.int .i64 x1), .arr 36 (enf u8v x2)], box b_2 71 [.arr 6 (enf i64v y1)], box b_3 71 [.arr 6 (enf i64v r_3)], box b_4 71 [.arr 6 (enf i64v y3)]])) ((y2, 0)) (()) ⟨rfl, rfl, rfl, rfl, rfl, rfl, rfl, trivial⟩ [0, 0, 0, 0] rfl ?_ ?_
              · rintro ⟨y3, x6⟩ _
                refine TC.seq ?_
                refine TC.seq ?_
                refine TC.region ?_
                refine TL.move rfl rfl (v := .int .i64 x6) rfl ?_
                refine TL.fa Try.underlying37 rfl Try.sizeOf2 rfl 0 rfl rfl rfl rfl ?_
                refine TL.load1 0 (Src.box 0 rfl) Try.isAgg2 rfl rfl rfl rfl rfl ?_
                refine TL.bin .i64 x6 x1 rfl rfl rfl rfl (v := .bool (decide (x6 < x1))) rfl ?_
                refine TL.done ?_
                refine TC.cond (b := (decide (x6 < x1))) rfl (fun c9 => ?_) (fun c10 => ?_)
                · refine TC.skip ?_
                  refine TC.seq ?_
                  refine TC.block (NoEx.loop1 rfl) ?_
                  refine TC.wk (Γ' := [(1, .int .i64 x4), (2, bp b_1 0), (6, bp b_2 0), (7, bp b_3 0), (8, bp b_4 0), (9, .int .i64 x5), (10, .int .i64 x6), (33, .int .i64 x6), (34, bp b_1 0), (35, .int .i64 x1), (36, .bool (decide (x6 < x1)))]) ⟨rfl, rfl, rfl, rfl, rfl, rfl, rfl, rfl, rfl, rfl, rfl, trivial⟩ ?_
                  refine TC.chk fun h1 => ?_
                  refine TC.chk fun h2 => ?_
                  refine TC.chk fun h3 => ?_
                  refine TC.draw [.int .i64 x5, .int .i64 x6, bp b_1 1, bp b_1 (1 + x5.toNat * 6), bp b_1 (1 + (x5.toNat * 6 + x6.toNat)), u8v (x2 (x5.toNat * 6 + x6.toNat)), .int .i64 x5, .int .i64 x6, bp b_1 1, bp b_1 (1 + x5.toNat * 6), bp b_1 (1 + (x5.toNat * 6 + x6.toNat)), u8v (x2 (x5.toNat * 6 + x6.toNat)), bp b_4 ((x2 (x5.toNat * 6 + x6.toNat)).toNat), .int .i64 (y3 ((x2 (x5.toNat * 6 + x6.toNat)).toNat)), .int .i64 x5, bp b_2 x5.toNat, .int .i64 (y1 x5.toNat), .int .i64 x6, bp b_3 x6.toNat, .int .i64 (r_3 x6.toNat), .int .i64 (w64 ((y1 x5.toNat) * (r_3 x6.toNat))), .int .i64 (w64 ((y3 ((x2 (x5.toNat * 6 + x6.toNat)).toNat)) + (w64 ((y1 x5.toNat) * (r_3 x6.toNat))))), bp b_4 ((x2 (x5.toNat * 6 + x6.toNat)).toNat), undef] 23 [box b_1 37 [.one (.int .i64 x1), .arr 36 (enf u8v x2)], box b_2 71 [.arr 6 (enf i64v y1)], box b_3 71 [.arr 6 (enf i64v r_3)], box b_4 71 [.arr 6 (enf i64v (upd y3 ((x2 (x5.toNat * 6 + x6.toNat)).toNat) (w64 ((y3 ((x2 (x5.toNat * 6 + x6.toNat)).toNat)) + (w64 ((y1 x5.toNat) * (r_3 x6.toNat)))))))]] (by kernel_rfl) rfl rfl rfl rfl ?_ ?_
                  · refine ⟨?_, ?_, ?_, ?_, ?_, ?_, ?_, ?_, ?_, ?_, ?_, ?_, ?_, ?_, ?_, ?_, ?_, ?_, ?_, ?_, ?_, ?_, ?_, ?_, trivial⟩
                    · refine TL.move rfl rfl (v := .int .i64 x5) rfl ?_
                      refine TL.done ?_
                      exact TC.nrm () () ⟨rfl, trivial⟩ [0, 0, 0, 0] rfl
                    · refine TL.move rfl rfl (v := .int .i64 x6) rfl ?_
                      refine TL.done ?_
                      exact TC.nrm () () ⟨rfl, trivial⟩ [0, 0, 0, 0] rfl
                    · refine TL.fa Try.underlying37 rfl Try.sizeOf33 rfl 1 rfl rfl rfl rfl ?_
                      refine TL.done ?_
                      exact TC.nrm () () ⟨rfl, trivial⟩ [0, 0, 0, 0] rfl
                    · refine TL.ixa x5 (1 + x5.toNat * 6) h1 Try.underlying33 Try.sizeOf32 rfl rfl rfl rfl (by omega) ?_
                      refine TL.done ?_
                      exact TC.nrm () () ⟨rfl, trivial⟩ [0, 0, 0, 0] rfl
                    · refine TL.ixa x6 (1 + (x5.toNat * 6 + x6.toNat)) h2 Try.underlying32 Try.sizeOf5 rfl rfl rfl rfl (by omega) ?_
                      refine TL.done ?_
                      exact TC.nrm () () ⟨rfl, trivial⟩ [0, 0, 0, 0] rfl
                    · refine TL.loadA (x5.toNat * 6 + x6.toNat) 1 (Src.box 0 rfl) Try.isAgg5 rfl (by omega) (v := u8v (x2 (x5.toNat * 6 + x6.toNat))) rfl (st := 1) rfl (by omega) rfl rfl rfl ?_
                      refine TL.done ?_
                      exact TC.nrm () () ⟨rfl, trivial⟩ [0, 0, 0, 0] rfl
                    · refine TL.move rfl rfl (v := .int .i64 x5) rfl ?_
                      refine TL.done ?_
                      exact TC.nrm () () ⟨rfl, trivial⟩ [0, 0, 0, 0] rfl
                    · refine TL.move rfl rfl (v := .int .i64 x6) rfl ?_
                      refine TL.done ?_
                      exact TC.nrm () () ⟨rfl, trivial⟩ [0, 0, 0, 0] rfl
                    · refine TL.fa Try.underlying37 rfl Try.sizeOf33 rfl 1 rfl rfl rfl rfl ?_
                      refine TL.done ?_
                      exact TC.nrm () () ⟨rfl, trivial⟩ [0, 0, 0, 0] rfl
                    · refine TL.ixa x5 (1 + x5.toNat * 6) h1 Try.underlying33 Try.sizeOf32 rfl rfl rfl rfl (by omega) ?_
                      refine TL.done ?_
                      exact TC.nrm () () ⟨rfl, trivial⟩ [0, 0, 0, 0] rfl
                    · refine TL.ixa x6 (1 + (x5.toNat * 6 + x6.toNat)) h2 Try.underlying32 Try.sizeOf5 rfl rfl rfl rfl (by omega) ?_
                      refine TL.done ?_
                      exact TC.nrm () () ⟨rfl, trivial⟩ [0, 0, 0, 0] rfl
                    · refine TL.loadA (x5.toNat * 6 + x6.toNat) 1 (Src.box 0 rfl) Try.isAgg5 rfl (by omega) (v := u8v (x2 (x5.toNat * 6 + x6.toNat))) rfl (st := 1) rfl (by omega) rfl rfl rfl ?_
                      refine TL.done ?_
                      exact TC.nrm () () ⟨rfl, trivial⟩ [0, 0, 0, 0] rfl
                    · refine TL.ixa ((x2 (x5.toNat * 6 + x6.toNat)).toNat : Int) ((x2 (x5.toNat * 6 + x6.toNat)).toNat) h3 Try.underlying71 Try.sizeOf2 rfl rfl rfl rfl (by omega) ?_
                      refine TL.done ?_
                      exact TC.nrm () () ⟨rfl, trivial⟩ [0, 0, 0, 0] rfl
                    · refine TL.loadA ((x2 (x5.toNat * 6 + x6.toNat)).toNat) 0 (Src.box 3 rfl) Try.isAgg2 rfl (by omega) (v := .int .i64 (y3 ((x2 (x5.toNat * 6 + x6.toNat)).toNat))) rfl (st := 0) rfl (by omega) rfl rfl rfl ?_
                      refine TL.done ?_
                      exact TC.nrm () () ⟨rfl, trivial⟩ [0, 0, 0, 0] rfl
                    · refine TL.move rfl rfl (v := .int .i64 x5) rfl ?_
                      refine TL.done ?_
                      exact TC.nrm () () ⟨rfl, trivial⟩ [0, 0, 0, 0] rfl
                    · refine TL.ixa x5 x5.toNat h1 Try.underlying71 Try.sizeOf2 rfl rfl rfl rfl (by omega) ?_
                      refine TL.done ?_
                      exact TC.nrm () () ⟨rfl, trivial⟩ [0, 0, 0, 0] rfl
                    · refine TL.loadA x5.toNat 0 (Src.box 1 rfl) Try.isAgg2 rfl (by omega) (v := .int .i64 (y1 x5.toNat)) rfl (st := 0) rfl (by omega) rfl rfl rfl ?_
                      refine TL.done ?_
                      exact TC.nrm () () ⟨rfl, trivial⟩ [0, 0, 0, 0] rfl
                    · refine TL.move rfl rfl (v := .int .i64 x6) rfl ?_
                      refine TL.done ?_
                      exact TC.nrm () () ⟨rfl, trivial⟩ [0, 0, 0, 0] rfl
                    · refine TL.ixa x6 x6.toNat h2 Try.underlying71 Try.sizeOf2 rfl rfl rfl rfl (by omega) ?_
                      refine TL.done ?_
                      exact TC.nrm () () ⟨rfl, trivial⟩ [0, 0, 0, 0] rfl
                    · refine TL.loadA x6.toNat 0 (Src.box 2 rfl) Try.isAgg2 rfl (by omega) (v := .int .i64 (r_3 x6.toNat)) rfl (st := 0) rfl (by omega) rfl rfl rfl ?_
                      refine TL.done ?_
                      exact TC.nrm () () ⟨rfl, trivial⟩ [0, 0, 0, 0] rfl
                    · refine TL.bin .i64 (y1 x5.toNat) (r_3 x6.toNat) rfl rfl rfl rfl (v := .int .i64 (w64 ((y1 x5.toNat) * (r_3 x6.toNat)))) rfl ?_
                      refine TL.done ?_
                      exact TC.nrm () () ⟨rfl, trivial⟩ [0, 0, 0, 0] rfl
                    · refine TL.bin .i64 (y3 ((x2 (x5.toNat * 6 + x6.toNat)).toNat)) (w64 ((y1 x5.toNat) * (r_3 x6.toNat))) rfl rfl rfl rfl (v := .int .i64 (w64 ((y3 ((x2 (x5.toNat * 6 + x6.toNat)).toNat)) + (w64 ((y1 x5.toNat) * (r_3 x6.toNat)))))) rfl ?_
                      refine TL.done ?_
                      exact TC.nrm () () ⟨rfl, trivial⟩ [0, 0, 0, 0] rfl
                    · refine TL.ixa ((x2 (x5.toNat * 6 + x6.toNat)).toNat : Int) ((x2 (x5.toNat * 6 + x6.toNat)).toNat) h3 Try.underlying71 Try.sizeOf2 rfl rfl rfl rfl (by omega) ?_
                      refine TL.done ?_
                      exact TC.nrm () () ⟨rfl, trivial⟩ [0, 0, 0, 0] rfl
                    · refine TL.stA (e := i64v) (z := (w64 ((y3 ((x2 (x5.toNat * 6 + x6.toNat)).toNat)) + (w64 ((y1 x5.toNat) * (r_3 x6.toNat)))))) 3 0 ((x2 (x5.toNat * 6 + x6.toNat)).toNat) rfl Try.sizeOf2 rfl (by omega) (s := 0) rfl (by omega) rfl rfl rfl rfl rfl ?_
                      refine TL.done ?_
                      exact TC.nrm () () trivial [0, 0, 0, 0] rfl
                  · refine TC.region ?_
                    refine TL.move rfl rfl (v := .int .i64 x6) rfl ?_
                    refine TL.bin .i64 x6 1 rfl rfl rfl rfl (v := .int .i64 (w64 (x6 + 1))) rfl ?_
                    refine TL.assign rfl rfl (v := .int .i64 (w64 (x6 + 1))) rfl ?_
                    refine TL.done ?_
                    exact TC.next1 (((upd y3 ((x2 (x5.toNat * 6 + x6.toNat)).toNat) (w64 ((y3 ((x2 (x5.toNat * 6 + x6.toNat)).toNat)) + (w64 ((y1 x5.toNat) * (r_3 x6.toNat)))))), (w64 (x6 + 1)))) (()) ⟨rfl, rfl, rfl, rfl, rfl, rfl, rfl, trivial⟩ [0, 0, 0, 0] rfl
                · exact TC.brk1 ((y3, x6)) (()) ⟨rfl, rfl, rfl, rfl, rfl, rfl, rfl, trivial⟩ [0, 0, 0, 0] rfl
              · rintro ⟨y3, x6⟩ _
                refine TC.region ?_
                refine TL.move rfl rfl (v := .int .i64 x5) rfl ?_
                refine TL.bin .i64 x5 1 rfl rfl rfl rfl (v := .int .i64 (w64 (x5 + 1))) rfl ?_
                refine TL.assign rfl rfl (v := .int .i64 (w64 (x5 + 1))) rfl ?_
                refine TL.done ?_
                exact TC.next1 ((y3, (w64 (x5 + 1)))) (()) ⟨rfl, rfl, rfl, rfl, rfl, rfl, trivial⟩ [0, 0, 0, 0] rfl
            · exact TC.brk1 ((y2, x5)) (()) ⟨rfl, rfl, rfl, rfl, rfl, rfl, trivial⟩ [0, 0, 0, 0] rfl
          · rintro ⟨y2, x5⟩ _
            refine TC.region ?_
            refine TL.loadM 0 1 (Src.box 3 rfl) Try.isAgg71 Try.sizeOf71 (mid := [.arr 6 (enf i64v y2)]) rfl rfl rfl rfl rfl rfl ?_
            refine TL.stM (news := [.arr 6 (enf i64v y2)]) 1 0 1 rfl Try.sizeOf71 (ones_arr (fun _ => rfl) ones_nil) rfl rfl rfl rfl rfl rfl ?_
            refine TL.done ?_
            refine TC.region ?_
            refine TL.move rfl rfl (v := .int .i64 x4) rfl ?_
            refine TL.bin .i64 x4 1 rfl rfl rfl rfl (v := .int .i64 (w64 (x4 - 1))) rfl ?_
            refine TL.assign rfl rfl (v := .int .i64 (w64 (x4 - 1))) rfl ?_
            refine TL.done ?_
            exact TC.next1 (((w64 (x4 - 1)), y2)) (()) ⟨rfl, rfl, rfl, rfl, trivial⟩ [0, 0, 0] rfl
        · exact TC.brk1 ((x4, y1)) (()) ⟨rfl, rfl, rfl, rfl, trivial⟩ [0, 0, 0] rfl
      · rintro ⟨x4, y1⟩ _
        refine TC.seq ?_
        refine TC.seq ?_
        refine TC.region ?_
        refine TL.ixa 0 0 (by decide) Try.underlying71 Try.sizeOf2 rfl rfl rfl rfl rfl ?_
        refine TL.loadA 0 0 (Src.box 1 rfl) Try.isAgg2 rfl (by omega) (v := .int .i64 (y1 0)) rfl (st := 0) rfl rfl rfl rfl rfl ?_
        refine TL.bin .i64 (y1 0) 1000000000000 rfl rfl rfl rfl (v := .bool (decide ((y1 0) > 1000000000000))) rfl ?_
        refine TL.done ?_
        refine TC.cond (b := (decide ((y1 0) > 1000000000000))) rfl (fun c11 => ?_) (fun c12 => ?_)
        · refine TC.seq ?_
          refine TC.region ?_
          refine TL.assign rfl rfl (v := .int .i64 0) rfl ?_
          refine TL.assign rfl rfl (v := .int .i64 3) rfl ?_
          refine TL.done ?_
          exact TC.retF (Fin.body (fin2 (.inr rfl) rfl (.tmp rfl) (.tmp rfl) [] rfl ⟨rfl, rfl⟩))
        · refine TC.skip ?_
          refine TC.seq ?_
          refine TC.region ?_
          refine TL.ixa 0 0 (by decide) Try.underlying71 Try.sizeOf2 rfl rfl rfl rfl rfl ?_
          refine TL.loadA 0 0 (Src.box 1 rfl) Try.isAgg2 rfl (by omega) (v := .int .i64 (y1 0)) rfl (st := 0) rfl rfl rfl rfl rfl ?_
          refine TL.assign rfl rfl (v := .int .i64 (y1 0)) rfl ?_
          refine TL.assign rfl rfl (v := .int .i64 0) rfl ?_
          refine TL.done ?_
          exact TC.retF (Fin.body (fin2 (.inr rfl) rfl (.tmp rfl) (.tmp rfl) [] rfl ⟨rfl, rfl⟩))

end Go.Proofs.Ytcombgcjgdkbiaa.G
