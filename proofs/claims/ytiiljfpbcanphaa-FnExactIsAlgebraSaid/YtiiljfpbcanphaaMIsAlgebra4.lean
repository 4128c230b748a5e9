/- Functions of the program, as pure functions. -/
import Derived.Test.YtiiljfpbcanphaaMIsAlgebra3
import Derived.Test.YtiiljfpbcanphaaProg
import Derived.WalkKit
import Derived.Deep.LoopGhost
import Derived.Deep.RegionLaw
import Derived.Lib.SliceRun
import Derived.Lib.SlicesDelete
import Derived.Shelf.RegionOpenPlain
import Derived.Lib.Walk
/- impl.Algebra).times, as a pure function. -/
set_option linter.unusedVariables false
namespace Go.Proofs.Ytiiljfpbcanphaa.G
open Go Go.Sx Go.Proofs

def impl_Algebra_times.b0 (r_3 : Int) (x5 : Nat → UInt8) (x7 : Int) (x6 : Nat → UInt8) (x8 : Int) (x3 : Nat → UInt8) : (Nat → Int) × Int → Option (LB ((Nat → Int) × Int)) := fun p => match p with | (y4, x9) => (bif (decide (x9 < r_3)) then chk x9 6 (some (.next ((upd y4 x9.toNat (w64 ((y4 x9.toNat) + (w64 ((w64 (((x5 x7.toNat).toNat : Int) * ((x6 x8.toNat).toNat : Int))) * ((x3 (x7.toNat * 36 + x8.toNat * 6 + x9.toNat)).toNat : Int)))))), (w64 (x9 + 1))))) else some (.brk (y4, x9)))

def impl_Algebra_times.b1 (r_2 : Int) (x7 : Int) (x5 : Nat → UInt8) (x6 : Nat → UInt8) (x1 : Int) (x2 : Int) (x3 : Nat → UInt8) (x4 : Nat → UInt8) : (Nat → Int) × Int → Option (LB ((Nat → Int) × Int)) := fun p => match p with | (y2, x8) => (bif (decide (x8 < r_2)) then (chk x7 6 (chk x8 6 ((bif ((w64 (((x5 x7.toNat).toNat : Int) * ((x6 x8.toNat).toNat : Int))) == 0) then some (.inl y2) else (G.impl_Algebra_n.f x1 x2 x3 x4).bind (fun r_3 => (loop1 (impl_Algebra_times.b0 r_3 x5 x7 x6 x8 x3) (y2, 0)).bind (fun p => match p with | (y4, x9) => some (.inl y4))))))).bind (jn (fun y3 => some (.next (y3, (w64 (x8 + 1)))))) else some (.brk (y2, x8)))

def impl_Algebra_times.b2 (r_1 : Int) (x1 : Int) (x2 : Int) (x3 : Nat → UInt8) (x4 : Nat → UInt8) (x5 : Nat → UInt8) (x6 : Nat → UInt8) : (Nat → Int) × Int → Option (LB ((Nat → Int) × Int)) := fun p => match p with | (y1, x7) => (bif (decide (x7 < r_1)) then (G.impl_Algebra_n.f x1 x2 x3 x4).bind (fun r_2 => (loop1 (impl_Algebra_times.b1 r_2 x7 x5 x6 x1 x2 x3 x4) (y1, 0)).bind (fun p => match p with | (y2, x8) => some (.next (y2, (w64 (x7 + 1)))))) else some (.brk (y1, x7)))

def impl_Algebra_times.b3 (x1 : Int) (y1 : Nat → Int) : (Nat → UInt8) × Int → Option (LB ((Nat → UInt8) × Int)) := fun p => match p with | (y5, x10) => (bif (decide (x10 < 6)) then chk x10 6 (nz x1 (some (.next ((upd y5 x10.toNat (UInt8.ofInt (Int.tmod (y1 x10.toNat) x1))), (w64 (x10 + 1)))))) else some (.brk (y5, x10)))

def impl_Algebra_times.f (x1 : Int) (x2 : Int) (x3 : Nat → UInt8) (x4 : Nat → UInt8) (x5 : Nat → UInt8) (x6 : Nat → UInt8) : Option (Nat → UInt8) := (G.impl_Algebra_n.f x1 x2 x3 x4).bind (fun r_1 => (loop1 (impl_Algebra_times.b2 r_1 x1 x2 x3 x4 x5 x6) ((fun _ => (0 : Int)), 0)).bind (fun p => match p with | (y1, x7) => (loop1 (impl_Algebra_times.b3 x1 y1) ((fun _ => (0 : UInt8)), 0)).bind (fun p => match p with | (y5, x10) => some y5)))

def impl_Algebra_times.R (r : Nat → UInt8) (v : Value) (L : List Asn) : Prop := v = sval [.arr 6 (enf u8v r)] ∧ L = []

set_option maxRecDepth 100000 in
set_option maxHeartbeats 4000000 in
theorem impl_Algebra_times.calls (w : World) (b_1 : Nat) (x1 : Int) (x2 : Int) (x3 : Nat → UInt8) (x4 : Nat → UInt8) (x5 : Nat → UInt8) (x6 : Nat → UInt8) (h1 : At (hp w) b_1 [.one (.int .i64 x1), .one (.int .i64 x2), .arr 216 (enf u8v x3), .arr 6 (enf u8v x4)]) :
    ∀ r, impl_Algebra_times.f x1 x2 x3 x4 x5 x6 = some r → Calls Try.prog 160 #[bp b_1 0, sval [.arr 6 (enf u8v x5)], sval [.arr 6 (enf u8v x6)]] w (Ret w (impl_Algebra_times.R r)) := by

  refine calls_T (n := 80) (Γ := [(0, bp b_1 0), (1, sval [.arr 6 (enf u8v x5)]), (2, sval [.arr 6 (enf u8v x6)])]) (R := impl_Algebra_times.R) Try.func160 rfl rfl (Nat.le_of_ble_eq_true rfl) ⟨rfl, rfl, rfl, trivial⟩ ?_
  unfold impl_Algebra_times.f
  refine TC.seq ?_
  refine TC.region ?_
  refine TL.box [.arr 6 (enf u8v x5)] rfl rfl rfl rfl fun b_2 => ?_
  refine TL.box [.arr 6 (enf u8v x6)] rfl rfl rfl rfl fun b_3 => ?_
  refine TL.alloc [.arr 6 (enf u8v (fun _ => (0 : UInt8)))] rfl rfl Try.zeroValue41 rfl fun b_4 => ?_
  refine TL.done ?_
  refine TC.seq ?_
  refine TC.region ?_
  refine TL.buildA (segs0 := [.arr 6 (enf i64v (fun _ => (0 : Int)))]) (segs := [.arr 6 (enf i64v (fun _ => (0 : Int)))]) Try.underlying168 Try.sizeOf2 Try.zeroValue168 rfl [] rfl rfl rfl rfl ?_
  refine TL.alloc [.arr 6 (enf i64v (fun _ => (0 : Int)))] rfl rfl Try.zeroValue168 rfl fun b_5 => ?_
  refine TL.stM (news := [.arr 6 (enf i64v (fun _ => (0 : Int)))]) 0 0 1 rfl Try.sizeOf168 (ones_arr (fun _ => rfl) ones_nil) rfl rfl rfl rfl rfl rfl ?_
  refine TL.done ?_
  refine TC.seq ?_
  refine TC.seq ?_
  refine TC.region ?_
  refine TL.move rfl rfl (v := bp b_1 0) rfl ?_
  refine TL.call (R := G.impl_Algebra_n.R) Try.call159 rfl rfl rfl (fun w hS => G.impl_Algebra_n.calls w b_1 x1 x2 x3 x4 ((Src.at h1) w hS)) ?_
  rintro r_1 _ _ ⟨rfl, rfl⟩
  refine TL.move rfl rfl (v := .int .i64 0) rfl ?_
  refine TL.done ?_
  refine TC.loop1 (σ := (Nat → Int) × Int) (γ := Unit) (Γ' := (fun p q => match p, q with | (y1, x7), _ => [(0, bp b_1 0), (4, bp b_2 0), (5, bp b_3 0), (6, bp b_4 0), (7, bp b_5 0), (17, .int .i64 r_1), (18, .int .i64 x7)])) (L' := (fun p q => match p, q with | (y1, x7), _ => [box b_2 41 [.arr 6 (enf u8v x5)], box b_3 41 [.arr 6 (enf u8v x6)], box b_4 41 [.arr 6 (enf u8v (fun _ => (0 : UInt8)))], box b_5 168 [.arr 6 (enf i64v y1)]])) (Γb := (fun p q => match p, q with | (y1, x7), _ => [(0, bp b_1 0), (4, bp b_2 0), (5, bp b_3 0), (6, bp b_4 0), (7, bp b_5 0), (17, .int .i64 r_1), (18, .int .i64 x7)])) (Lb := (fun p q => match p, q with | (y1, x7), _ => [box b_2 41 [.arr 6 (enf u8v x5)], box b_3 41 [.arr 6 (enf u8v x6)], box b_4 41 [.arr 6 (enf u8v (fun _ => (0 : UInt8)))], box b_5 168 [.arr 6 (enf i64v y1)]])) (((fun _ => (0 : Int)), 0)) (()) ⟨rfl, rfl, rfl, rfl, rfl, rfl, rfl, trivial⟩ [3, 2, 1, 0] rfl ?_ ?_
  · rintro ⟨y1, x7⟩ _
    refine TC.seq ?_
    refine TC.region ?_
    refine TL.bin .i64 x7 r_1 rfl rfl rfl rfl (v := .bool (decide (x7 < r_1))) rfl ?_
    refine TL.done ?_
    refine TC.seq ?_
    refine TC.cond (b := (decide (x7 < r_1))) rfl (fun c1 => ?_) (fun c2 => ?_)
    · refine TC.skip ?_
      refine TC.seq ?_
      refine TC.block (NoEx.loop1 rfl) ?_
      refine TC.seq ?_
      refine TC.region ?_
      refine TL.move rfl rfl (v := .int .i64 x7) rfl ?_
      refine TL.assign rfl rfl (v := .int .i64 x7) rfl ?_
      refine TL.done ?_
      refine TC.seq ?_
      refine TC.region ?_
      refine TL.move rfl rfl (v := bp b_1 0) rfl ?_
      refine TL.call (R := G.impl_Algebra_n.R) Try.call159 rfl rfl rfl (fun w hS => G.impl_Algebra_n.calls w b_1 x1 x2 x3 x4 ((Src.at h1) w hS)) ?_
      rintro r_2 _ _ ⟨rfl, rfl⟩
      refine TL.move rfl rfl (v := .int .i64 0) rfl ?_
      refine TL.done ?_
      refine TC.loop1 (σ := (Nat → Int) × Int) (γ := Unit) (Γ' := (fun p q => match p, q with | (y2, x8), _ => [(0, bp b_1 0), (4, bp b_2 0), (5, bp b_3 0), (6, bp b_4 0), (7, bp b_5 0), (8, .int .i64 x7), (17, .int .i64 r_1), (18, .int .i64 x7), (22, .int .i64 r_2), (23, .int .i64 x8)])) (L' := (fun p q => match p, q with | (y2, x8), _ => [box b_2 41 [.arr 6 (enf u8v x5)], box b_3 41 [.arr 6 (enf u8v x6)], box b_4 41 [.arr 6 (enf u8v (fun _ => (0 : UInt8)))], box b_5 168 [.arr 6 (enf i64v y2)]])) (Γb := (fun p q => match p, q with | (y2, x8), _ => [(0, bp b_1 0), (4, bp b_2 0), (5, bp b_3 0), (6, bp b_4 0), (7, bp b_5 0), (8, .int .i64 x7), (17, .int .i64 r_1), (18, .int .i64 x7), (22, .int .i64 r_2), (23, .int .i64 x8)])) (Lb := (fun p q => match p, q with | (y2, x8), _ => [box b_2 41 [.arr 6 (enf u8v x5)], box b_3 41 [.arr 6 (enf u8v x6)], box b_4 41 [.arr 6 (enf u8v (fun _ => (0 : UInt8)))], box b_5 168 [.arr 6 (enf i64v y2)]])) ((y1, 0)) (()) ⟨rfl, rfl, rfl, rfl, rfl, rfl, rfl, rfl, rfl, rfl, trivial⟩ [0, 0, 0, 0] rfl ?_ ?_
      · rintro ⟨y2, x8⟩ _
        refine TC.seq ?_
        refine TC.region ?_
        refine TL.bin .i64 x8 r_2 rfl rfl rfl rfl (v := .bool (decide (x8 < r_2))) rfl ?_
        refine TL.done ?_
        refine TC.seq ?_
        refine TC.cond (b := (decide (x8 < r_2))) rfl (fun c3 => ?_) (fun c4 => ?_)
        · refine TC.skip ?_
          refine TC.seq ?_
          refine TC.blockJ (σ := (Nat → Int)) (γ := Unit) (Γ' := (fun y3 _ => [(0, bp b_1 0), (4, bp b_2 0), (5, bp b_3 0), (6, bp b_4 0), (7, bp b_5 0), (8, .int .i64 x7), (17, .int .i64 r_1), (18, .int .i64 x7), (22, .int .i64 r_2), (23, .int .i64 x8)])) (L' := (fun y3 _ => [box b_2 41 [.arr 6 (enf u8v x5)], box b_3 41 [.arr 6 (enf u8v x6)], box b_4 41 [.arr 6 (enf u8v (fun _ => (0 : UInt8)))], box b_5 168 [.arr 6 (enf i64v y3)]])) ?_ ?_
          · refine TC.seq ?_
            refine TC.region ?_
            refine TL.move rfl rfl (v := .int .i64 x8) rfl ?_
            refine TL.assign rfl rfl (v := .int .i64 x8) rfl ?_
            refine TL.done ?_
            refine TC.seq ?_
            refine TC.wk (Γ' := [(0, bp b_1 0), (4, bp b_2 0), (5, bp b_3 0), (6, bp b_4 0), (7, bp b_5 0), (8, .int .i64 x7), (17, .int .i64 r_1), (18, .int .i64 x7), (22, .int .i64 r_2), (23, .int .i64 x8), (24, .bool (decide (x8 < r_2))), (25, .int .i64 x8), (9, .int .i64 x8)]) ⟨rfl, rfl, rfl, rfl, rfl, rfl, rfl, rfl, rfl, rfl, rfl, rfl, rfl, trivial⟩ ?_
            refine TC.chk fun h2 => ?_
            refine TC.chk fun h3 => ?_
            refine TC.draw [.int .i64 x7, bp b_2 x7.toNat, u8v (x5 x7.toNat), .int .i64 ((x5 x7.toNat).toNat : Int), .int .i64 x8, bp b_3 x8.toNat, u8v (x6 x8.toNat), .int .i64 ((x6 x8.toNat).toNat : Int), .int .i64 (w64 (((x5 x7.toNat).toNat : Int) * ((x6 x8.toNat).toNat : Int))), .int .i64 (w64 (((x5 x7.toNat).toNat : Int) * ((x6 x8.toNat).toNat : Int)))] 10 [box b_2 41 [.arr 6 (enf u8v x5)], box b_3 41 [.arr 6 (enf u8v x6)], box b_4 41 [.arr 6 (enf u8v (fun _ => (0 : UInt8)))], box b_5 168 [.arr 6 (enf i64v y2)]] (by kernel_rfl) rfl rfl rfl rfl ?_ ?_
            · refine ⟨?_, ?_, ?_, ?_, ?_, ?_, ?_, ?_, ?_, ?_, trivial⟩
              · refine TL.move rfl rfl (v := .int .i64 x7) rfl ?_
                refine TL.done ?_
                exact TC.nrm () () ⟨rfl, trivial⟩ [0, 0, 0, 0] (by kernel_rfl)
              · refine TL.ixa x7 x7.toNat h2 Try.underlying41 Try.sizeOf5 rfl rfl rfl rfl (by omega) ?_
                refine TL.done ?_
                exact TC.nrm () () ⟨rfl, trivial⟩ [0, 0, 0, 0] (by kernel_rfl)
              · refine TL.loadA x7.toNat 0 (Src.box 0 rfl) Try.isAgg5 rfl (by omega) (v := u8v (x5 x7.toNat)) rfl (st := 0) rfl (by omega) rfl rfl rfl ?_
                refine TL.done ?_
                exact TC.nrm () () ⟨rfl, trivial⟩ [0, 0, 0, 0] (by kernel_rfl)
              · refine TL.conv .u8 .i64 ((x5 x7.toNat).toNat : Int) _ rfl rfl rfl Try.underlying5 Try.underlying2 (v := .int .i64 ((x5 x7.toNat).toNat : Int)) (conv_u8_i64 _) ?_
                refine TL.done ?_
                exact TC.nrm () () ⟨rfl, trivial⟩ [0, 0, 0, 0] (by kernel_rfl)
              · refine TL.move rfl rfl (v := .int .i64 x8) rfl ?_
                refine TL.done ?_
                exact TC.nrm () () ⟨rfl, trivial⟩ [0, 0, 0, 0] (by kernel_rfl)
              · refine TL.ixa x8 x8.toNat h3 Try.underlying41 Try.sizeOf5 rfl rfl rfl rfl (by omega) ?_
                refine TL.done ?_
                exact TC.nrm () () ⟨rfl, trivial⟩ [0, 0, 0, 0] (by kernel_rfl)
              · refine TL.loadA x8.toNat 0 (Src.box 1 rfl) Try.isAgg5 rfl (by omega) (v := u8v (x6 x8.toNat)) rfl (st := 0) rfl (by omega) rfl rfl rfl ?_
                refine TL.done ?_
                exact TC.nrm () () ⟨rfl, trivial⟩ [0, 0, 0, 0] (by kernel_rfl)
              · refine TL.conv .u8 .i64 ((x6 x8.toNat).toNat : Int) _ rfl rfl rfl Try.underlying5 Try.underlying2 (v := .int .i64 ((x6 x8.toNat).toNat : Int)) (conv_u8_i64 _) ?_
                refine TL.done ?_
                exact TC.nrm () () ⟨rfl, trivial⟩ [0, 0, 0, 0] (by kernel_rfl)
              · refine TL.bin .i64 ((x5 x7.toNat).toNat : Int) ((x6 x8.toNat).toNat : Int) rfl rfl rfl rfl (v := .int .i64 (w64 (((x5 x7.toNat).toNat : Int) * ((x6 x8.toNat).toNat : Int)))) rfl ?_
                refine TL.done ?_
                exact TC.nrm () () ⟨rfl, trivial⟩ [0, 0, 0, 0] (by kernel_rfl)
              · refine TL.assign rfl rfl (v := .int .i64 (w64 (((x5 x7.toNat).toNat : Int) * ((x6 x8.toNat).toNat : Int)))) rfl ?_
                refine TL.done ?_
                exact TC.nrm () () ⟨rfl, trivial⟩ [0, 0, 0, 0] (by kernel_rfl)
            · refine TC.seq ?_
              refine TC.seq ?_
              refine TC.region ?_
              refine TL.move rfl rfl (v := .int .i64 (w64 (((x5 x7.toNat).toNat : Int) * ((x6 x8.toNat).toNat : Int)))) rfl ?_
              refine TL.bin .i64 (w64 (((x5 x7.toNat).toNat : Int) * ((x6 x8.toNat).toNat : Int))) 0 rfl rfl rfl rfl (v := .bool ((w64 (((x5 x7.toNat).toNat : Int) * ((x6 x8.toNat).toNat : Int))) == 0)) rfl ?_
              refine TL.done ?_
              refine TC.cond (b := ((w64 (((x5 x7.toNat).toNat : Int) * ((x6 x8.toNat).toNat : Int))) == 0)) rfl (fun c5 => ?_) (fun c6 => ?_)
              · exact TC.exB (y2) (()) ⟨rfl, rfl, rfl, rfl, rfl, rfl, rfl, rfl, rfl, rfl, trivial⟩ [0, 0, 0, 0] rfl
              · refine TC.skip ?_
                refine TC.seq ?_
                refine TC.region ?_
                refine TL.move rfl rfl (v := bp b_1 0) rfl ?_
                refine TL.call (R := G.impl_Algebra_n.R) Try.call159 rfl rfl rfl (fun w hS => G.impl_Algebra_n.calls w b_1 x1 x2 x3 x4 ((Src.at h1) w hS)) ?_
                rintro r_3 _ _ ⟨rfl, rfl⟩
                refine TL.move rfl rfl (v := .int .i64 0) rfl ?_
                refine TL.done ?_
                refine TC.loop1 (σ := (Nat → Int) × Int) (γ := Unit) (Γ' := (fun p q => match p, q with | (y4, x9), _ => [(0, bp b_1 0), (4, bp b_2 0), (5, bp b_3 0), (6, bp b_4 0), (7, bp b_5 0), (8, .int .i64 x7), (9, .int .i64 x8), (10, .int .i64 (w64 (((x5 x7.toNat).toNat : Int) * ((x6 x8.toNat).toNat : Int)))), (17, .int .i64 r_1), (18, .int .i64 x7), (22, .int .i64 r_2), (23, .int .i64 x8), (38, .int .i64 r_3), (39, .int .i64 x9)])) (L' := (fun p q => match p, q with | (y4, x9), _ => [box b_2 41 [.arr 6 (enf u8v x5)], box b_3 41 [.arr 6 (enf u8v x6)], box b_4 41 [.arr 6 (enf u8v (fun _ => (0 : UInt8)))], box b_5 168 [.arr 6 (enf i64v y4)]])) (Γb := (fun p q => match p, q with | (y4, x9), _ => [(0, bp b_1 0), (4, bp b_2 0), (5, bp b_3 0), (6, bp b_4 0), (7, bp b_5 0), (8, .int .i64 x7), (9, .int .i64 x8), (10, .int .i64 (w64 (((x5 x7.toNat).toNat : Int) * ((x6 x8.toNat).toNat : Int)))), (17, .int .i64 r_1), (18, .int .i64 x7), (22, .int .i64 r_2), (23, .int .i64 x8), (38, .int .i64 r_3), (39, .int .i64 x9)])) (Lb := (fun p q => match p, q with | (y4, x9), _ => [box b_2 41 [.arr 6 (enf u8v x5)], box b_3 41 [.arr 6 (enf u8v x6)], box b_4 41 [.arr 6 (enf u8v (fun _ => (0 : UInt8)))], box b_5 168 [.arr 6 (enf i64v y4)]])) ((y2, 0)) (()) ⟨rfl, rfl, rfl, rfl, rfl, rfl, rfl, rfl, rfl, rfl, rfl, rfl, rfl, rfl, trivial⟩ [0, 0, 0, 0] rfl ?_ ?_
                · rintro ⟨y4, x9⟩ _
                  refine TC.seq ?_
                  refine TC.region ?_
                  refine TL.bin .i64 x9 r_3 rfl rfl rfl rfl (v := .bool (decide (x9 < r_3))) rfl ?_
                  refine TL.done ?_
                  refine TC.seq ?_
                  refine TC.cond (b := (decide (x9 < r_3))) rfl (fun c7 => ?_) (fun c8 => ?_)
                  · refine TC.skip ?_
                    refine TC.seq ?_
                    refine TC.block (NoEx.loop1 rfl) ?_
                    refine TC.seq ?_
                    refine TC.region ?_
                    refine TL.move rfl rfl (v := .int .i64 x9) rfl ?_
                    refine TL.assign rfl rfl (v := .int .i64 x9) rfl ?_
                    refine TL.done ?_
                    refine TC.wk (Γ' := [(0, bp b_1 0), (4, bp b_2 0), (5, bp b_3 0), (6, bp b_4 0), (7, bp b_5 0), (8, .int .i64 x7), (9, .int .i64 x8), (10, .int .i64 (w64 (((x5 x7.toNat).toNat : Int) * ((x6 x8.toNat).toNat : Int)))), (17, .int .i64 r_1), (18, .int .i64 x7), (22, .int .i64 r_2), (23, .int .i64 x8), (38, .int .i64 r_3), (39, .int .i64 x9), (40, .bool (decide (x9 < r_3))), (41, .int .i64 x9), (11, .int .i64 x9)]) ⟨rfl, rfl, rfl, rfl, rfl, rfl, rfl, rfl, rfl, rfl, rfl, rfl, rfl, rfl, rfl, rfl, rfl, trivial⟩ ?_
                    refine TC.chk fun h4 => ?_
                    refine TC.draw [.int .i64 x9, bp b_5 x9.toNat, .int .i64 (y4 x9.toNat), .int .i64 (w64 (((x5 x7.toNat).toNat : Int) * ((x6 x8.toNat).toNat : Int))), bp b_1 0, .int .i64 x7, .int .i64 x8, .int .i64 x9, bp b_1 0, bp b_1 2, bp b_1 (2 + x7.toNat * 36), bp b_1 (2 + (x7.toNat * 36 + x8.toNat * 6)), bp b_1 (2 + (x7.toNat * 36 + x8.toNat * 6 + x9.toNat)), u8v (x3 (x7.toNat * 36 + x8.toNat * 6 + x9.toNat)), .int .i64 ((x3 (x7.toNat * 36 + x8.toNat * 6 + x9.toNat)).toNat : Int), .int .i64 (w64 ((w64 (((x5 x7.toNat).toNat : Int) * ((x6 x8.toNat).toNat : Int))) * ((x3 (x7.toNat * 36 + x8.toNat * 6 + x9.toNat)).toNat : Int))), .int .i64 (w64 ((y4 x9.toNat) + (w64 ((w64 (((x5 x7.toNat).toNat : Int) * ((x6 x8.toNat).toNat : Int))) * ((x3 (x7.toNat * 36 + x8.toNat * 6 + x9.toNat)).toNat : Int))))), bp b_5 x9.toNat, undef] 18 [box b_2 41 [.arr 6 (enf u8v x5)], box b_3 41 [.arr 6 (enf u8v x6)], box b_4 41 [.arr 6 (enf u8v (fun _ => (0 : UInt8)))], box b_5 168 [.arr 6 (enf i64v (upd y4 x9.toNat (w64 ((y4 x9.toNat) + (w64 ((w64 (((x5 x7.toNat).toNat : Int) * ((x6 x8.toNat).toNat : Int))) * ((x3 (x7.toNat * 36 + x8.toNat * 6 + x9.toNat)).toNat : Int)))))))]] (by kernel_rfl) rfl rfl rfl rfl ?_ ?_
                    · refine ⟨?_, ?_, ?_, ?_, ?_, ?_, ?_, ?_, ?_, ?_, ?_, ?_, ?_, ?_, ?_, ?_, ?_, ?_, ?_, trivial⟩
                      · refine TL.move rfl rfl (v := .int .i64 x9) rfl ?_
                        refine TL.done ?_
                        exact TC.nrm () () ⟨rfl, trivial⟩ [0, 0, 0, 0] (by kernel_rfl)
                      · refine TL.ixa x9 x9.toNat h4 Try.underlying168 Try.sizeOf2 rfl rfl rfl rfl (by omega) ?_
                        refine TL.done ?_
                        exact TC.nrm () () ⟨rfl, trivial⟩ [0, 0, 0, 0] (by kernel_rfl)
                      · refine TL.loadA x9.toNat 0 (Src.box 3 rfl) Try.isAgg2 rfl (by omega) (v := .int .i64 (y4 x9.toNat)) rfl (st := 0) rfl (by omega) rfl rfl rfl ?_
                        refine TL.done ?_
                        exact TC.nrm () () ⟨rfl, trivial⟩ [0, 0, 0, 0] (by kernel_rfl)
                      · refine TL.move rfl rfl (v := .int .i64 (w64 (((x5 x7.toNat).toNat : Int) * ((x6 x8.toNat).toNat : Int)))) rfl ?_
                        refine TL.done ?_
                        exact TC.nrm () () ⟨rfl, trivial⟩ [0, 0, 0, 0] (by kernel_rfl)
                      · refine TL.move rfl rfl (v := bp b_1 0) rfl ?_
                        refine TL.done ?_
                        exact TC.nrm () () ⟨rfl, trivial⟩ [0, 0, 0, 0] (by kernel_rfl)
                      · refine TL.move rfl rfl (v := .int .i64 x7) rfl ?_
                        refine TL.done ?_
                        exact TC.nrm () () ⟨rfl, trivial⟩ [0, 0, 0, 0] (by kernel_rfl)
                      · refine TL.move rfl rfl (v := .int .i64 x8) rfl ?_
                        refine TL.done ?_
                        exact TC.nrm () () ⟨rfl, trivial⟩ [0, 0, 0, 0] (by kernel_rfl)
                      · refine TL.move rfl rfl (v := .int .i64 x9) rfl ?_
                        refine TL.done ?_
                        exact TC.nrm () () ⟨rfl, trivial⟩ [0, 0, 0, 0] (by kernel_rfl)
                      · refine TL.nilCheck rfl rfl rfl ?_
                        refine TL.done ?_
                        exact TC.nrm () () ⟨rfl, trivial⟩ [0, 0, 0, 0] (by kernel_rfl)
                      · refine TL.fa Try.underlying43 rfl Try.sizeOf40 rfl 2 rfl rfl rfl rfl ?_
                        refine TL.done ?_
                        exact TC.nrm () () ⟨rfl, trivial⟩ [0, 0, 0, 0] (by kernel_rfl)
                      · refine TL.ixa x7 (2 + x7.toNat * 36) h2 Try.underlying40 Try.sizeOf39 rfl rfl rfl rfl (by omega) ?_
                        refine TL.done ?_
                        exact TC.nrm () () ⟨rfl, trivial⟩ [0, 0, 0, 0] (by kernel_rfl)
                      · refine TL.ixa x8 (2 + (x7.toNat * 36 + x8.toNat * 6)) h3 Try.underlying39 Try.sizeOf38 rfl rfl rfl rfl (by omega) ?_
                        refine TL.done ?_
                        exact TC.nrm () () ⟨rfl, trivial⟩ [0, 0, 0, 0] (by kernel_rfl)
                      · refine TL.ixa x9 (2 + (x7.toNat * 36 + x8.toNat * 6 + x9.toNat)) h4 Try.underlying38 Try.sizeOf5 rfl rfl rfl rfl (by omega) ?_
                        refine TL.done ?_
                        exact TC.nrm () () ⟨rfl, trivial⟩ [0, 0, 0, 0] (by kernel_rfl)
                      · refine TL.loadA (x7.toNat * 36 + x8.toNat * 6 + x9.toNat) 2 (Src.at h1) Try.isAgg5 rfl (by omega) (v := u8v (x3 (x7.toNat * 36 + x8.toNat * 6 + x9.toNat))) rfl (st := 2) rfl (by omega) rfl rfl rfl ?_
                        refine TL.done ?_
                        exact TC.nrm () () ⟨rfl, trivial⟩ [0, 0, 0, 0] (by kernel_rfl)
                      · refine TL.conv .u8 .i64 ((x3 (x7.toNat * 36 + x8.toNat * 6 + x9.toNat)).toNat : Int) _ rfl rfl rfl Try.underlying5 Try.underlying2 (v := .int .i64 ((x3 (x7.toNat * 36 + x8.toNat * 6 + x9.toNat)).toNat : Int)) (conv_u8_i64 _) ?_
                        refine TL.done ?_
                        exact TC.nrm () () ⟨rfl, trivial⟩ [0, 0, 0, 0] (by kernel_rfl)
                      · refine TL.bin .i64 (w64 (((x5 x7.toNat).toNat : Int) * ((x6 x8.toNat).toNat : Int))) ((x3 (x7.toNat * 36 + x8.toNat * 6 + x9.toNat)).toNat : Int) rfl rfl rfl rfl (v := .int .i64 (w64 ((w64 (((x5 x7.toNat).toNat : Int) * ((x6 x8.toNat).toNat : Int))) * ((x3 (x7.toNat * 36 + x8.toNat * 6 + x9.toNat)).toNat : Int)))) rfl ?_
                        refine TL.done ?_
                        exact TC.nrm () () ⟨rfl, trivial⟩ [0, 0, 0, 0] (by kernel_rfl)
                      · refine TL.bin .i64 (y4 x9.toNat) (w64 ((w64 (((x5 x7.toNat).toNat : Int) * ((x6 x8.toNat).toNat : Int))) * ((x3 (x7.toNat * 36 + x8.toNat * 6 + x9.toNat)).toNat : Int))) rfl rfl rfl rfl (v := .int .i64 (w64 ((y4 x9.toNat) + (w64 ((w64 (((x5 x7.toNat).toNat : Int) * ((x6 x8.toNat).toNat : Int))) * ((x3 (x7.toNat * 36 + x8.toNat * 6 + x9.toNat)).toNat : Int)))))) rfl ?_
                        refine TL.done ?_
                        exact TC.nrm () () ⟨rfl, trivial⟩ [0, 0, 0, 0] (by kernel_rfl)
                      · refine TL.ixa x9 x9.toNat h4 Try.underlying168 Try.sizeOf2 rfl rfl rfl rfl (by omega) ?_
                        refine TL.done ?_
                        exact TC.nrm () () ⟨rfl, trivial⟩ [0, 0, 0, 0] (by kernel_rfl)
                      · refine TL.stA (e := i64v) (z := (w64 ((y4 x9.toNat) + (w64 ((w64 (((x5 x7.toNat).toNat : Int) * ((x6 x8.toNat).toNat : Int))) * ((x3 (x7.toNat * 36 + x8.toNat * 6 + x9.toNat)).toNat : Int)))))) 3 0 x9.toNat rfl Try.sizeOf2 rfl (by omega) (s := 0) rfl (by omega) rfl rfl rfl rfl rfl ?_
                        refine TL.done ?_
                        exact TC.nrm () () trivial [0, 0, 0, 0] (by kernel_rfl)
                    · refine TC.region ?_
                      refine TL.bin .i64 x9 1 rfl rfl rfl rfl (v := .int .i64 (w64 (x9 + 1))) rfl ?_
                      refine TL.move rfl rfl (v := .int .i64 (w64 (x9 + 1))) rfl ?_
                      refine TL.done ?_
                      exact TC.next1 (((upd y4 x9.toNat (w64 ((y4 x9.toNat) + (w64 ((w64 (((x5 x7.toNat).toNat : Int) * ((x6 x8.toNat).toNat : Int))) * ((x3 (x7.toNat * 36 + x8.toNat * 6 + x9.toNat)).toNat : Int)))))), (w64 (x9 + 1)))) (()) ⟨rfl, rfl, rfl, rfl, rfl, rfl, rfl, rfl, rfl, rfl, rfl, rfl, rfl, rfl, trivial⟩ [0, 0, 0, 0] rfl
                  · exact TC.brk1 ((y4, x9)) (()) ⟨rfl, rfl, rfl, rfl, rfl, rfl, rfl, rfl, rfl, rfl, rfl, rfl, rfl, rfl, trivial⟩ [0, 0, 0, 0] rfl
                · rintro ⟨y4, x9⟩ _
                  exact TC.inlB (y4) (()) ⟨rfl, rfl, rfl, rfl, rfl, rfl, rfl, rfl, rfl, rfl, trivial⟩ [0, 0, 0, 0] rfl
          · rintro y3 _
            refine TC.region ?_
            refine TL.bin .i64 x8 1 rfl rfl rfl rfl (v := .int .i64 (w64 (x8 + 1))) rfl ?_
            refine TL.move rfl rfl (v := .int .i64 (w64 (x8 + 1))) rfl ?_
            refine TL.done ?_
            exact TC.next1 ((y3, (w64 (x8 + 1)))) (()) ⟨rfl, rfl, rfl, rfl, rfl, rfl, rfl, rfl, rfl, rfl, trivial⟩ [0, 0, 0, 0] rfl
        · exact TC.brk1 ((y2, x8)) (()) ⟨rfl, rfl, rfl, rfl, rfl, rfl, rfl, rfl, rfl, rfl, trivial⟩ [0, 0, 0, 0] rfl
      · rintro ⟨y2, x8⟩ _
        refine TC.region ?_
        refine TL.bin .i64 x7 1 rfl rfl rfl rfl (v := .int .i64 (w64 (x7 + 1))) rfl ?_
        refine TL.move rfl rfl (v := .int .i64 (w64 (x7 + 1))) rfl ?_
        refine TL.done ?_
        exact TC.next1 ((y2, (w64 (x7 + 1)))) (()) ⟨rfl, rfl, rfl, rfl, rfl, rfl, rfl, trivial⟩ [0, 0, 0, 0] rfl
    · exact TC.brk1 ((y1, x7)) (()) ⟨rfl, rfl, rfl, rfl, rfl, rfl, rfl, trivial⟩ [0, 0, 0, 0] rfl
  · rintro ⟨y1, x7⟩ _
    refine TC.seq ?_
    refine TC.region ?_
    refine TL.buildA (segs0 := [.arr 6 (enf u8v (fun _ => (0 : UInt8)))]) (segs := [.arr 6 (enf u8v (fun _ => (0 : UInt8)))]) Try.underlying41 Try.sizeOf5 Try.zeroValue41 rfl [] rfl rfl rfl rfl ?_
    refine TL.alloc [.arr 6 (enf u8v (fun _ => (0 : UInt8)))] rfl rfl Try.zeroValue41 rfl fun b_6 => ?_
    refine TL.stM (news := [.arr 6 (enf u8v (fun _ => (0 : UInt8)))]) 0 0 1 rfl Try.sizeOf41 (ones_arr (fun _ => rfl) ones_nil) rfl rfl rfl rfl rfl rfl ?_
    refine TL.done ?_
    refine TC.seq ?_
    refine TC.seq ?_
    refine TC.region ?_
    refine TL.loadM 0 1 (Src.box 4 rfl) Try.isAgg168 Try.sizeOf168 (mid := [.arr 6 (enf i64v y1)]) rfl rfl rfl rfl rfl rfl ?_
    refine TL.move rfl rfl (v := .int .i64 0) rfl ?_
    refine TL.done ?_
    refine TC.loop1 (σ := (Nat → UInt8) × Int) (γ := Unit) (Γ' := (fun p q => match p, q with | (y5, x10), _ => [(0, bp b_1 0), (6, bp b_4 0), (12, bp b_6 0), (64, sval [.arr 6 (enf i64v y1)]), (65, .int .i64 x10)])) (L' := (fun p q => match p, q with | (y5, x10), _ => [box b_4 41 [.arr 6 (enf u8v (fun _ => (0 : UInt8)))], box b_6 41 [.arr 6 (enf u8v y5)]])) (Γb := (fun p q => match p, q with | (y5, x10), _ => [(0, bp b_1 0), (6, bp b_4 0), (12, bp b_6 0), (64, sval [.arr 6 (enf i64v y1)]), (65, .int .i64 x10)])) (Lb := (fun p q => match p, q with | (y5, x10), _ => [box b_4 41 [.arr 6 (enf u8v (fun _ => (0 : UInt8)))], box b_6 41 [.arr 6 (enf u8v y5)]])) (((fun _ => (0 : UInt8)), 0)) (()) ⟨rfl, rfl, rfl, rfl, rfl, trivial⟩ [3, 0] rfl ?_ ?_
    · rintro ⟨y5, x10⟩ _
      refine TC.seq ?_
      refine TC.region ?_
      refine TL.bin .i64 x10 6 rfl rfl rfl rfl (v := .bool (decide (x10 < 6))) rfl ?_
      refine TL.done ?_
      refine TC.seq ?_
      refine TC.cond (b := (decide (x10 < 6))) rfl (fun c9 => ?_) (fun c10 => ?_)
      · refine TC.skip ?_
        refine TC.seq ?_
        refine TC.block (NoEx.loop1 rfl) ?_
        refine TC.seq ?_
        refine TC.region ?_
        refine TL.move rfl rfl (v := .int .i64 x10) rfl ?_
        refine TL.chk fun h5 => ?_
        refine TL.ixv1 x10 h5 Try.underlying168 Try.isAgg2 Try.sizeOf2 (v := .int .i64 (y1 x10.toNat)) rfl rfl rfl rfl rfl ?_
        refine TL.assign rfl rfl (v := .int .i64 x10) rfl ?_
        refine TL.assign rfl rfl (v := .int .i64 (y1 x10.toNat)) rfl ?_
        refine TL.done ?_
        refine TC.region ?_
        refine TL.move rfl rfl (v := .int .i64 x10) rfl ?_
        refine TL.move rfl rfl (v := .int .i64 (y1 x10.toNat)) rfl ?_
        refine TL.move rfl rfl (v := bp b_1 0) rfl ?_
        refine TL.nilCheck rfl rfl rfl ?_
        refine TL.fa Try.underlying43 rfl Try.sizeOf2 rfl 0 rfl rfl rfl rfl ?_
        refine TL.load1 0 (Src.at h1) Try.isAgg2 rfl rfl rfl rfl rfl ?_
        refine TL.nz fun z1 => ?_
        refine TL.rem .i64 (y1 x10.toNat) x1 z1 rfl rfl rfl rfl ?_
        refine TL.conv .i64 .u8 (Int.tmod (y1 x10.toNat) x1) _ rfl rfl rfl Try.underlying2 Try.underlying5 (v := u8v (UInt8.ofInt (Int.tmod (y1 x10.toNat) x1))) (conv_i64_u8 _) ?_
        refine TL.ixa x10 x10.toNat h5 Try.underlying41 Try.sizeOf5 rfl rfl rfl rfl (by omega) ?_
        refine TL.stA (e := u8v) (z := (UInt8.ofInt (Int.tmod (y1 x10.toNat) x1))) 1 0 x10.toNat rfl Try.sizeOf5 rfl (by omega) (s := 0) rfl (by omega) rfl rfl rfl rfl rfl ?_
        refine TL.done ?_
        refine TC.region ?_
        refine TL.bin .i64 x10 1 rfl rfl rfl rfl (v := .int .i64 (w64 (x10 + 1))) rfl ?_
        refine TL.move rfl rfl (v := .int .i64 (w64 (x10 + 1))) rfl ?_
        refine TL.done ?_
        exact TC.next1 (((upd y5 x10.toNat (UInt8.ofInt (Int.tmod (y1 x10.toNat) x1))), (w64 (x10 + 1)))) (()) ⟨rfl, rfl, rfl, rfl, rfl, trivial⟩ [0, 0] rfl
      · exact TC.brk1 ((y5, x10)) (()) ⟨rfl, rfl, rfl, rfl, rfl, trivial⟩ [0, 0] rfl
    · rintro ⟨y5, x10⟩ _
      refine TC.seq ?_
      refine TC.region ?_
      refine TL.loadM 0 1 (Src.box 1 rfl) Try.isAgg41 Try.sizeOf41 (mid := [.arr 6 (enf u8v y5)]) rfl rfl rfl rfl rfl rfl ?_
      refine TL.stM (news := [.arr 6 (enf u8v y5)]) 0 0 1 rfl Try.sizeOf41 (ones_arr (fun _ => rfl) ones_nil) rfl rfl rfl rfl rfl rfl ?_
      refine TL.done ?_
      exact TC.retF (Fin.body (fin1 (.inr rfl) rfl (.cellN rfl (Src.box 0 rfl) Try.isAgg41 Try.sizeOf41 rfl) [] rfl ⟨rfl, rfl⟩))

end Go.Proofs.Ytiiljfpbcanphaa.G

/- impl.Algebra).associative, as a pure function. -/
set_option linter.unusedVariables false
namespace Go.Proofs.Ytiiljfpbcanphaa.G
open Go Go.Sx Go.Proofs

def impl_Algebra_associative.b0 (r_3 : Int) (x1 : Int) (x2 : Int) (a_1 : Int) (a_2 : Int) (a_3 : Nat → UInt8) (a_4 : Nat → UInt8) : Int → Option (LR Int (LR Int (LR Int Bool))) := fun x3 => (bif (decide (x3 < r_3)) then chk x1 6 (chk x2 6 ((G.impl_basis.f x3).bind (fun r_4 => (G.impl_Algebra_times.f a_1 a_2 a_3 a_4 (sub a_3 (x1.toNat * 36 + x2.toNat * 6)) r_4).bind (fun r_5 => (G.impl_basis.f x1).bind (fun r_6 => chk x3 6 ((G.impl_Algebra_times.f a_1 a_2 a_3 a_4 r_6 (sub a_3 (x2.toNat * 36 + x3.toNat * 6))).bind (fun r_7 => (bif (!((List.range 6).all fun i_ => ((r_5 i_).toNat : Int) == ((r_7 i_).toNat : Int))) then some (.ret (.ret (.ret (false)))) else some (.next (w64 (x3 + 1))))))))))) else some (.brk x3))

def impl_Algebra_associative.b1 (r_2 : Int) (a_1 : Int) (a_2 : Int) (a_3 : Nat → UInt8) (a_4 : Nat → UInt8) (x1 : Int) : Int → Option (LR Int (LR Int Bool)) := fun x2 => (bif (decide (x2 < r_2)) then (G.impl_Algebra_n.f a_1 a_2 a_3 a_4).bind (fun r_3 => (loop (impl_Algebra_associative.b0 r_3 x1 x2 a_1 a_2 a_3 a_4) 0).bind (ln (fun x3 => some (.next (w64 (x2 + 1)))))) else some (.brk x2))

def impl_Algebra_associative.b2 (r_1 : Int) (a_1 : Int) (a_2 : Int) (a_3 : Nat → UInt8) (a_4 : Nat → UInt8) : Int → Option (LR Int Bool) := fun x1 => (bif (decide (x1 < r_1)) then (G.impl_Algebra_n.f a_1 a_2 a_3 a_4).bind (fun r_2 => (loop (impl_Algebra_associative.b1 r_2 a_1 a_2 a_3 a_4 x1) 0).bind (ln (fun x2 => some (.next (w64 (x1 + 1)))))) else some (.brk x1))

def impl_Algebra_associative.f (a_1 : Int) (a_2 : Int) (a_3 : Nat → UInt8) (a_4 : Nat → UInt8) : Option Bool := (G.impl_Algebra_n.f a_1 a_2 a_3 a_4).bind (fun r_1 => (loop (impl_Algebra_associative.b2 r_1 a_1 a_2 a_3 a_4) 0).bind (ln (fun x1 => some true)))

def impl_Algebra_associative.R (r : Bool) (v : Value) (L : List Asn) : Prop := v = .bool r ∧ L = []

set_option maxRecDepth 100000 in
set_option maxHeartbeats 4000000 in
theorem impl_Algebra_associative.calls (w : World) (b_1 : Nat) (a_1 : Int) (a_2 : Int) (a_3 : Nat → UInt8) (a_4 : Nat → UInt8) (h1 : At (hp w) b_1 [.one (.int .i64 a_1), .one (.int .i64 a_2), .arr 216 (enf u8v a_3), .arr 6 (enf u8v a_4)]) :
    ∀ r, impl_Algebra_associative.f a_1 a_2 a_3 a_4 = some r → Calls Try.prog 113 #[bp b_1 0] w (Ret w (impl_Algebra_associative.R r)) := by

  refine calls_T (n := 49) (Γ := [(0, bp b_1 0)]) (R := impl_Algebra_associative.R) Try.func113 rfl rfl (Nat.le_of_ble_eq_true rfl) ⟨rfl, trivial⟩ ?_
  unfold impl_Algebra_associative.f
  refine TC.seq ?_
  refine TC.region ?_
  refine TL.assign rfl rfl (v := .bool false) rfl ?_
  refine TL.done ?_
  refine TC.seq ?_
  refine TC.seq ?_
  refine TC.region ?_
  refine TL.move rfl rfl (v := bp b_1 0) rfl ?_
  refine TL.call (R := G.impl_Algebra_n.R) Try.call159 rfl rfl rfl (fun w hS => G.impl_Algebra_n.calls w b_1 a_1 a_2 a_3 a_4 ((Src.at h1) w hS)) ?_
  rintro r_1 _ _ ⟨rfl, rfl⟩
  refine TL.move rfl rfl (v := .int .i64 0) rfl ?_
  refine TL.done ?_
  refine TC.loopK (σ := Int) (γ := Unit) (Γ' := (fun x1 _ => [(0, bp b_1 0), (7, .int .i64 r_1), (8, .int .i64 x1)])) (L' := (fun x1 _ => [])) (Γb := (fun x1 _ => [(0, bp b_1 0), (7, .int .i64 r_1), (8, .int .i64 x1)])) (Lb := (fun x1 _ => [])) (0) (()) ⟨rfl, rfl, rfl, trivial⟩ [] rfl ?_ ?_
  · rintro x1 _
    refine TC.seq ?_
    refine TC.region ?_
    refine TL.bin .i64 x1 r_1 rfl rfl rfl rfl (v := .bool (decide (x1 < r_1))) rfl ?_
    refine TL.done ?_
    refine TC.seq ?_
    refine TC.cond (b := (decide (x1 < r_1))) rfl (fun c1 => ?_) (fun c2 => ?_)
    · refine TC.skip ?_
      refine TC.seq ?_
      refine TC.block (NoEx.loop rfl NoEx.body) ?_
      refine TC.seq ?_
      refine TC.region ?_
      refine TL.move rfl rfl (v := .int .i64 x1) rfl ?_
      refine TL.assign rfl rfl (v := .int .i64 x1) rfl ?_
      refine TL.done ?_
      refine TC.seq ?_
      refine TC.region ?_
      refine TL.move rfl rfl (v := bp b_1 0) rfl ?_
      refine TL.call (R := G.impl_Algebra_n.R) Try.call159 rfl rfl rfl (fun w hS => G.impl_Algebra_n.calls w b_1 a_1 a_2 a_3 a_4 ((Src.at h1) w hS)) ?_
      rintro r_2 _ _ ⟨rfl, rfl⟩
      refine TL.move rfl rfl (v := .int .i64 0) rfl ?_
      refine TL.done ?_
      refine TC.loopK (σ := Int) (γ := Unit) (Γ' := (fun x2 _ => [(0, bp b_1 0), (3, .int .i64 x1), (7, .int .i64 r_1), (8, .int .i64 x1), (12, .int .i64 r_2), (13, .int .i64 x2)])) (L' := (fun x2 _ => [])) (Γb := (fun x2 _ => [(0, bp b_1 0), (3, .int .i64 x1), (7, .int .i64 r_1), (8, .int .i64 x1), (12, .int .i64 r_2), (13, .int .i64 x2)])) (Lb := (fun x2 _ => [])) (0) (()) ⟨rfl, rfl, rfl, rfl, rfl, rfl, trivial⟩ [] rfl ?_ ?_
      · rintro x2 _
        refine TC.seq ?_
        refine TC.region ?_
        refine TL.bin .i64 x2 r_2 rfl rfl rfl rfl (v := .bool (decide (x2 < r_2))) rfl ?_
        refine TL.done ?_
        refine TC.seq ?_
        refine TC.cond (b := (decide (x2 < r_2))) rfl (fun c3 => ?_) (fun c4 => ?_)
        · refine TC.skip ?_
          refine TC.seq ?_
          refine TC.block (NoEx.loop rfl (NoEx.loop rfl NoEx.body)) ?_
          refine TC.seq ?_
          refine TC.region ?_
          refine TL.move rfl rfl (v := .int .i64 x2) rfl ?_
          refine TL.assign rfl rfl (v := .int .i64 x2) rfl ?_
          refine TL.done ?_
          refine TC.seq ?_
          refine TC.region ?_
          refine TL.move rfl rfl (v := bp b_1 0) rfl ?_
          refine TL.call (R := G.impl_Algebra_n.R) Try.call159 rfl rfl rfl (fun w hS => G.impl_Algebra_n.calls w b_1 a_1 a_2 a_3 a_4 ((Src.at h1) w hS)) ?_
          rintro r_3 _ _ ⟨rfl, rfl⟩
          refine TL.move rfl rfl (v := .int .i64 0) rfl ?_
          refine TL.done ?_
          refine TC.loopK (σ := Int) (γ := Unit) (Γ' := (fun x3 _ => [(0, bp b_1 0), (3, .int .i64 x1), (4, .int .i64 x2), (7, .int .i64 r_1), (8, .int .i64 x1), (12, .int .i64 r_2), (13, .int .i64 x2), (17, .int .i64 r_3), (18, .int .i64 x3)])) (L' := (fun x3 _ => [])) (Γb := (fun x3 _ => [(0, bp b_1 0), (3, .int .i64 x1), (4, .int .i64 x2), (7, .int .i64 r_1), (8, .int .i64 x1), (12, .int .i64 r_2), (13, .int .i64 x2), (17, .int .i64 r_3), (18, .int .i64 x3)])) (Lb := (fun x3 _ => [])) (0) (()) ⟨rfl, rfl, rfl, rfl, rfl, rfl, rfl, rfl, rfl, trivial⟩ [] rfl ?_ ?_
          · rintro x3 _
            refine TC.seq ?_
            refine TC.region ?_
            refine TL.bin .i64 x3 r_3 rfl rfl rfl rfl (v := .bool (decide (x3 < r_3))) rfl ?_
            refine TL.done ?_
            refine TC.seq ?_
            refine TC.cond (b := (decide (x3 < r_3))) rfl (fun c5 => ?_) (fun c6 => ?_)
            · refine TC.skip ?_
              refine TC.seq ?_
              refine TC.block (NoEx.loop rfl (NoEx.loop rfl (NoEx.loop rfl NoEx.body))) ?_
              refine TC.seq ?_
              refine TC.region ?_
              refine TL.move rfl rfl (v := .int .i64 x3) rfl ?_
              refine TL.assign rfl rfl (v := .int .i64 x3) rfl ?_
              refine TL.done ?_
              refine TC.seq ?_
              refine TC.wk (Γ' := [(0, bp b_1 0), (3, .int .i64 x1), (4, .int .i64 x2), (7, .int .i64 r_1), (8, .int .i64 x1), (12, .int .i64 r_2), (13, .int .i64 x2), (17, .int .i64 r_3), (18, .int .i64 x3), (19, .bool (decide (x3 < r_3))), (20, .int .i64 x3), (5, .int .i64 x3)]) ⟨rfl, rfl, rfl, rfl, rfl, rfl, rfl, rfl, rfl, rfl, rfl, rfl, trivial⟩ ?_
              refine TC.chk fun h2 => ?_
              refine TC.chk fun h3 => ?_
              refine TC.bindE fun r_4 hr1 => ?_
              refine TC.bindE fun r_5 hr2 => ?_
              refine TC.bindE fun r_6 hr3 => ?_
              refine TC.chk fun h4 => ?_
              refine TC.bindE fun r_7 hr4 => ?_
              refine TC.draw [bp b_1 0, bp b_1 0, .int .i64 x1, .int .i64 x2, bp b_1 0, bp b_1 2, bp b_1 (2 + x1.toNat * 36), bp b_1 (2 + (x1.toNat * 36 + x2.toNat * 6)), sval [.arr 6 (enf u8v (sub a_3 (x1.toNat * 36 + x2.toNat * 6)))], .int .i64 x3, sval [.arr 6 (enf u8v r_4)], sval [.arr 6 (enf u8v r_5)], bp b_1 0, .int .i64 x1, sval [.arr 6 (enf u8v r_6)], bp b_1 0, .int .i64 x2, .int .i64 x3, bp b_1 0, bp b_1 2, bp b_1 (2 + x2.toNat * 36), bp b_1 (2 + (x2.toNat * 36 + x3.toNat * 6)), sval [.arr 6 (enf u8v (sub a_3 (x2.toNat * 36 + x3.toNat * 6)))], sval [.arr 6 (enf u8v r_7)], .bool (!((List.range 6).all fun i_ => ((r_5 i_).toNat : Int) == ((r_7 i_).toNat : Int)))] 25 [] (by kernel_rfl) rfl rfl rfl rfl ?_ ?_
              · refine ⟨?_, ?_, ?_, ?_, ?_, ?_, ?_, ?_, ?_, ?_, ?_, ?_, ?_, ?_, ?_, ?_, ?_, ?_, ?_, ?_, ?_, ?_, ?_, ?_, ?_, trivial⟩
                · refine TL.move rfl rfl (v := bp b_1 0) rfl ?_
                  refine TL.done ?_
                  exact TC.nrm () () ⟨rfl, trivial⟩ [] (by kernel_rfl)
                · refine TL.move rfl rfl (v := bp b_1 0) rfl ?_
                  refine TL.done ?_
                  exact TC.nrm () () ⟨rfl, trivial⟩ [] (by kernel_rfl)
                · refine TL.move rfl rfl (v := .int .i64 x1) rfl ?_
                  refine TL.done ?_
                  exact TC.nrm () () ⟨rfl, trivial⟩ [] (by kernel_rfl)
                · refine TL.move rfl rfl (v := .int .i64 x2) rfl ?_
                  refine TL.done ?_
                  exact TC.nrm () () ⟨rfl, trivial⟩ [] (by kernel_rfl)
                · refine TL.nilCheck rfl rfl rfl ?_
                  refine TL.done ?_
                  exact TC.nrm () () ⟨rfl, trivial⟩ [] (by kernel_rfl)
                · refine TL.fa Try.underlying43 rfl Try.sizeOf40 rfl 2 rfl rfl rfl rfl ?_
                  refine TL.done ?_
                  exact TC.nrm () () ⟨rfl, trivial⟩ [] (by kernel_rfl)
                · refine TL.ixa x1 (2 + x1.toNat * 36) h2 Try.underlying40 Try.sizeOf39 rfl rfl rfl rfl (by omega) ?_
                  refine TL.done ?_
                  exact TC.nrm () () ⟨rfl, trivial⟩ [] (by kernel_rfl)
                · refine TL.ixa x2 (2 + (x1.toNat * 36 + x2.toNat * 6)) h3 Try.underlying39 Try.sizeOf38 rfl rfl rfl rfl (by omega) ?_
                  refine TL.done ?_
                  exact TC.nrm () () ⟨rfl, trivial⟩ [] (by kernel_rfl)
                · refine TL.loadS (x1.toNat * 36 + x2.toNat * 6) 2 (Src.at h1) Try.isAgg38 Try.sizeOf38 rfl (by omega) (v := sval [.arr 6 (enf u8v (sub a_3 (x1.toNat * 36 + x2.toNat * 6)))]) rfl (st := 2) rfl (by omega) rfl rfl rfl ?_
                  refine TL.done ?_
                  exact TC.nrm () () ⟨rfl, trivial⟩ [] (by kernel_rfl)
                · refine TL.move rfl rfl (v := .int .i64 x3) rfl ?_
                  refine TL.done ?_
                  exact TC.nrm () () ⟨rfl, trivial⟩ [] (by kernel_rfl)
                · refine TL.callH (R := G.impl_basis.R) hr1 Try.call87 rfl rfl rfl (fun w hS => G.impl_basis.calls w x3) ?_
                  rintro _ _ ⟨rfl, rfl⟩
                  refine TL.done ?_
                  exact TC.nrm () () ⟨rfl, trivial⟩ [] (by kernel_rfl)
                · refine TL.callH (R := G.impl_Algebra_times.R) hr2 Try.call160 rfl rfl rfl (fun w hS => G.impl_Algebra_times.calls w b_1 a_1 a_2 a_3 a_4 (sub a_3 (x1.toNat * 36 + x2.toNat * 6)) r_4 ((Src.at h1) w hS)) ?_
                  rintro _ _ ⟨rfl, rfl⟩
                  refine TL.done ?_
                  exact TC.nrm () () ⟨rfl, trivial⟩ [] (by kernel_rfl)
                · refine TL.move rfl rfl (v := bp b_1 0) rfl ?_
                  refine TL.done ?_
                  exact TC.nrm () () ⟨rfl, trivial⟩ [] (by kernel_rfl)
                · refine TL.move rfl rfl (v := .int .i64 x1) rfl ?_
                  refine TL.done ?_
                  exact TC.nrm () () ⟨rfl, trivial⟩ [] (by kernel_rfl)
                · refine TL.callH (R := G.impl_basis.R) hr3 Try.call87 rfl rfl rfl (fun w hS => G.impl_basis.calls w x1) ?_
                  rintro _ _ ⟨rfl, rfl⟩
                  refine TL.done ?_
                  exact TC.nrm () () ⟨rfl, trivial⟩ [] (by kernel_rfl)
                · refine TL.move rfl rfl (v := bp b_1 0) rfl ?_
                  refine TL.done ?_
                  exact TC.nrm () () ⟨rfl, trivial⟩ [] (by kernel_rfl)
                · refine TL.move rfl rfl (v := .int .i64 x2) rfl ?_
                  refine TL.done ?_
                  exact TC.nrm () () ⟨rfl, trivial⟩ [] (by kernel_rfl)
                · refine TL.move rfl rfl (v := .int .i64 x3) rfl ?_
                  refine TL.done ?_
                  exact TC.nrm () () ⟨rfl, trivial⟩ [] (by kernel_rfl)
                · refine TL.nilCheck rfl rfl rfl ?_
                  refine TL.done ?_
                  exact TC.nrm () () ⟨rfl, trivial⟩ [] (by kernel_rfl)
                · refine TL.fa Try.underlying43 rfl Try.sizeOf40 rfl 2 rfl rfl rfl rfl ?_
                  refine TL.done ?_
                  exact TC.nrm () () ⟨rfl, trivial⟩ [] (by kernel_rfl)
                · refine TL.ixa x2 (2 + x2.toNat * 36) h3 Try.underlying40 Try.sizeOf39 rfl rfl rfl rfl (by omega) ?_
                  refine TL.done ?_
                  exact TC.nrm () () ⟨rfl, trivial⟩ [] (by kernel_rfl)
                · refine TL.ixa x3 (2 + (x2.toNat * 36 + x3.toNat * 6)) h4 Try.underlying39 Try.sizeOf38 rfl rfl rfl rfl (by omega) ?_
                  refine TL.done ?_
                  exact TC.nrm () () ⟨rfl, trivial⟩ [] (by kernel_rfl)
                · refine TL.loadS (x2.toNat * 36 + x3.toNat * 6) 2 (Src.at h1) Try.isAgg38 Try.sizeOf38 rfl (by omega) (v := sval [.arr 6 (enf u8v (sub a_3 (x2.toNat * 36 + x3.toNat * 6)))]) rfl (st := 2) rfl (by omega) rfl rfl rfl ?_
                  refine TL.done ?_
                  exact TC.nrm () () ⟨rfl, trivial⟩ [] (by kernel_rfl)
                · refine TL.callH (R := G.impl_Algebra_times.R) hr4 Try.call160 rfl rfl rfl (fun w hS => G.impl_Algebra_times.calls w b_1 a_1 a_2 a_3 a_4 r_6 (sub a_3 (x2.toNat * 36 + x3.toNat * 6)) ((Src.at h1) w hS)) ?_
                  rintro _ _ ⟨rfl, rfl⟩
                  refine TL.done ?_
                  exact TC.nrm () () ⟨rfl, trivial⟩ [] (by kernel_rfl)
                · refine TL.neAu r_5 r_7 Try.underlying41 (info_of Try.type5) (by kernel_rfl) Try.underlying5 Try.isAgg5 (by kernel_rfl) rfl rfl rfl rfl ?_
                  refine TL.done ?_
                  exact TC.nrm () () ⟨rfl, trivial⟩ [] (by kernel_rfl)
              · refine TC.cond (b := (!((List.range 6).all fun i_ => ((r_5 i_).toNat : Int) == ((r_7 i_).toNat : Int)))) rfl (fun c7 => ?_) (fun c8 => ?_)
                · refine TC.seq ?_
                  refine TC.region ?_
                  refine TL.assign rfl rfl (v := .bool false) rfl ?_
                  refine TL.done ?_
                  exact TC.retF (Fin.loop Far.ret (Fin.loop Far.ret (Fin.loop Far.ret (Fin.body (fin1 (.inr rfl) rfl (.tmp rfl) [] rfl ⟨rfl, rfl⟩)))))
                · refine TC.skip ?_
                  refine TC.region ?_
                  refine TL.bin .i64 x3 1 rfl rfl rfl rfl (v := .int .i64 (w64 (x3 + 1))) rfl ?_
                  refine TL.move rfl rfl (v := .int .i64 (w64 (x3 + 1))) rfl ?_
                  refine TL.done ?_
                  exact TC.next ((w64 (x3 + 1))) (()) ⟨rfl, rfl, rfl, rfl, rfl, rfl, rfl, rfl, rfl, trivial⟩ [] rfl
            · exact TC.brk (x3) (()) ⟨rfl, rfl, rfl, rfl, rfl, rfl, rfl, rfl, rfl, trivial⟩ [] rfl
          · rintro x3 _
            refine TC.region ?_
            refine TL.bin .i64 x2 1 rfl rfl rfl rfl (v := .int .i64 (w64 (x2 + 1))) rfl ?_
            refine TL.move rfl rfl (v := .int .i64 (w64 (x2 + 1))) rfl ?_
            refine TL.done ?_
            exact TC.next ((w64 (x2 + 1))) (()) ⟨rfl, rfl, rfl, rfl, rfl, rfl, trivial⟩ [] rfl
        · exact TC.brk (x2) (()) ⟨rfl, rfl, rfl, rfl, rfl, rfl, trivial⟩ [] rfl
      · rintro x2 _
        refine TC.region ?_
        refine TL.bin .i64 x1 1 rfl rfl rfl rfl (v := .int .i64 (w64 (x1 + 1))) rfl ?_
        refine TL.move rfl rfl (v := .int .i64 (w64 (x1 + 1))) rfl ?_
        refine TL.done ?_
        exact TC.next ((w64 (x1 + 1))) (()) ⟨rfl, rfl, rfl, trivial⟩ [] rfl
    · exact TC.brk (x1) (()) ⟨rfl, rfl, rfl, trivial⟩ [] rfl
  · rintro x1 _
    refine TC.seq ?_
    refine TC.region ?_
    refine TL.assign rfl rfl (v := .bool true) rfl ?_
    refine TL.done ?_
    exact TC.retF (Fin.body (fin1 (.inr rfl) rfl (.tmp rfl) [] rfl ⟨rfl, rfl⟩))

end Go.Proofs.Ytiiljfpbcanphaa.G

/- impl.Algebra).equations, as a pure function. -/
set_option linter.unusedVariables false
namespace Go.Proofs.Ytiiljfpbcanphaa.G
open Go Go.Sx Go.Proofs

def impl_Algebra_equations.b0 (r_2 : Int) (maps1 : List ((Nat → UInt8) → Option (Nat → UInt8))) (x1 : Int) (x2 : Int) : (List Int) × Int → Option (LB ((List Int) × Int)) := fun p => match p with | (row_1, x3) => (bif (decide (x3 < r_2)) then (G.impl_basis.f x3).bind (fun r_3 => ((gt maps1 x1) r_3).bind (fun r_4 => chk x2 6 (small (row_1.length + ([((r_4 x2.toNat).toNat : Int)] : List Int).length) (some (.next ((row_1 ++ ([((r_4 x2.toNat).toNat : Int)] : List Int)), (w64 (x3 + 1)))))))) else some (.brk (row_1, x3)))

def impl_Algebra_equations.b1 (r_1 : Int) (a_1 : Int) (a_2 : Int) (a_3 : Nat → UInt8) (a_4 : Nat → UInt8) (maps1 : List ((Nat → UInt8) → Option (Nat → UInt8))) (x1 : Int) : (List (List Int)) × Int → Option (LB ((List (List Int)) × Int)) := fun p => match p with | (out2, x2) => (bif (decide (x2 < r_1)) then (G.impl_Algebra_n.f a_1 a_2 a_3 a_4).bind (fun r_2 => (loop1 (impl_Algebra_equations.b0 r_2 maps1 x1 x2) (([] : List Int), 0)).bind (fun p => match p with | (row_1, x3) => small (out2.length + 1) (some (.next ((out2 ++ [row_1]), (w64 (x2 + 1))))))) else some (.brk (out2, x2)))

def impl_Algebra_equations.b2 (maps1 : List ((Nat → UInt8) → Option (Nat → UInt8))) (a_1 : Int) (a_2 : Int) (a_3 : Nat → UInt8) (a_4 : Nat → UInt8) : (List (List Int)) × Int → Option (LB ((List (List Int)) × Int)) := fun p => match p with | (out1, x1) => (bif (decide (x1 < (maps1.length : Int))) then chk x1 maps1.length ((G.impl_Algebra_n.f a_1 a_2 a_3 a_4).bind (fun r_1 => (loop1 (impl_Algebra_equations.b1 r_1 a_1 a_2 a_3 a_4 maps1 x1) (out1, 0)).bind (fun p => match p with | (out2, x2) => some (.next (out2, (w64 (x1 + 1))))))) else some (.brk (out1, x1)))

def impl_Algebra_equations.f (a_1 : Int) (a_2 : Int) (a_3 : Nat → UInt8) (a_4 : Nat → UInt8) (maps1 : List ((Nat → UInt8) → Option (Nat → UInt8))) : Option (List (List Int)) := (loop1 (impl_Algebra_equations.b2 maps1 a_1 a_2 a_3 a_4) (([] : List (List Int)), 0)).bind (fun p => match p with | (out1, x1) => some out1)

def impl_Algebra_equations.R (r : List (List Int)) (v : Value) (L : List Asn) : Prop := ∃ (s0 : SV) (ss0 : List SV), v = SV.v s0 ∧ L = [mat Ei 2 22 s0 ss0 r]

set_option maxRecDepth 100000 in
set_option maxHeartbeats 4000000 in
theorem impl_Algebra_equations.calls (w : World) (b_1 : Nat) (a_1 : Int) (a_2 : Int) (a_3 : Nat → UInt8) (a_4 : Nat → UInt8) (s1 : SV) (ss1 : List FV) (maps1 : List ((Nat → UInt8) → Option (Nat → UInt8))) (h1 : At (hp w) b_1 [.one (.int .i64 a_1), .one (.int .i64 a_2), .arr 216 (enf u8v a_3), .arr 6 (enf u8v a_4)]) (h2 : ReadsF Try.prog (hp w) s1 ss1 maps1) :
    ∀ r, impl_Algebra_equations.f a_1 a_2 a_3 a_4 maps1 = some r → Calls Try.prog 185 #[bp b_1 0, SV.v s1] w (Ret w (impl_Algebra_equations.R r)) := by

  refine calls_T (n := 47) (Γ := [(0, bp b_1 0), (1, SV.v s1)]) (R := impl_Algebra_equations.R) Try.func185 rfl rfl (Nat.le_of_ble_eq_true rfl) ⟨rfl, rfl, trivial⟩ ?_
  unfold impl_Algebra_equations.f
  refine TC.seq ?_
  refine TC.region ?_
  refine TL.assign rfl rfl (v := SV.v ⟨none, 0, 0⟩) rfl ?_
  refine TL.done ?_
  refine TC.seq ?_
  refine TC.region ?_
  refine TL.bslice0 Ev Try.underlying32 Try.sizeOf22 rfl rfl fun s2 => ?_
  refine TL.rows0 Ei 2 ?_
  refine TL.matmk 1 0 rfl rfl ?_
  refine TL.asL [mat Ei 2 22 s2 ([] : List SV) ([] : List (List Int)), emp] (by kernel_rfl) ?_
  refine TL.assign rfl rfl (v := SV.v s2) rfl ?_
  refine TL.done ?_
  refine TC.seq ?_
  refine TC.seq ?_
  refine TC.region ?_
  refine TL.move rfl rfl (v := SV.v s1) rfl ?_
  refine TL.lenF (Rd.old h2.1) h2.2.len Try.underlying136 rfl rfl rfl ?_
  refine TL.move rfl rfl (v := .int .i64 0) rfl ?_
  refine TL.done ?_
  refine TC.loop1 (σ := (List (List Int)) × Int) (γ := SV × (List SV)) (Γ' := (fun p q => match p, q with | (out1, x1), (s3, ss2) => [(0, bp b_1 0), (5, SV.v s3), (12, SV.v s1), (13, .int .i64 (maps1.length : Int)), (14, .int .i64 x1)])) (L' := (fun p q => match p, q with | (out1, x1), (s3, ss2) => [mat Ei 2 22 s3 ss2 out1])) (Γb := (fun p q => match p, q with | (out1, x1), (s3, ss2) => [(0, bp b_1 0), (5, SV.v s3), (12, SV.v s1), (13, .int .i64 (maps1.length : Int)), (14, .int .i64 x1)])) (Lb := (fun p q => match p, q with | (out1, x1), (s3, ss2) => [mat Ei 2 22 s3 ss2 out1])) ((([] : List (List Int)), 0)) ((s2, ([] : List SV))) ⟨rfl, rfl, rfl, rfl, rfl, trivial⟩ [0] rfl ?_ ?_
  · rintro ⟨out1, x1⟩ ⟨s3, ss2⟩
    refine TC.seq ?_
    refine TC.region ?_
    refine TL.bin .i64 x1 (maps1.length : Int) rfl rfl rfl rfl (v := .bool (decide (x1 < (maps1.length : Int)))) rfl ?_
    refine TL.done ?_
    refine TC.seq ?_
    refine TC.cond (b := (decide (x1 < (maps1.length : Int)))) rfl (fun c1 => ?_) (fun c2 => ?_)
    · refine TC.skip ?_
      refine TC.seq ?_
      refine TC.block (NoEx.loop1 rfl) ?_
      refine TC.seq ?_
      refine TC.region ?_
      refine TL.chk fun h3 => ?_
      refine TL.ixs x1 x1.toNat (Rd.old h2.1) (by rw [h2.2.len]; exact h3) Try.underlying136 Try.sizeOf138 rfl rfl rfl rfl (by omega) ?_
      refine TL.loadE (Rd.old h2.1) Try.isAgg138 x1.toNat 0 (gt_spec (by rw [h2.2.len]; exact h3)) (v := (gt ss1 x1).v) rfl (by simp only [show Ef.sz = 1 from rfl] <;> omega) rfl rfl rfl ?_
      refine TL.assign rfl rfl (v := (gt ss1 x1).v) rfl ?_
      refine TL.done ?_
      refine TC.seq ?_
      refine TC.region ?_
      refine TL.move rfl rfl (v := bp b_1 0) rfl ?_
      refine TL.call (R := G.impl_Algebra_n.R) Try.call159 rfl rfl rfl (fun w hS => G.impl_Algebra_n.calls w b_1 a_1 a_2 a_3 a_4 ((Src.at h1) w hS)) ?_
      rintro r_1 _ _ ⟨rfl, rfl⟩
      refine TL.move rfl rfl (v := .int .i64 0) rfl ?_
      refine TL.done ?_
      refine TC.loop1 (σ := (List (List Int)) × Int) (γ := SV × (List SV)) (Γ' := (fun p q => match p, q with | (out2, x2), (s4, ss3) => [(0, bp b_1 0), (5, SV.v s4), (7, (gt ss1 x1).v), (12, SV.v s1), (13, .int .i64 (maps1.length : Int)), (14, .int .i64 x1), (19, .int .i64 r_1), (20, .int .i64 x2)])) (L' := (fun p q => match p, q with | (out2, x2), (s4, ss3) => [mat Ei 2 22 s4 ss3 out2])) (Γb := (fun p q => match p, q with | (out2, x2), (s4, ss3) => [(0, bp b_1 0), (5, SV.v s4), (7, (gt ss1 x1).v), (12, SV.v s1), (13, .int .i64 (maps1.length : Int)), (14, .int .i64 x1), (19, .int .i64 r_1), (20, .int .i64 x2)])) (Lb := (fun p q => match p, q with | (out2, x2), (s4, ss3) => [mat Ei 2 22 s4 ss3 out2])) ((out1, 0)) ((s3, ss2)) ⟨rfl, rfl, rfl, rfl, rfl, rfl, rfl, rfl, trivial⟩ [0] rfl ?_ ?_
      · rintro ⟨out2, x2⟩ ⟨s4, ss3⟩
        refine TC.seq ?_
        refine TC.region ?_
        refine TL.bin .i64 x2 r_1 rfl rfl rfl rfl (v := .bool (decide (x2 < r_1))) rfl ?_
        refine TL.done ?_
        refine TC.seq ?_
        refine TC.cond (b := (decide (x2 < r_1))) rfl (fun c3 => ?_) (fun c4 => ?_)
        · refine TC.skip ?_
          refine TC.seq ?_
          refine TC.block (NoEx.loop1 rfl) ?_
          refine TC.seq ?_
          refine TC.region ?_
          refine TL.move rfl rfl (v := .int .i64 x2) rfl ?_
          refine TL.assign rfl rfl (v := .int .i64 x2) rfl ?_
          refine TL.done ?_
          refine TC.seq ?_
          refine TC.region ?_
          refine TL.bslice0 Ei Try.underlying22 Try.sizeOf2 rfl rfl fun s5 => ?_
          refine TL.assign rfl rfl (v := SV.v s5) rfl ?_
          refine TL.done ?_
          refine TC.seq ?_
          refine TC.seq ?_
          refine TC.region ?_
          refine TL.move rfl rfl (v := bp b_1 0) rfl ?_
          refine TL.call (R := G.impl_Algebra_n.R) Try.call159 rfl rfl rfl (fun w hS => G.impl_Algebra_n.calls w b_1 a_1 a_2 a_3 a_4 ((Src.at h1) w hS)) ?_
          rintro r_2 _ _ ⟨rfl, rfl⟩
          refine TL.move rfl rfl (v := .int .i64 0) rfl ?_
          refine TL.done ?_
          refine TC.loop1 (σ := (List Int) × Int) (γ := SV) (Γ' := (fun p q => match p, q with | (row_1, x3), s6 => [(0, bp b_1 0), (5, SV.v s4), (7, (gt ss1 x1).v), (8, .int .i64 x2), (9, SV.v s6), (12, SV.v s1), (13, .int .i64 (maps1.length : Int)), (14, .int .i64 x1), (19, .int .i64 r_1), (20, .int .i64 x2), (25, .int .i64 r_2), (26, .int .i64 x3)])) (L' := (fun p q => match p, q with | (row_1, x3), s6 => [mat Ei 2 22 s4 ss3 out2, row Ei 2 s6 row_1])) (Γb := (fun p q => match p, q with | (row_1, x3), s6 => [(0, bp b_1 0), (5, SV.v s4), (7, (gt ss1 x1).v), (8, .int .i64 x2), (9, SV.v s6), (12, SV.v s1), (13, .int .i64 (maps1.length : Int)), (14, .int .i64 x1), (19, .int .i64 r_1), (20, .int .i64 x2), (25, .int .i64 r_2), (26, .int .i64 x3)])) (Lb := (fun p q => match p, q with | (row_1, x3), s6 => [mat Ei 2 22 s4 ss3 out2, row Ei 2 s6 row_1])) ((([] : List Int), 0)) (s5) ⟨rfl, rfl, rfl, rfl, rfl, rfl, rfl, rfl, rfl, rfl, rfl, rfl, trivial⟩ [1, 0] rfl ?_ ?_
          · rintro ⟨row_1, x3⟩ s6
            refine TC.seq ?_
            refine TC.region ?_
            refine TL.bin .i64 x3 r_2 rfl rfl rfl rfl (v := .bool (decide (x3 < r_2))) rfl ?_
            refine TL.done ?_
            refine TC.seq ?_
            refine TC.cond (b := (decide (x3 < r_2))) rfl (fun c5 => ?_) (fun c6 => ?_)
            · refine TC.skip ?_
              refine TC.seq ?_
              refine TC.block (NoEx.loop1 rfl) ?_
              refine TC.seq ?_
              refine TC.region ?_
              refine TL.move rfl rfl (v := .int .i64 x3) rfl ?_
              refine TL.assign rfl rfl (v := .int .i64 x3) rfl ?_
              refine TL.done ?_
              refine TC.region ?_
              refine TL.move rfl rfl (v := SV.v s6) rfl ?_
              refine TL.move rfl rfl (v := (gt ss1 x1).v) rfl ?_
              refine TL.move rfl rfl (v := .int .i64 x3) rfl ?_
              refine TL.call (R := G.impl_basis.R) Try.call87 rfl rfl rfl (fun w hS => G.impl_basis.calls w x3) ?_
              rintro r_3 _ _ ⟨rfl, rfl⟩
              refine TL.callv (R := (fun r_ => (fun (v_ : Value) (L_ : List Asn) => v_ = sval [.arr 6 (enf u8v r_)] ∧ L_ = []))) (vs := [sval [.arr 6 (enf u8v r_3)]]) (h2.2.hc x1 h3) rfl rfl rfl rfl (fun w hS => (h2.2.hf x1 h3) w hS.iw r_3) ?_
              rintro r_4 _ _ ⟨rfl, rfl⟩
              refine TL.move rfl rfl (v := .int .i64 x2) rfl ?_
              refine TL.chk fun h4 => ?_
              refine TL.ixv1 x2 h4 Try.underlying41 Try.isAgg5 Try.sizeOf5 (v := u8v (r_4 x2.toNat)) rfl rfl rfl rfl rfl ?_
              refine TL.conv .u8 .i64 ((r_4 x2.toNat).toNat : Int) _ rfl rfl rfl Try.underlying5 Try.underlying2 (v := .int .i64 ((r_4 x2.toNat).toNat : Int)) (conv_u8_i64 _) ?_
              refine TL.blit Ei ([((r_4 x2.toNat).toNat : Int)] : List Int) Try.underlying22 Try.sizeOf2 Try.zeroValue2 rfl rfl rfl [(0, .int .i64 ((r_4 x2.toNat).toNat : Int))] rfl ⟨rfl, rfl, trivial⟩ rfl rfl fun s7 => ?_
              refine TL.small fun h5 => ?_
              refine TL.append 2 rfl (Rd.row 0 rfl) Try.underlying22 (info_of Try.type2) (zv := (Try.t2.zero.getD (.bool false))) rfl rfl rfl (by decide) h5 rfl rfl rfl rfl fun s8 => ?_
              refine TL.assign rfl rfl (v := SV.v s8) rfl ?_
              refine TL.done ?_
              refine TC.region ?_
              refine TL.bin .i64 x3 1 rfl rfl rfl rfl (v := .int .i64 (w64 (x3 + 1))) rfl ?_
              refine TL.move rfl rfl (v := .int .i64 (w64 (x3 + 1))) rfl ?_
              refine TL.done ?_
              exact TC.next1 (((row_1 ++ ([((r_4 x2.toNat).toNat : Int)] : List Int)), (w64 (x3 + 1)))) (s8) ⟨rfl, rfl, rfl, rfl, rfl, rfl, rfl, rfl, rfl, rfl, rfl, rfl, trivial⟩ [1, 1] rfl
            · exact TC.brk1 ((row_1, x3)) (s6) ⟨rfl, rfl, rfl, rfl, rfl, rfl, rfl, rfl, rfl, rfl, rfl, rfl, trivial⟩ [0, 0] rfl
          · rintro ⟨row_1, x3⟩ s6
            refine TC.region ?_
            refine TL.move rfl rfl (v := SV.v s4) rfl ?_
            refine TL.move rfl rfl (v := SV.v s6) rfl ?_
            refine TL.blit Ev ([s6] : List SV) Try.underlying32 Try.sizeOf22 Try.zeroValue22 rfl rfl rfl [(0, SV.v s6)] rfl ⟨rfl, rfl, trivial⟩ rfl rfl fun s9 => ?_
            refine TL.small fun h6 => ?_
            refine TL.matlen 1 rfl fun h7 => ?_
            refine TL.matcut 1 rfl ?_
            refine TL.append 0 rfl (Rd.row 1 rfl) Try.underlying32 (info_of Try.type22) (zv := (Try.t22.zero.getD (.bool false))) rfl rfl rfl (by decide) (by have h_ := h6; have l_ := h7; (try simp only [List.length_cons, List.length_nil] at h_ l_ ⊢); omega) rfl rfl rfl rfl fun s10 => ?_
            refine TL.rowsPush 2 3 rfl rfl ?_
            skip
            refine TL.matmk 0 3 rfl rfl ?_
            refine TL.drop 0 rfl ?_
            refine TL.asL [row Ev 22 s9 ([s6] : List SV), emp, mat Ei 2 22 s10 (ss3 ++ [s6]) (out2 ++ [row_1])] (by kernel_rfl) ?_
            refine TL.assign rfl rfl (v := SV.v s10) rfl ?_
            refine TL.done ?_
            refine TC.region ?_
            refine TL.bin .i64 x2 1 rfl rfl rfl rfl (v := .int .i64 (w64 (x2 + 1))) rfl ?_
            refine TL.move rfl rfl (v := .int .i64 (w64 (x2 + 1))) rfl ?_
            refine TL.done ?_
            exact TC.next1 (((out2 ++ [row_1]), (w64 (x2 + 1)))) ((s10, (ss3 ++ [s6]))) ⟨rfl, rfl, rfl, rfl, rfl, rfl, rfl, rfl, trivial⟩ [2] rfl
        · exact TC.brk1 ((out2, x2)) ((s4, ss3)) ⟨rfl, rfl, rfl, rfl, rfl, rfl, rfl, rfl, trivial⟩ [0] rfl
      · rintro ⟨out2, x2⟩ ⟨s4, ss3⟩
        refine TC.region ?_
        refine TL.bin .i64 x1 1 rfl rfl rfl rfl (v := .int .i64 (w64 (x1 + 1))) rfl ?_
        refine TL.move rfl rfl (v := .int .i64 (w64 (x1 + 1))) rfl ?_
        refine TL.done ?_
        exact TC.next1 ((out2, (w64 (x1 + 1)))) ((s4, ss3)) ⟨rfl, rfl, rfl, rfl, rfl, trivial⟩ [0] rfl
    · exact TC.brk1 ((out1, x1)) ((s3, ss2)) ⟨rfl, rfl, rfl, rfl, rfl, trivial⟩ [0] rfl
  · rintro ⟨out1, x1⟩ ⟨s3, ss2⟩
    refine TC.seq ?_
    refine TC.region ?_
    refine TL.move rfl rfl (v := SV.v s3) rfl ?_
    refine TL.assign rfl rfl (v := SV.v s3) rfl ?_
    refine TL.done ?_
    exact TC.retF (Fin.body (fin1 (.inr rfl) rfl (.tmp rfl) [0] rfl ⟨s3, ss2, rfl, rfl⟩))

end Go.Proofs.Ytiiljfpbcanphaa.G

/- impl.power, as a pure function. -/
set_option linter.unusedVariables false
namespace Go.Proofs.Ytiiljfpbcanphaa.G
open Go Go.Sx Go.Proofs

def impl_power.b0 (k_1 : Int) (p1 : Int) (n_1 : Int) : Int × Int → Option (LB (Int × Int)) := fun p => match p with | (out1, x1) => (bif (decide (x1 < k_1)) then nz p1 (some (.next ((Int.tmod (w64 (out1 * n_1)) p1), (w64 (x1 + 1))))) else some (.brk (out1, x1)))

def impl_power.f (n_1 : Int) (k_1 : Int) (p1 : Int) : Option Int := (loop1 (impl_power.b0 k_1 p1 n_1) (1, 0)).bind (fun p => match p with | (out1, x1) => some out1)

def impl_power.R (r : Int) (v : Value) (L : List Asn) : Prop := v = .int .i64 r ∧ L = []

set_option maxRecDepth 100000 in
set_option maxHeartbeats 4000000 in
theorem impl_power.calls (w : World) (n_1 : Int) (k_1 : Int) (p1 : Int) :
    ∀ r, impl_power.f n_1 k_1 p1 = some r → Calls Try.prog 78 #[.int .i64 n_1, .int .i64 k_1, .int .i64 p1] w (Ret w (impl_power.R r)) := by

  refine calls_T (n := 18) (Γ := [(0, .int .i64 n_1), (1, .int .i64 k_1), (2, .int .i64 p1)]) (R := impl_power.R) Try.func78 rfl rfl (Nat.le_of_ble_eq_true rfl) ⟨rfl, rfl, rfl, trivial⟩ ?_
  unfold impl_power.f
  refine TC.seq ?_
  refine TC.region ?_
  refine TL.assign rfl rfl (v := .int .i64 0) rfl ?_
  refine TL.done ?_
  refine TC.seq ?_
  refine TC.region ?_
  refine TL.assign rfl rfl (v := .int .i64 1) rfl ?_
  refine TL.done ?_
  refine TC.seq ?_
  refine TC.seq ?_
  refine TC.region ?_
  refine TL.move rfl rfl (v := .int .i64 k_1) rfl ?_
  refine TL.move rfl rfl (v := .int .i64 0) rfl ?_
  refine TL.done ?_
  refine TC.loop1 (σ := Int × Int) (γ := Unit) (Γ' := (fun p q => match p, q with | (out1, x1), _ => [(0, .int .i64 n_1), (2, .int .i64 p1), (7, .int .i64 out1), (8, .int .i64 k_1), (9, .int .i64 x1)])) (L' := (fun p q => match p, q with | (out1, x1), _ => [])) (Γb := (fun p q => match p, q with | (out1, x1), _ => [(0, .int .i64 n_1), (2, .int .i64 p1), (7, .int .i64 out1), (8, .int .i64 k_1), (9, .int .i64 x1)])) (Lb := (fun p q => match p, q with | (out1, x1), _ => [])) ((1, 0)) (()) ⟨rfl, rfl, rfl, rfl, rfl, trivial⟩ [] rfl ?_ ?_
  · rintro ⟨out1, x1⟩ _
    refine TC.seq ?_
    refine TC.region ?_
    refine TL.bin .i64 x1 k_1 rfl rfl rfl rfl (v := .bool (decide (x1 < k_1))) rfl ?_
    refine TL.done ?_
    refine TC.seq ?_
    refine TC.cond (b := (decide (x1 < k_1))) rfl (fun c1 => ?_) (fun c2 => ?_)
    · refine TC.skip ?_
      refine TC.seq ?_
      refine TC.block (NoEx.loop1 rfl) ?_
      refine TC.region ?_
      refine TL.move rfl rfl (v := .int .i64 out1) rfl ?_
      refine TL.move rfl rfl (v := .int .i64 n_1) rfl ?_
      refine TL.bin .i64 out1 n_1 rfl rfl rfl rfl (v := .int .i64 (w64 (out1 * n_1))) rfl ?_
      refine TL.move rfl rfl (v := .int .i64 p1) rfl ?_
      refine TL.nz fun z1 => ?_
      refine TL.rem .i64 (w64 (out1 * n_1)) p1 z1 rfl rfl rfl rfl ?_
      refine TL.assign rfl rfl (v := .int .i64 (Int.tmod (w64 (out1 * n_1)) p1)) rfl ?_
      refine TL.done ?_
      refine TC.region ?_
      refine TL.bin .i64 x1 1 rfl rfl rfl rfl (v := .int .i64 (w64 (x1 + 1))) rfl ?_
      refine TL.move rfl rfl (v := .int .i64 (w64 (x1 + 1))) rfl ?_
      refine TL.done ?_
      exact TC.next1 (((Int.tmod (w64 (out1 * n_1)) p1), (w64 (x1 + 1)))) (()) ⟨rfl, rfl, rfl, rfl, rfl, trivial⟩ [] rfl
    · exact TC.brk1 ((out1, x1)) (()) ⟨rfl, rfl, rfl, rfl, rfl, trivial⟩ [] rfl
  · rintro ⟨out1, x1⟩ _
    refine TC.seq ?_
    refine TC.region ?_
    refine TL.move rfl rfl (v := .int .i64 out1) rfl ?_
    refine TL.assign rfl rfl (v := .int .i64 out1) rfl ?_
    refine TL.done ?_
    exact TC.retF (Fin.body (fin1 (.inr rfl) rfl (.tmp rfl) [] rfl ⟨rfl, rfl⟩))

end Go.Proofs.Ytiiljfpbcanphaa.G

/- impl.inverse, as a pure function. -/
set_option linter.unusedVariables false
namespace Go.Proofs.Ytiiljfpbcanphaa.G
open Go Go.Sx Go.Proofs

def impl_inverse.f (n_1 : Int) (p1 : Int) : Option Int := (G.impl_power.f n_1 (w64 (p1 - 2)) p1).bind (fun r_1 => some r_1)

def impl_inverse.R (r : Int) (v : Value) (L : List Asn) : Prop := v = .int .i64 r ∧ L = []

set_option maxRecDepth 100000 in
set_option maxHeartbeats 4000000 in
theorem impl_inverse.calls (w : World) (n_1 : Int) (p1 : Int) :
    ∀ r, impl_inverse.f n_1 p1 = some r → Calls Try.prog 77 #[.int .i64 n_1, .int .i64 p1] w (Ret w (impl_inverse.R r)) := by

  refine calls_T (n := 10) (Γ := [(0, .int .i64 n_1), (1, .int .i64 p1)]) (R := impl_inverse.R) Try.func77 rfl rfl (Nat.le_of_ble_eq_true rfl) ⟨rfl, rfl, trivial⟩ ?_
  unfold impl_inverse.f
  refine TC.seq ?_
  refine TC.region ?_
  refine TL.assign rfl rfl (v := .int .i64 0) rfl ?_
  refine TL.done ?_
  refine TC.seq ?_
  refine TC.region ?_
  refine TL.move rfl rfl (v := .int .i64 n_1) rfl ?_
  refine TL.move rfl rfl (v := .int .i64 p1) rfl ?_
  refine TL.bin .i64 p1 2 rfl rfl rfl rfl (v := .int .i64 (w64 (p1 - 2))) rfl ?_
  refine TL.move rfl rfl (v := .int .i64 p1) rfl ?_
  refine TL.call (R := G.impl_power.R) Try.call78 rfl rfl rfl (fun w hS => G.impl_power.calls w n_1 (w64 (p1 - 2)) p1) ?_
  rintro r_1 _ _ ⟨rfl, rfl⟩
  refine TL.assign rfl rfl (v := .int .i64 r_1) rfl ?_
  refine TL.done ?_
  exact TC.retF (Fin.body (fin1 (.inr rfl) rfl (.tmp rfl) [] rfl ⟨rfl, rfl⟩))

end Go.Proofs.Ytiiljfpbcanphaa.G

/- slices.Clone[[][]int64,[]int64], as a pure function. -/
set_option linter.unusedVariables false
namespace Go.Proofs.Ytiiljfpbcanphaa.G
open Go Go.Sx Go.Proofs

def slices_Clone_int64_int64_196.f (s1 : List SV) : Option (List SV) := small (([] : List SV).length + s1.length) (some (([] : List SV) ++ s1))

def slices_Clone_int64_int64_196.R (r : List SV) (v : Value) (L : List Asn) : Prop := ∃ (s0 : SV), v = SV.v s0 ∧ L = [row Ev 22 s0 r]

set_option maxRecDepth 100000 in
set_option maxHeartbeats 4000000 in
theorem slices_Clone_int64_int64_196.calls (w : World) (s2 : SV) (s1 : List SV) (h1 : Reads Ev (hp w) s2 s1) :
    ∀ r, slices_Clone_int64_int64_196.f s1 = some r → Calls Try.prog 196 #[SV.v s2] w (Ret w (slices_Clone_int64_int64_196.R r)) := by

  refine calls_T (n := 8) (Γ := [(0, SV.v s2)]) (R := slices_Clone_int64_int64_196.R) Try.func196 rfl rfl (Nat.le_of_ble_eq_true rfl) ⟨rfl, trivial⟩ ?_
  unfold slices_Clone_int64_int64_196.f
  refine TC.seq ?_
  refine TC.region ?_
  refine TL.assign rfl rfl (v := SV.v ⟨none, 0, 0⟩) rfl ?_
  refine TL.done ?_
  refine TC.seq ?_
  refine TC.seq ?_
  refine TC.region ?_
  refine TL.move rfl rfl (v := SV.v s2) rfl ?_
  refine TL.isNil s2 Try.underlying32 rfl rfl rfl rfl ?_
  refine TL.done ?_
  refine TC.condN (b := s2.a.isNone) rfl (fun c1 => ?_) (fun c2 => ?_)
  · have e_ := h1.isnil c1
    refine TC.as (m' := some ([] : List SV)) (by rw [e_]; rfl) ?_
    refine TC.seq ?_
    refine TC.region ?_
    refine TL.assign rfl rfl (v := SV.v ⟨none, 0, 0⟩) rfl ?_
    refine TL.done ?_
    refine TC.nilrow Ev 22 ?_
    exact TC.retF (Fin.body (fin1 (.inr rfl) rfl (.tmp rfl) [0] rfl ⟨⟨none, 0, 0⟩, rfl, rfl⟩))
  · refine TC.skip ?_
    refine TC.seq ?_
    refine TC.region ?_
    refine TL.bslice0 Ev Try.underlying32 Try.sizeOf22 rfl rfl fun s3 => ?_
    refine TL.move rfl rfl (v := SV.v s2) rfl ?_
    refine TL.small fun h2 => ?_
    refine TL.append 0 rfl (Rd.old h1) Try.underlying32 (info_of Try.type22) (zv := (Try.t22.zero.getD (.bool false))) rfl rfl rfl (by decide) h2 rfl rfl rfl rfl fun s4 => ?_
    refine TL.assign rfl rfl (v := SV.v s4) rfl ?_
    refine TL.done ?_
    exact TC.retF (Fin.body (fin1 (.inr rfl) rfl (.tmp rfl) [0] rfl ⟨s4, rfl, rfl⟩))

end Go.Proofs.Ytiiljfpbcanphaa.G

/- slices.IndexFunc[[][]int64,[]int64], as a pure function. -/
set_option linter.unusedVariables false
namespace Go.Proofs.Ytiiljfpbcanphaa.G
open Go Go.Sx Go.Proofs

def slices_IndexFunc_int64_int64_197.b0 (s1 : List (List Int)) (f2 : (List Int) → Option Bool) : Int → Option (LR Int Int) := fun x1 => (bif (decide (x1 < (s1.length : Int))) then chk x1 s1.length ((f2 (gt s1 x1)).bind (fun r_1 => (bif r_1 then some (.ret (x1)) else some (.next (w64 (x1 + 1)))))) else some (.brk x1))

def slices_IndexFunc_int64_int64_197.f (s1 : List (List Int)) (f2 : (List Int) → Option Bool) : Option Int := (loop (slices_IndexFunc_int64_int64_197.b0 s1 f2) 0).bind (ln (fun x1 => some (-1)))

def slices_IndexFunc_int64_int64_197.R (r : Int) (v : Value) (L : List Asn) : Prop := v = .int .i64 r ∧ L = []

set_option maxRecDepth 100000 in
set_option maxHeartbeats 4000000 in
theorem slices_IndexFunc_int64_int64_197.calls (w : World) (s2 : SV) (ss1 : List SV) (s1 : List (List Int)) (f1 : Nat) (fst1 : List Value) (cap1 : List Value) (f2 : (List Int) → Option Bool) (h1 : ReadsM Ei (hp w) s2 ss1 s1) (hc1 : ∀ (args_ : Array Value) (w_ : World), (callFunc f1 args_).run Try.prog w_ = .ok (.enter f1 args_) w_) (hf1 : ∀ w_, Hle (hp w) (hp w_) → ∀ (s1_ : SV) (x0_ : List Int), Reads Ei (hp w_) s1_ x0_ → ∀ r_, f2 x0_ = some r_ → Calls Try.prog f1 (fst1 ++ ([SV.v s1_] : List Value) ++ cap1).toArray w_ (Ret w_ (fun (v_ : Value) (L_ : List Asn) => v_ = .bool r_ ∧ L_ = []))) :
    ∀ r, slices_IndexFunc_int64_int64_197.f s1 f2 = some r → Calls Try.prog 197 #[SV.v s2, .func (.func f1) fst1.toArray cap1.toArray] w (Ret w (slices_IndexFunc_int64_int64_197.R r)) := by

  refine calls_T (n := 19) (Γ := [(0, SV.v s2), (1, .func (.func f1) fst1.toArray cap1.toArray)]) (R := slices_IndexFunc_int64_int64_197.R) Try.func197 rfl rfl (Nat.le_of_ble_eq_true rfl) ⟨rfl, rfl, trivial⟩ ?_
  unfold slices_IndexFunc_int64_int64_197.f
  refine TC.seq ?_
  refine TC.region ?_
  refine TL.assign rfl rfl (v := .int .i64 0) rfl ?_
  refine TL.done ?_
  refine TC.seq ?_
  refine TC.seq ?_
  refine TC.region ?_
  refine TL.move rfl rfl (v := SV.v s2) rfl ?_
  refine TL.lenM (RdM.old h1) Try.underlying32 rfl rfl rfl ?_
  refine TL.move rfl rfl (v := .int .i64 0) rfl ?_
  refine TL.done ?_
  refine TC.loopK (σ := Int) (γ := Unit) (Γ' := (fun x1 _ => [(0, SV.v s2), (1, .func (.func f1) fst1.toArray cap1.toArray), (7, .int .i64 (s1.length : Int)), (8, .int .i64 x1)])) (L' := (fun x1 _ => [])) (Γb := (fun x1 _ => [(0, SV.v s2), (1, .func (.func f1) fst1.toArray cap1.toArray), (7, .int .i64 (s1.length : Int)), (8, .int .i64 x1)])) (Lb := (fun x1 _ => [])) (0) (()) ⟨rfl, rfl, rfl, rfl, trivial⟩ [] rfl ?_ ?_
  · rintro x1 _
    refine TC.seq ?_
    refine TC.region ?_
    refine TL.bin .i64 x1 (s1.length : Int) rfl rfl rfl rfl (v := .bool (decide (x1 < (s1.length : Int)))) rfl ?_
    refine TL.done ?_
    refine TC.seq ?_
    refine TC.cond (b := (decide (x1 < (s1.length : Int)))) rfl (fun c1 => ?_) (fun c2 => ?_)
    · refine TC.skip ?_
      refine TC.seq ?_
      refine TC.block (NoEx.loop rfl NoEx.body) ?_
      refine TC.seq ?_
      refine TC.region ?_
      refine TL.move rfl rfl (v := .int .i64 x1) rfl ?_
      refine TL.assign rfl rfl (v := .int .i64 x1) rfl ?_
      refine TL.done ?_
      refine TC.seq ?_
      refine TC.region ?_
      refine TL.move rfl rfl (v := .func (.func f1) fst1.toArray cap1.toArray) rfl ?_
      refine TL.move rfl rfl (v := SV.v s2) rfl ?_
      refine TL.move rfl rfl (v := .int .i64 x1) rfl ?_
      refine TL.chk fun h2 => ?_
      refine TL.ixsM x1 x1.toNat (RdM.old h1) h2 Try.underlying32 Try.sizeOf22 rfl rfl rfl rfl (by omega) ?_
      refine TL.loadM2 (RdM.old h1) Try.isAgg22 x1 h2 (by omega) rfl rfl rfl ?_
      refine TL.callv (R := (fun r_ => (fun (v_ : Value) (L_ : List Asn) => v_ = .bool r_ ∧ L_ = []))) (vs := [SV.v (gt ss1 x1)]) hc1 rfl rfl rfl rfl (fun w hS => hf1 w hS.iw (gt ss1 x1) (gt s1 x1) ((RdM.inn (RdM.old h1) h2) w hS)) ?_
      rintro r_1 _ _ ⟨rfl, rfl⟩
      refine TL.done ?_
      refine TC.cond (b := r_1) rfl (fun c3 => ?_) (fun c4 => ?_)
      · refine TC.seq ?_
        refine TC.region ?_
        refine TL.move rfl rfl (v := .int .i64 x1) rfl ?_
        refine TL.assign rfl rfl (v := .int .i64 x1) rfl ?_
        refine TL.done ?_
        exact TC.retF (Fin.loop Far.ret (Fin.body (fin1 (.inr rfl) rfl (.tmp rfl) [] rfl ⟨rfl, rfl⟩)))
      · refine TC.skip ?_
        refine TC.region ?_
        refine TL.bin .i64 x1 1 rfl rfl rfl rfl (v := .int .i64 (w64 (x1 + 1))) rfl ?_
        refine TL.move rfl rfl (v := .int .i64 (w64 (x1 + 1))) rfl ?_
        refine TL.done ?_
        exact TC.next ((w64 (x1 + 1))) (()) ⟨rfl, rfl, rfl, rfl, trivial⟩ [] rfl
    · exact TC.brk (x1) (()) ⟨rfl, rfl, rfl, rfl, trivial⟩ [] rfl
  · rintro x1 _
    refine TC.seq ?_
    refine TC.region ?_
    refine TL.assign rfl rfl (v := .int .i64 (-1)) rfl ?_
    refine TL.done ?_
    exact TC.retF (Fin.body (fin1 (.inr rfl) rfl (.tmp rfl) [] rfl ⟨rfl, rfl⟩))

end Go.Proofs.Ytiiljfpbcanphaa.G

/- impl.reduce$1, as a pure function. -/
set_option linter.unusedVariables false
namespace Go.Proofs.Ytiiljfpbcanphaa.G
open Go Go.Sx Go.Proofs

def impl_reduce_1.f (row_1 : List Int) (c1 : Int) : Option Bool := chk c1 row_1.length (some ((gt row_1 c1) != 0))

def impl_reduce_1.R (r : Bool) (v : Value) (L : List Asn) : Prop := v = .bool r ∧ L = []

set_option maxRecDepth 100000 in
set_option maxHeartbeats 4000000 in
theorem impl_reduce_1.calls (w : World) (s1 : SV) (row_1 : List Int) (b_1 : Nat) (c1 : Int) (h1 : Reads Ei (hp w) s1 row_1) (h2 : At (hp w) b_1 [.one (.int .i64 c1)]) :
    ∀ r, impl_reduce_1.f row_1 c1 = some r → Calls Try.prog 198 #[SV.v s1, bp b_1 0] w (Ret w (impl_reduce_1.R r)) := by

  refine calls_T (n := 9) (Γ := [(0, SV.v s1), (1, bp b_1 0)]) (R := impl_reduce_1.R) Try.func198 rfl rfl (Nat.le_of_ble_eq_true rfl) ⟨rfl, rfl, trivial⟩ ?_
  unfold impl_reduce_1.f
  refine TC.seq ?_
  refine TC.region ?_
  refine TL.assign rfl rfl (v := .bool false) rfl ?_
  refine TL.done ?_
  refine TC.seq ?_
  refine TC.region ?_
  refine TL.move rfl rfl (v := SV.v s1) rfl ?_
  refine TL.load1 0 (Src.at h2) Try.isAgg3 rfl rfl rfl rfl rfl ?_
  refine TL.chk fun h3 => ?_
  refine TL.ixs c1 c1.toNat (Rd.old h1) h3 Try.underlying22 Try.sizeOf2 rfl rfl rfl rfl (by omega) ?_
  refine TL.loadE (Rd.old h1) Try.isAgg2 c1.toNat 0 (gt_spec h3) (v := .int .i64 (gt row_1 c1)) rfl (by simp only [show Ei.sz = 1 from rfl] <;> omega) rfl rfl rfl ?_
  refine TL.bin .i64 (gt row_1 c1) 0 rfl rfl rfl rfl (v := .bool ((gt row_1 c1) != 0)) rfl ?_
  refine TL.assign rfl rfl (v := .bool ((gt row_1 c1) != 0)) rfl ?_
  refine TL.done ?_
  exact TC.retF (Fin.body (fin1 (.inr rfl) rfl (.tmp rfl) [] rfl ⟨rfl, rfl⟩))

end Go.Proofs.Ytiiljfpbcanphaa.G

/- impl.scaled, as a pure function. -/
set_option linter.unusedVariables false
namespace Go.Proofs.Ytiiljfpbcanphaa.G
open Go Go.Sx Go.Proofs

def impl_scaled.b0 (row_1 : List Int) (p1 : Int) (by_1 : Int) : (List Int) × Int → Option (LB ((List Int) × Int)) := fun p => match p with | (out1, x1) => (bif (decide (x1 < (row_1.length : Int))) then chk x1 row_1.length (nz p1 (small (out1.length + ([(Int.tmod (w64 ((gt row_1 x1) * by_1)) p1)] : List Int).length) (some (.next ((out1 ++ ([(Int.tmod (w64 ((gt row_1 x1) * by_1)) p1)] : List Int)), (w64 (x1 + 1))))))) else some (.brk (out1, x1)))

def impl_scaled.f (row_1 : List Int) (by_1 : Int) (p1 : Int) : Option (List Int) := (loop1 (impl_scaled.b0 row_1 p1 by_1) (([] : List Int), 0)).bind (fun p => match p with | (out1, x1) => some out1)

def impl_scaled.R (r : List Int) (v : Value) (L : List Asn) : Prop := ∃ (s0 : SV), v = SV.v s0 ∧ L = [row Ei 2 s0 r]

set_option maxRecDepth 100000 in
set_option maxHeartbeats 4000000 in
theorem impl_scaled.calls (w : World) (s1 : SV) (row_1 : List Int) (by_1 : Int) (p1 : Int) (h1 : Reads Ei (hp w) s1 row_1) :
    ∀ r, impl_scaled.f row_1 by_1 p1 = some r → Calls Try.prog 199 #[SV.v s1, .int .i64 by_1, .int .i64 p1] w (Ret w (impl_scaled.R r)) := by

  refine calls_T (n := 27) (Γ := [(0, SV.v s1), (1, .int .i64 by_1), (2, .int .i64 p1)]) (R := impl_scaled.R) Try.func199 rfl rfl (Nat.le_of_ble_eq_true rfl) ⟨rfl, rfl, rfl, trivial⟩ ?_
  unfold impl_scaled.f
  refine TC.seq ?_
  refine TC.region ?_
  refine TL.assign rfl rfl (v := SV.v ⟨none, 0, 0⟩) rfl ?_
  refine TL.done ?_
  refine TC.seq ?_
  refine TC.region ?_
  refine TL.bslice0 Ei Try.underlying22 Try.sizeOf2 rfl rfl fun s2 => ?_
  refine TL.assign rfl rfl (v := SV.v s2) rfl ?_
  refine TL.done ?_
  refine TC.seq ?_
  refine TC.seq ?_
  refine TC.region ?_
  refine TL.move rfl rfl (v := SV.v s1) rfl ?_
  refine TL.len (Rd.old h1) Try.underlying22 rfl rfl rfl ?_
  refine TL.move rfl rfl (v := .int .i64 0) rfl ?_
  refine TL.done ?_
  refine TC.loop1 (σ := (List Int) × Int) (γ := SV) (Γ' := (fun p q => match p, q with | (out1, x1), s3 => [(1, .int .i64 by_1), (2, .int .i64 p1), (7, SV.v s3), (11, SV.v s1), (12, .int .i64 (row_1.length : Int)), (13, .int .i64 x1)])) (L' := (fun p q => match p, q with | (out1, x1), s3 => [row Ei 2 s3 out1])) (Γb := (fun p q => match p, q with | (out1, x1), s3 => [(1, .int .i64 by_1), (2, .int .i64 p1), (7, SV.v s3), (11, SV.v s1), (12, .int .i64 (row_1.length : Int)), (13, .int .i64 x1)])) (Lb := (fun p q => match p, q with | (out1, x1), s3 => [row Ei 2 s3 out1])) ((([] : List Int), 0)) (s2) ⟨rfl, rfl, rfl, rfl, rfl, rfl, trivial⟩ [0] rfl ?_ ?_
  · rintro ⟨out1, x1⟩ s3
    refine TC.seq ?_
    refine TC.region ?_
    refine TL.bin .i64 x1 (row_1.length : Int) rfl rfl rfl rfl (v := .bool (decide (x1 < (row_1.length : Int)))) rfl ?_
    refine TL.done ?_
    refine TC.seq ?_
    refine TC.cond (b := (decide (x1 < (row_1.length : Int)))) rfl (fun c1 => ?_) (fun c2 => ?_)
    · refine TC.skip ?_
      refine TC.seq ?_
      refine TC.block (NoEx.loop1 rfl) ?_
      refine TC.seq ?_
      refine TC.region ?_
      refine TL.chk fun h2 => ?_
      refine TL.ixs x1 x1.toNat (Rd.old h1) h2 Try.underlying22 Try.sizeOf2 rfl rfl rfl rfl (by omega) ?_
      refine TL.loadE (Rd.old h1) Try.isAgg2 x1.toNat 0 (gt_spec h2) (v := .int .i64 (gt row_1 x1)) rfl (by simp only [show Ei.sz = 1 from rfl] <;> omega) rfl rfl rfl ?_
      refine TL.assign rfl rfl (v := .int .i64 (gt row_1 x1)) rfl ?_
      refine TL.done ?_
      refine TC.region ?_
      refine TL.move rfl rfl (v := SV.v s3) rfl ?_
      refine TL.move rfl rfl (v := .int .i64 (gt row_1 x1)) rfl ?_
      refine TL.move rfl rfl (v := .int .i64 by_1) rfl ?_
      refine TL.bin .i64 (gt row_1 x1) by_1 rfl rfl rfl rfl (v := .int .i64 (w64 ((gt row_1 x1) * by_1))) rfl ?_
      refine TL.move rfl rfl (v := .int .i64 p1) rfl ?_
      refine TL.nz fun z1 => ?_
      refine TL.rem .i64 (w64 ((gt row_1 x1) * by_1)) p1 z1 rfl rfl rfl rfl ?_
      refine TL.blit Ei ([(Int.tmod (w64 ((gt row_1 x1) * by_1)) p1)] : List Int) Try.underlying22 Try.sizeOf2 Try.zeroValue2 rfl rfl rfl [(0, .int .i64 (Int.tmod (w64 ((gt row_1 x1) * by_1)) p1))] rfl ⟨rfl, rfl, trivial⟩ rfl rfl fun s4 => ?_
      refine TL.small fun h3 => ?_
      refine TL.append 1 rfl (Rd.row 0 rfl) Try.underlying22 (info_of Try.type2) (zv := (Try.t2.zero.getD (.bool false))) rfl rfl rfl (by decide) h3 rfl rfl rfl rfl fun s5 => ?_
      refine TL.assign rfl rfl (v := SV.v s5) rfl ?_
      refine TL.done ?_
      refine TC.region ?_
      refine TL.bin .i64 x1 1 rfl rfl rfl rfl (v := .int .i64 (w64 (x1 + 1))) rfl ?_
      refine TL.move rfl rfl (v := .int .i64 (w64 (x1 + 1))) rfl ?_
      refine TL.done ?_
      exact TC.next1 (((out1 ++ ([(Int.tmod (w64 ((gt row_1 x1) * by_1)) p1)] : List Int)), (w64 (x1 + 1)))) (s5) ⟨rfl, rfl, rfl, rfl, rfl, rfl, trivial⟩ [1] rfl
    · exact TC.brk1 ((out1, x1)) (s3) ⟨rfl, rfl, rfl, rfl, rfl, rfl, trivial⟩ [0] rfl
  · rintro ⟨out1, x1⟩ s3
    refine TC.seq ?_
    refine TC.region ?_
    refine TL.move rfl rfl (v := SV.v s3) rfl ?_
    refine TL.assign rfl rfl (v := SV.v s3) rfl ?_
    refine TL.done ?_
    exact TC.retF (Fin.body (fin1 (.inr rfl) rfl (.tmp rfl) [0] rfl ⟨s3, rfl, rfl⟩))

end Go.Proofs.Ytiiljfpbcanphaa.G

/- impl.rest, as a pure function. -/
set_option linter.unusedVariables false
namespace Go.Proofs.Ytiiljfpbcanphaa.G
open Go Go.Sx Go.Proofs

def impl_rest.f (n_1 : Int) (p1 : Int) : Option Int := nz p1 (some (Int.tmod (w64 ((Int.tmod n_1 p1) + p1)) p1))

def impl_rest.R (r : Int) (v : Value) (L : List Asn) : Prop := v = .int .i64 r ∧ L = []

set_option maxRecDepth 100000 in
set_option maxHeartbeats 4000000 in
theorem impl_rest.calls (w : World) (n_1 : Int) (p1 : Int) :
    ∀ r, impl_rest.f n_1 p1 = some r → Calls Try.prog 203 #[.int .i64 n_1, .int .i64 p1] w (Ret w (impl_rest.R r)) := by

  refine calls_T (n := 12) (Γ := [(0, .int .i64 n_1), (1, .int .i64 p1)]) (R := impl_rest.R) Try.func203 rfl rfl (Nat.le_of_ble_eq_true rfl) ⟨rfl, rfl, trivial⟩ ?_
  unfold impl_rest.f
  refine TC.seq ?_
  refine TC.region ?_
  refine TL.assign rfl rfl (v := .int .i64 0) rfl ?_
  refine TL.done ?_
  refine TC.seq ?_
  refine TC.region ?_
  refine TL.move rfl rfl (v := .int .i64 n_1) rfl ?_
  refine TL.move rfl rfl (v := .int .i64 p1) rfl ?_
  refine TL.nz fun z1 => ?_
  refine TL.rem .i64 n_1 p1 z1 rfl rfl rfl rfl ?_
  refine TL.move rfl rfl (v := .int .i64 p1) rfl ?_
  refine TL.bin .i64 (Int.tmod n_1 p1) p1 rfl rfl rfl rfl (v := .int .i64 (w64 ((Int.tmod n_1 p1) + p1))) rfl ?_
  refine TL.move rfl rfl (v := .int .i64 p1) rfl ?_
  refine TL.rem .i64 (w64 ((Int.tmod n_1 p1) + p1)) p1 z1 rfl rfl rfl rfl ?_
  refine TL.assign rfl rfl (v := .int .i64 (Int.tmod (w64 ((Int.tmod n_1 p1) + p1)) p1)) rfl ?_
  refine TL.done ?_
  exact TC.retF (Fin.body (fin1 (.inr rfl) rfl (.tmp rfl) [] rfl ⟨rfl, rfl⟩))

end Go.Proofs.Ytiiljfpbcanphaa.G

/- impl.lessTimes, as a pure function. -/
set_option linter.unusedVariables false
namespace Go.Proofs.Ytiiljfpbcanphaa.G
open Go Go.Sx Go.Proofs

def impl_lessTimes.b0 (row_1 : List Int) (other1 : List Int) (by_1 : Int) (p1 : Int) : (List Int) × Int → Option (LB ((List Int) × Int)) := fun p => match p with | (out1, x1) => (bif (decide (x1 < (row_1.length : Int))) then chk x1 row_1.length (chk x1 other1.length ((G.impl_rest.f (w64 ((gt row_1 x1) - (w64 (by_1 * (gt other1 x1))))) p1).bind (fun r_1 => small (out1.length + ([r_1] : List Int).length) (some (.next ((out1 ++ ([r_1] : List Int)), (w64 (x1 + 1)))))))) else some (.brk (out1, x1)))

def impl_lessTimes.f (row_1 : List Int) (other1 : List Int) (by_1 : Int) (p1 : Int) : Option (List Int) := (loop1 (impl_lessTimes.b0 row_1 other1 by_1 p1) (([] : List Int), 0)).bind (fun p => match p with | (out1, x1) => some out1)

def impl_lessTimes.R (r : List Int) (v : Value) (L : List Asn) : Prop := ∃ (s0 : SV), v = SV.v s0 ∧ L = [row Ei 2 s0 r]

set_option maxRecDepth 100000 in
set_option maxHeartbeats 4000000 in
theorem impl_lessTimes.calls (w : World) (s1 : SV) (row_1 : List Int) (s2 : SV) (other1 : List Int) (by_1 : Int) (p1 : Int) (h1 : Reads Ei (hp w) s1 row_1) (h2 : Reads Ei (hp w) s2 other1) :
    ∀ r, impl_lessTimes.f row_1 other1 by_1 p1 = some r → Calls Try.prog 201 #[SV.v s1, SV.v s2, .int .i64 by_1, .int .i64 p1] w (Ret w (impl_lessTimes.R r)) := by

  refine calls_T (n := 35) (Γ := [(0, SV.v s1), (1, SV.v s2), (2, .int .i64 by_1), (3, .int .i64 p1)]) (R := impl_lessTimes.R) Try.func201 rfl rfl (Nat.le_of_ble_eq_true rfl) ⟨rfl, rfl, rfl, rfl, trivial⟩ ?_
  unfold impl_lessTimes.f
  refine TC.seq ?_
  refine TC.region ?_
  refine TL.assign rfl rfl (v := SV.v ⟨none, 0, 0⟩) rfl ?_
  refine TL.done ?_
  refine TC.seq ?_
  refine TC.region ?_
  refine TL.bslice0 Ei Try.underlying22 Try.sizeOf2 rfl rfl fun s3 => ?_
  refine TL.assign rfl rfl (v := SV.v s3) rfl ?_
  refine TL.done ?_
  refine TC.seq ?_
  refine TC.seq ?_
  refine TC.region ?_
  refine TL.move rfl rfl (v := SV.v s1) rfl ?_
  refine TL.len (Rd.old h1) Try.underlying22 rfl rfl rfl ?_
  refine TL.move rfl rfl (v := .int .i64 0) rfl ?_
  refine TL.done ?_
  refine TC.loop1 (σ := (List Int) × Int) (γ := SV) (Γ' := (fun p q => match p, q with | (out1, x1), s4 => [(1, SV.v s2), (2, .int .i64 by_1), (3, .int .i64 p1), (9, SV.v s4), (13, SV.v s1), (14, .int .i64 (row_1.length : Int)), (15, .int .i64 x1)])) (L' := (fun p q => match p, q with | (out1, x1), s4 => [row Ei 2 s4 out1])) (Γb := (fun p q => match p, q with | (out1, x1), s4 => [(1, SV.v s2), (2, .int .i64 by_1), (3, .int .i64 p1), (9, SV.v s4), (13, SV.v s1), (14, .int .i64 (row_1.length : Int)), (15, .int .i64 x1)])) (Lb := (fun p q => match p, q with | (out1, x1), s4 => [row Ei 2 s4 out1])) ((([] : List Int), 0)) (s3) ⟨rfl, rfl, rfl, rfl, rfl, rfl, rfl, trivial⟩ [0] rfl ?_ ?_
  · rintro ⟨out1, x1⟩ s4
    refine TC.seq ?_
    refine TC.region ?_
    refine TL.bin .i64 x1 (row_1.length : Int) rfl rfl rfl rfl (v := .bool (decide (x1 < (row_1.length : Int)))) rfl ?_
    refine TL.done ?_
    refine TC.seq ?_
    refine TC.cond (b := (decide (x1 < (row_1.length : Int)))) rfl (fun c1 => ?_) (fun c2 => ?_)
    · refine TC.skip ?_
      refine TC.seq ?_
      refine TC.block (NoEx.loop1 rfl) ?_
      refine TC.seq ?_
      refine TC.region ?_
      refine TL.move rfl rfl (v := .int .i64 x1) rfl ?_
      refine TL.chk fun h3 => ?_
      refine TL.ixs x1 x1.toNat (Rd.old h1) h3 Try.underlying22 Try.sizeOf2 rfl rfl rfl rfl (by omega) ?_
      refine TL.loadE (Rd.old h1) Try.isAgg2 x1.toNat 0 (gt_spec h3) (v := .int .i64 (gt row_1 x1)) rfl (by simp only [show Ei.sz = 1 from rfl] <;> omega) rfl rfl rfl ?_
      refine TL.assign rfl rfl (v := .int .i64 x1) rfl ?_
      refine TL.assign rfl rfl (v := .int .i64 (gt row_1 x1)) rfl ?_
      refine TL.done ?_
      refine TC.region ?_
      refine TL.move rfl rfl (v := SV.v s4) rfl ?_
      refine TL.move rfl rfl (v := .int .i64 (gt row_1 x1)) rfl ?_
      refine TL.move rfl rfl (v := .int .i64 by_1) rfl ?_
      refine TL.move rfl rfl (v := SV.v s2) rfl ?_
      refine TL.move rfl rfl (v := .int .i64 x1) rfl ?_
      refine TL.chk fun h4 => ?_
      refine TL.ixs x1 x1.toNat (Rd.old h2) h4 Try.underlying22 Try.sizeOf2 rfl rfl rfl rfl (by omega) ?_
      refine TL.loadE (Rd.old h2) Try.isAgg2 x1.toNat 0 (gt_spec h4) (v := .int .i64 (gt other1 x1)) rfl (by simp only [show Ei.sz = 1 from rfl] <;> omega) rfl rfl rfl ?_
      refine TL.bin .i64 by_1 (gt other1 x1) rfl rfl rfl rfl (v := .int .i64 (w64 (by_1 * (gt other1 x1)))) rfl ?_
      refine TL.bin .i64 (gt row_1 x1) (w64 (by_1 * (gt other1 x1))) rfl rfl rfl rfl (v := .int .i64 (w64 ((gt row_1 x1) - (w64 (by_1 * (gt other1 x1)))))) rfl ?_
      refine TL.move rfl rfl (v := .int .i64 p1) rfl ?_
      refine TL.call (R := G.impl_rest.R) Try.call203 rfl rfl rfl (fun w hS => G.impl_rest.calls w (w64 ((gt row_1 x1) - (w64 (by_1 * (gt other1 x1))))) p1) ?_
      rintro r_1 _ _ ⟨rfl, rfl⟩
      refine TL.blit Ei ([r_1] : List Int) Try.underlying22 Try.sizeOf2 Try.zeroValue2 rfl rfl rfl [(0, .int .i64 r_1)] rfl ⟨rfl, rfl, trivial⟩ rfl rfl fun s5 => ?_
      refine TL.small fun h5 => ?_
      refine TL.append 1 rfl (Rd.row 0 rfl) Try.underlying22 (info_of Try.type2) (zv := (Try.t2.zero.getD (.bool false))) rfl rfl rfl (by decide) h5 rfl rfl rfl rfl fun s6 => ?_
      refine TL.assign rfl rfl (v := SV.v s6) rfl ?_
      refine TL.done ?_
      refine TC.region ?_
      refine TL.bin .i64 x1 1 rfl rfl rfl rfl (v := .int .i64 (w64 (x1 + 1))) rfl ?_
      refine TL.move rfl rfl (v := .int .i64 (w64 (x1 + 1))) rfl ?_
      refine TL.done ?_
      exact TC.next1 (((out1 ++ ([r_1] : List Int)), (w64 (x1 + 1)))) (s6) ⟨rfl, rfl, rfl, rfl, rfl, rfl, rfl, trivial⟩ [1] rfl
    · exact TC.brk1 ((out1, x1)) (s4) ⟨rfl, rfl, rfl, rfl, rfl, rfl, rfl, trivial⟩ [0] rfl
  · rintro ⟨out1, x1⟩ s4
    refine TC.seq ?_
    refine TC.region ?_
    refine TL.move rfl rfl (v := SV.v s4) rfl ?_
    refine TL.assign rfl rfl (v := SV.v s4) rfl ?_
    refine TL.done ?_
    exact TC.retF (Fin.body (fin1 (.inr rfl) rfl (.tmp rfl) [0] rfl ⟨s4, rfl, rfl⟩))

end Go.Proofs.Ytiiljfpbcanphaa.G

/- One row less: slices.Delete at a slice of rows, by the rows' own values alone. -/
namespace Go.Proofs.Ytiiljfpbcanphaa.G
open Go Go.Sx Go.Proofs Go.RowKit Go.Sort Go.Lib Go.Shelf
theorem info22 : (Try.prog.info? 22).map (fun i => (i.zero, i.size, i.bytes)) = some (some (.slice none 0 0), 1, 24) := by kernel_rfl
set_option maxHeartbeats 4000000 in
set_option maxRecDepth 1000000 in
theorem delete_walk (blk off cap i : Nat) (d : Array SV) (w : World) (hH : Holds SV.v w blk off d) (hcap : d.size ≤ cap) (hm : cap ≤ 9223372036854775807) (hi : i < d.size) :
    Calls Try.prog 200 #[.slice (some ⟨blk, off, none⟩) d.size cap, .int .i64 i, .int .i64 (IntKind.i64.wrap ((i : Int) + 1))] w fun e w' => e = .returned (.slice (some ⟨blk, off, none⟩) (d.size - 1) cap) ∧ ∃ q, w' = putRow SV.v (Sort.ahead w q) blk off (d.toList.take i ++ d.toList.drop (i + 1) ++ List.replicate 1 (⟨none, 0, 0⟩ : SV)).toArray := by
  obtain ⟨i0, hi0, hz0, hz1, hz2⟩ := info_parts info22
  have hwr : IntKind.i64.wrap ((i : Int) + 1) = ((i + 1 : Nat) : Int) := by rw [IntKind.wrap_i64]; omega
  rw [hwr]
  obtain ⟨j, hj⟩ : ∃ j, j = i + 1 := ⟨_, rfl⟩
  rw [← hj]
  have hjd : j ≤ d.size := by omega
  have hij : i ≤ j := by omega
  have hne : ¬ (i : Int) = (j : Int) := by omega
  obtain ⟨news, hnews⟩ : ∃ news, news = (d.toList.drop j).map SV.v := ⟨_, rfl⟩
  have hlen : news.length = d.size - j := by rw [hnews]; simp
  have hget : ∀ t, t < d.size - j → news[t]? = some (SV.v d[j + t]!) := by
    intro t ht
    rw [hnews, List.getElem?_map, List.getElem?_drop, Array.getElem?_toList, getElem!_pos d (j + t) (by omega), Array.getElem?_eq_getElem (by omega)]
    rfl
  obtain ⟨A, hA, hsrc⟩ : ∃ A : Addr, (if cap = j then some (⟨blk, off, none⟩ : Addr) else some ⟨blk, off + j, none⟩) = some A ∧ Hid (∀ t u, news[t]? = some u → w.drew.cell? (A.add t) = some u) := by
    by_cases h : cap = j
    · refine ⟨⟨blk, off, none⟩, by simp [h], fun t u hu => ?_⟩
      have h0 : news.length = 0 := by rw [hlen]; omega
      rw [List.length_eq_zero_iff.1 h0] at hu
      simp at hu
    · refine ⟨⟨blk, off + j, none⟩, by simp [h], fun t u hu => ?_⟩
      have ht : t < d.size - j := by
        have := (List.getElem?_eq_some_iff.1 hu).1
        rwa [hlen] at this
      rw [hget t ht] at hu
      rw [Addr.add_lit, show off + j + t = off + (j + t) by omega]
      exact (hH (j + t) (by omega)).1.trans hu
  have s1 : Hid (news.length = (d.size - j) * 1) := by rw [Nat.mul_one]; exact hlen
  have s2 : Hid (∀ u ∈ news, u.oneCell' = true) := by
    intro u hu
    rw [hnews] at hu
    obtain ⟨x, _, rfl⟩ := List.mem_map.1 hu
    rfl
  have s3 : Hid (∀ t, t < news.length → (w.drew.cell? ⟨blk, off + i * 1 + t, none⟩).isSome = true ∧ w.drew.frozen? ⟨blk, off + i * 1 + t, none⟩ = false) := by
    intro t ht
    rw [hlen] at ht
    rw [Nat.mul_one, Nat.add_assoc]
    exact ⟨by show (w.cell? _).isSome = true; rw [(hH (i + t) (by omega)).1]; rfl, (hH (i + t) (by omega)).2⟩
  obtain ⟨W1, hW1⟩ : ∃ W1, W1 = w.drew.setCells blk (off + i * 1) news := ⟨_, rfl⟩
  have hW1' : W1 = putRow SV.v (Sort.ahead w 1) blk off (lay d i (d.toList.drop j)) := by
    rw [hW1, hnews, Nat.mul_one, ← putRow_setCells SV.v (Sort.ahead w 1) blk off _ d i (by simp; omega), putRow_self SV.v (Sort.ahead w 1) blk off d (holds_ahead SV.v w 1 blk off d hH)]
    rfl
  have hH1 : Holds SV.v W1 blk off (lay d i (d.toList.drop j)) := by rw [hW1']; exact holds_putRow SV.v _ blk off d _ (holds_ahead SV.v w 1 blk off d hH) (lay_size _ _ _)
  have hcl : ∀ ty, (Builtin.clear_ #[32] ty #[.slice (some ⟨blk, off + (i + (d.size - j)), none⟩) (d.size - (i + (d.size - j))) (cap - (i + (d.size - j)))]).run Try.prog W1 = .ok (.tuple #[]) (W1.setCells blk (off + (i + (d.size - j))) (List.replicate (d.size - (i + (d.size - j))) (SV.v ⟨none, 0, 0⟩))) :=
    fun ty => Lib.run_clear_slice W1 _ _ ty _ Try.underlying32 Try.zeroValue22 rfl rfl blk (off + (i + (d.size - j))) _ _ (by omega) (fun t ht => by rw [show off + (i + (d.size - j)) + t = off + (i + (d.size - j) + t) by omega, (hH1 _ (by rw [lay_size]; omega)).1]; rfl) (fun t ht => by rw [show off + (i + (d.size - j)) + t = off + (i + (d.size - j) + t) by omega]; exact (hH1 _ (by rw [lay_size]; omega)).2)
  have X : Aside (W1 = putRow SV.v (Sort.ahead w 1) blk off (lay d i (d.toList.drop j))) := hW1'
  have hW : Hid (W1 = w.drew.setCells blk (off + i * 1) news) := hW1
  have hic : i ≤ cap := by omega
  have hjc : j ≤ cap := by omega
  have hij2 : i < j := by omega
  have hjH : Hid (j = i + 1) := hj
  have mixed : Try.prog.follows .mixedOrders = true := by kernel_rfl
  clear hW1 hW1' hH1 hH hget hnews hlen hwr hj
  go_enter Try.func200, Try.ntmps200
  go_wp2_with fail
  go_region_law_o (refine step_append_room rfl (.tmp 22) (.tmp 25) 32 rfl 22 i0 1 Try.underlying32 hi0 hz1 blk off i cap (by simp [Act.eval, Act.put]) A (d.size - j) (cap - j) news (by simp [Act.eval, Act.put]) s1.out hsrc.out s2.out (by omega) s3.out ?_; rw [← hW.out])
  go_wp2
  go_ret
  have hj := hjH.out
  refine ⟨by rw [show d.size - 1 = i + (d.size - j) by omega]; rfl, 1, ?_⟩
  have := delete_arr d i j (⟨none, 0, 0⟩ : SV) hij hjd
  rw [show j - i = 1 by omega] at this
  rw [← this, ← putRow_setCells SV.v _ blk off _ _ (i + (d.size - j)) (by rw [lay_size]; simp; omega), ← X.out, List.map_replicate, show d.size - (i + (d.size - j)) = 1 by omega]
end Go.Proofs.Ytiiljfpbcanphaa.G

/- Rows that go on into a copy of their values' row; a row struck out. -/
namespace Go.Proofs.Ytiiljfpbcanphaa.G
open Go Go.Sx Go.Proofs
theorem set_at {α : Type} {L : List α} {i : Nat} {x : α} (h : i < L.length) : (L.set i x)[i]? = some x := by simp [h]
theorem evs_map (ys : List SV) : encs Ev ys = ys.map SV.v := by
  induction ys with
  | nil => rfl
  | cons y ys ih => simp only [encs, List.flatMap_cons, List.map_cons] at ih ⊢; rw [ih]; rfl
theorem delete_st {w0 : World} {I : Hp} {L : List Asn} {w : World} {s : SV} {ss : List SV} (j : Nat) (hj : L[j]? = some (row Ev 22 s ss)) (k : Int) (hk : 0 ≤ k ∧ k < ss.length) (hS : St w0 I L w) :
    Calls Try.prog 200 #[s.v, .int .i64 k, .int .i64 (w64 (k + 1))] w (RetM w0 I fun v L' => ∃ s' : SV, v = s'.v ∧ L' = L.set j (row Ev 22 s' (ss.eraseIdx k.toNat))) := by
  obtain ⟨i, rfl⟩ := Int.eq_ofNat_of_zero_le hk.1
  obtain ⟨ρA, hA, hh⟩ := hS.get hj
  rcases hA with ⟨rfl, rfl, rfl⟩ | ⟨g, o, cap, cur, rfl, rfl, h1, h2, h3, h4⟩
  · simp at hk; omega
  have hb := hh _ (List.mem_singleton.2 rfl)
  simp only at hb
  have hE : Ev.sz = 1 := rfl
  rw [hE, Nat.mul_one] at h3 h4
  have hes : encs Ev ss = ss.map SV.v := evs_map ss
  rw [hes] at h4
  have hg : g < w.heap.size := (Array.getElem?_eq_some_iff.1 hb).1
  have hcell : ∀ t, t < ss.length → cur[o + t]? = some (SV.v ss[t]!) := by
    intro t ht
    have e1 : (ss.map SV.v)[t]? = some (SV.v ss[t]!) := by rw [List.getElem?_map, List.getElem?_eq_getElem ht, getElem!_pos ss t ht]; rfl
    rw [← h4, List.getElem?_take, if_pos ht, List.getElem?_drop] at e1
    simpa using e1
  have hH : Go.Sort.Holds SV.v w g o ss.toArray := by
    intro t ht
    have ht' : t < ss.length := by simpa using ht
    refine ⟨?_, ?_⟩
    · rw [cell_at hb, hcell t ht']
      simp
    · unfold World.frozen?
      simp only
      rw [hb]
      simp
  have hd := delete_walk g o cap i ss.toArray w hH (by simpa using h1) (by simpa [maxLen] using h2) (by simpa using (by omega : i < ss.length))
  have e64 : w64 (((i : Nat) : Int) + 1) = IntKind.i64.wrap ((i : Int) + 1) := rfl
  rw [e64, Int.toNat_natCast]
  refine hd.mono ?_
  rintro e w' ⟨rfl, q, rfl⟩
  have hi : i < ss.length := by omega
  have hnew : (ss.toArray.toList.take i ++ ss.toArray.toList.drop (i + 1) ++ List.replicate 1 (⟨none, 0, 0⟩ : SV)).toArray = (ss.eraseIdx i ++ [(⟨none, 0, 0⟩ : SV)]).toArray := by
    rw [List.eraseIdx_eq_take_drop_succ]; rfl
  rw [hnew]
  have hlen : (ss.eraseIdx i).length = ss.length - 1 := by rw [List.length_eraseIdx, if_pos hi]
  refine ⟨_, _, rfl, ⟨⟨some ⟨g, o, none⟩, (ss.eraseIdx i).length, cap⟩, by rw [hlen]; simp [SV.v], rfl⟩, ?_⟩
  have hheap : ∀ b, (Go.Sort.putRow SV.v (Go.Sort.ahead w q) g o (ss.eraseIdx i ++ [(⟨none, 0, 0⟩ : SV)]).toArray).heap[b]? = if b = g then some (.cells (Go.Sort.putCells SV.v o (ss.eraseIdx i ++ [(⟨none, 0, 0⟩ : SV)]).toArray cur) 22 (0, 0)) else w.heap[b]? := by
    intro b
    unfold Go.Sort.putRow Go.Sort.mapBlock
    simp only [Go.Sort.heap_ahead, Array.getElem?_modify]
    by_cases hbg : g = b
    · subst hbg
      rw [if_pos rfl, if_pos rfl, hb]; rfl
    · rw [if_neg hbg, if_neg (Ne.symm hbg)]
  refine hS.turn hj ?_ rfl rfl rfl (by simp)
  intro ρB hB hhB
  rcases hB with ⟨hB, _⟩ | ⟨b', o', cap', cur', hs', rfl, _, _, _, _⟩
  · cases hB
  injection hs' with hs1 hs2 hs3
  injection hs1 with hs1
  injection hs1 with hs1 hs4
  subst hs1 hs3 hs4
  refine ⟨[(g, .cells (Go.Sort.putCells SV.v o (ss.eraseIdx i ++ [(⟨none, 0, 0⟩ : SV)]).toArray cur) 22 (0, 0))], .inr ⟨g, o, cap, _, rfl, rfl, by rw [hlen]; omega, h2, ?_, ?_⟩, rfl, ?_, ?_⟩
  · rw [hE, Nat.mul_one]
    simpa [Go.Sort.putCells] using h3
  · rw [hE, Nat.mul_one, evs_map]
    apply List.ext_getElem?
    intro t
    rw [List.getElem?_take]
    by_cases ht : t < (ss.eraseIdx i).length
    · rw [if_pos ht, List.getElem?_drop, List.getElem?_map, List.getElem?_eq_getElem ht]
      have hsz : o + t < cur.size := by omega
      simp only [Go.Sort.putCells, Array.getElem?_toList, Array.getElem?_mapIdx, Array.getElem?_eq_getElem hsz, Option.map_some]
      rw [if_pos ⟨by omega, by simp; omega⟩]
      congr 2
      rw [show o + t - o = t by omega]
      rw [getElem!_pos _ t (by simp; omega)]
      simp [List.getElem_append_left ht]
    · rw [if_neg ht, List.getElem?_map, List.getElem?_eq_none (by omega)]; rfl
  · intro r hr
    obtain rfl := List.mem_singleton.1 hr
    rw [hheap]; simp
  · intro b hbn
    rw [hheap, if_neg (by simpa using hbn)]
section
variable {w0 : World} {n : Nat} {I : Hp} {Γ : Gm} {L : List Asn} {cs : List Code} {β : Type} {m : Option β} {D : β → Post} {ops : Array Oper} {os : List Oper}
variable {d : Nat} {ty : TypeId} {pos : String} {af : Array Edge} {g : Option (Nat × Bool)}
theorem TL.deleteM {s : SV} {ss : List SV} {c : List (List Int)} {args : Array Operand} {ts : Array TypeId} (i : Nat) (hi : L[i]? = some (mat Ei 2 22 s ss c)) (k : Int) (hk : 0 ≤ k ∧ k < c.length)
    (hg : gd ops Γ ⟨some d, .call { callee := .value (.func 200), args := args, argTypes := ts }, ty, pos, af, g⟩ = some true) (hn : Nat.blt d n = true) (hx : evs Γ args.toList = some [s.v, .int .i64 k, .int .i64 (w64 (k + 1))])
    (kk : ∀ s' : SV, TL Try.prog w0 n I ((d, s'.v) :: Γ) (L.set i (mat Ei 2 22 s' (ss.eraseIdx k.toNat) (c.eraseIdx k.toNat))) ops os cs m D) :
    TL Try.prog w0 n I Γ L ops (⟨some d, .call { callee := .value (.func 200), args := args, argTypes := ts }, ty, pos, af, g⟩ :: os) cs m D := by
  refine TL.matlen i hi fun hl => ?_
  refine TL.matcut i hi ?_
  have hil : i < L.length := (List.getElem?_eq_some_iff.1 hi).1
  refine TL.rowsErase (ss := ss) (yss := c) (E := Ei) (T := 2) (i + 1) k.toNat (set_at hil) ?_
  have hset : (row Ev 22 s ss :: L.set i (rows Ei 2 ss c)).set (i + 1) (rows Ei 2 (ss.eraseIdx k.toNat) (c.eraseIdx k.toNat)) = row Ev 22 s ss :: L.set i (rows Ei 2 (ss.eraseIdx k.toNat) (c.eraseIdx k.toNat)) := by
    rw [List.set_cons_succ, List.set_set]
  rw [hset]
  intro a w hF hS o ho
  refine TL.callM (mf := some ()) (kont := fun _ => m) (R := fun _ v L' => ∃ s' : SV, v = s'.v ∧ L' = (row Ev 22 s ss :: L.set i (rows Ei 2 (ss.eraseIdx k.toNat) (c.eraseIdx k.toNat))).set 0 (row Ev 22 s' (ss.eraseIdx k.toNat))) Try.call200 hg hn hx ?_ ?_ a w hF hS o ho
  · intro w hS _ _
    exact delete_st 0 rfl k (by rw [hl]; exact hk) hS
  · rintro _ v L' ⟨s', rfl, rfl⟩
    rw [List.set_cons_zero]
    refine TL.matmk (E := Ei) (T := 2) (T2 := 22) (s := s') (ss := ss.eraseIdx k.toNat) (yss := c.eraseIdx k.toNat) 0 (i + 1) rfl (set_at hil) ?_
    refine TL.drop 0 rfl ?_
    have : (((row Ev 22 s' (ss.eraseIdx k.toNat) :: L.set i (rows Ei 2 (ss.eraseIdx k.toNat) (c.eraseIdx k.toNat))).set 0 emp).set (i + 1) (mat Ei 2 22 s' (ss.eraseIdx k.toNat) (c.eraseIdx k.toNat))).eraseIdx 0 = L.set i (mat Ei 2 22 s' (ss.eraseIdx k.toNat) (c.eraseIdx k.toNat)) := by
      rw [List.set_cons_zero, List.set_cons_succ, List.eraseIdx_cons_zero, List.set_set]
    rw [this]
    exact kk s'
theorem TL.cloneM {s : SV} {ss : List SV} {c : List (List Int)} {args : Array Operand} {ts : Array TypeId} (i : Nat) (hi : L[i]? = some (mat Ei 2 22 s ss c)) (hsm : c.length ≤ 1099511627776)
    (hg : gd ops Γ ⟨some d, .call { callee := .value (.func 196), args := args, argTypes := ts }, ty, pos, af, g⟩ = some true) (hn : Nat.blt d n = true) (hx : evs Γ args.toList = some [s.v])
    (kk : ∀ s' : SV, TL Try.prog w0 n I ((d, s'.v) :: Γ) (row Ev 22 s ss :: L.set i (mat Ei 2 22 s' ss c)) ops os cs m D) :
    TL Try.prog w0 n I Γ L ops (⟨some d, .call { callee := .value (.func 196), args := args, argTypes := ts }, ty, pos, af, g⟩ :: os) cs m D := by
  refine TL.matlen i hi fun hl => ?_
  refine TL.matcut i hi ?_
  have hil : i < L.length := (List.getElem?_eq_some_iff.1 hi).1
  have hf : slices_Clone_int64_int64_196.f ss = some ss := by
    unfold slices_Clone_int64_int64_196.f Sx.small
    rw [if_pos (by simp only [List.length_nil]; omega)]; rfl
  refine TL.callH (R := slices_Clone_int64_int64_196.R) hf Try.call196 hg hn hx (fun w hS => slices_Clone_int64_int64_196.calls w s ss ((Rd.row 0 rfl) w hS)) ?_
  rintro v L' ⟨s', rfl, rfl⟩
  refine (?_ : TL Try.prog w0 n I ((d, s'.v) :: Γ) (row Ev 22 s' ss :: row Ev 22 s ss :: L.set i (rows Ei 2 ss c)) ops os cs m D)
  refine TL.matmk (E := Ei) (T := 2) (T2 := 22) (s := s') (ss := ss) (yss := c) 0 (i + 2) rfl (set_at hil) ?_
  refine TL.drop 0 rfl ?_
  have : (((row Ev 22 s' ss :: row Ev 22 s ss :: L.set i (rows Ei 2 ss c)).set 0 emp).set (i + 2) (mat Ei 2 22 s' ss c)).eraseIdx 0 = row Ev 22 s ss :: L.set i (mat Ei 2 22 s' ss c) := by
    rw [List.set_cons_zero, List.set_cons_succ, List.set_cons_succ, List.eraseIdx_cons_zero, List.set_set]
  rw [this]
  exact kk s'
end
end Go.Proofs.Ytiiljfpbcanphaa.G
