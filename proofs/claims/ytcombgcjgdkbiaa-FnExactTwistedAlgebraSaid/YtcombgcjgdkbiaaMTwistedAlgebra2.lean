/- Functions of the program, as pure functions. -/
import Derived.Test.YtcombgcjgdkbiaaMTwistedAlgebra1
import Derived.Test.YtcombgcjgdkbiaaProg
/- spec.l06Algebra, as a pure function. -/
set_option linter.unusedVariables false
namespace Go.Proofs.Ytcombgcjgdkbiaa.G
open Go Go.Sx Go.Proofs

def spec_l06Algebra.b0 (g1 : Int) (i1 : Int) (g2 : Nat → UInt8) : (Nat → UInt8) × Int → Option (LB ((Nat → UInt8) × Int)) := fun p => match p with | (out2, j1) => (bif (decide (j1 < g1)) then chk i1 6 (chk j1 6 (chk ((g2 (i1.toNat * 6 + j1.toNat)).toNat : Int) 6 (some (.next ((upd out2 (i1.toNat * 36 + j1.toNat * 6 + (g2 (i1.toNat * 6 + j1.toNat)).toNat) (1 : UInt8)), (w64 (j1 + 1))))))) else some (.brk (out2, j1)))

def spec_l06Algebra.b1 (g1 : Int) (g2 : Nat → UInt8) : (Nat → UInt8) × Int → Option (LB ((Nat → UInt8) × Int)) := fun p => match p with | (out1, i1) => (bif (decide (i1 < g1)) then (loop1 (spec_l06Algebra.b0 g1 i1 g2) (out1, 0)).bind (fun p => match p with | (out2, j1) => some (.next (out2, (w64 (i1 + 1))))) else some (.brk (out1, i1)))

def spec_l06Algebra.f (p1 : Int) (g1 : Int) (g2 : Nat → UInt8) : Option (Int × Int × (Nat → UInt8) × (Nat → UInt8)) := (loop1 (spec_l06Algebra.b1 g1 g2) ((fun _ => (0 : UInt8)), 0)).bind (fun p => match p with | (out1, i1) => some (p1, g1, out1, (upd (fun _ => (0 : UInt8)) 0 (1 : UInt8))))

def spec_l06Algebra.R (r : Int × Int × (Nat → UInt8) × (Nat → UInt8)) (v : Value) (L : List Asn) : Prop := v = sval [.one (.int .i64 r.1), .one (.int .i64 r.2.1), .arr 216 (enf u8v r.2.2.1), .arr 6 (enf u8v r.2.2.2)] ∧ L = []

set_option maxRecDepth 100000 in
set_option maxHeartbeats 4000000 in
theorem spec_l06Algebra.calls (w : World) (p1 : Int) (g1 : Int) (g2 : Nat → UInt8) :
    ∀ r, spec_l06Algebra.f p1 g1 g2 = some r → Calls Try.prog 96 #[.int .i64 p1, sval [.one (.int .i64 g1), .arr 36 (enf u8v g2)]] w (Ret w (spec_l06Algebra.R r)) := by

  refine calls_T (n := 39) (Γ := [(0, .int .i64 p1), (1, sval [.one (.int .i64 g1), .arr 36 (enf u8v g2)])]) (R := spec_l06Algebra.R) Try.func96 rfl rfl (Nat.le_of_ble_eq_true rfl) ⟨rfl, rfl, trivial⟩ ?_
  unfold spec_l06Algebra.f
  refine TC.seq ?_
  refine TC.region ?_
  refine TL.box [.one (.int .i64 g1), .arr 36 (enf u8v g2)] rfl rfl rfl rfl fun b_1 => ?_
  refine TL.alloc [.one (.int .i64 0), .one (.int .i64 0), .arr 216 (enf u8v (fun _ => (0 : UInt8))), .arr 6 (enf u8v (fun _ => (0 : UInt8)))] rfl rfl Try.zeroValue45 rfl fun b_2 => ?_
  refine TL.done ?_
  refine TC.seq ?_
  refine TC.region ?_
  refine TL.move rfl rfl (v := .int .i64 p1) rfl ?_
  refine TL.fa Try.underlying37 rfl Try.sizeOf2 rfl 0 rfl rfl rfl rfl ?_
  refine TL.load1 0 (Src.box 1 rfl) Try.isAgg2 rfl rfl rfl rfl rfl ?_
  refine TL.buildS (segs0 := [.one (.int .i64 0), .one (.int .i64 0), .arr 216 (enf u8v (fun _ => (0 : UInt8))), .arr 6 (enf u8v (fun _ => (0 : UInt8)))]) (segs := [.one (.int .i64 p1), .one (.int .i64 g1), .arr 216 (enf u8v (fun _ => (0 : UInt8))), .arr 6 (enf u8v (fun _ => (0 : UInt8)))]) [1, 1, 216, 6] Try.underlying45 ⟨Try.sizeOf2, Try.sizeOf2, Try.sizeOf42, Try.sizeOf43, trivial⟩ Try.zeroValue45 rfl [(0, .int .i64 p1), (1, .int .i64 g1)] rfl (fun pl hpl => by subst hpl; exact fill_one 0 rfl rfl rfl rfl (fill_one 1 rfl rfl rfl rfl (rfl))) rfl rfl ?_
  refine TL.alloc [.one (.int .i64 0), .one (.int .i64 0), .arr 216 (enf u8v (fun _ => (0 : UInt8))), .arr 6 (enf u8v (fun _ => (0 : UInt8)))] rfl rfl Try.zeroValue45 rfl fun b_3 => ?_
  refine TL.stM (news := [.one (.int .i64 p1), .one (.int .i64 g1), .arr 216 (enf u8v (fun _ => (0 : UInt8))), .arr 6 (enf u8v (fun _ => (0 : UInt8)))]) 0 0 4 rfl Try.sizeOf45 (ones_one rfl (ones_one rfl (ones_arr (fun _ => rfl) (ones_arr (fun _ => rfl) ones_nil)))) rfl rfl rfl rfl rfl rfl ?_
  refine TL.done ?_
  refine TC.seq ?_
  refine TC.seq ?_
  refine TC.region ?_
  refine TL.assign rfl rfl (v := .int .i64 0) rfl ?_
  refine TL.done ?_
  refine TC.loop1 (σ := (Nat → UInt8) × Int) (γ := Unit) (Γ' := (fun p q => match p, q with | (out1, i1), _ => [(3, bp b_1 0), (4, bp b_2 0), (5, bp b_3 0), (6, .int .i64 i1)])) (L' := (fun p q => match p, q with | (out1, i1), _ => [box b_1 37 [.one (.int .i64 g1), .arr 36 (enf u8v g2)], box b_2 45 [.one (.int .i64 0), .one (.int .i64 0), .arr 216 (enf u8v (fun _ => (0 : UInt8))), .arr 6 (enf u8v (fun _ => (0 : UInt8)))], box b_3 45 [.one (.int .i64 p1), .one (.int .i64 g1), .arr 216 (enf u8v out1), .arr 6 (enf u8v (fun _ => (0 : UInt8)))]])) (Γb := (fun p q => match p, q with | (out1, i1), _ => [(3, bp b_1 0), (4, bp b_2 0), (5, bp b_3 0), (6, .int .i64 i1)])) (Lb := (fun p q => match p, q with | (out1, i1), _ => [box b_1 37 [.one (.int .i64 g1), .arr 36 (enf u8v g2)], box b_2 45 [.one (.int .i64 0), .one (.int .i64 0), .arr 216 (enf u8v (fun _ => (0 : UInt8))), .arr 6 (enf u8v (fun _ => (0 : UInt8)))], box b_3 45 [.one (.int .i64 p1), .one (.int .i64 g1), .arr 216 (enf u8v out1), .arr 6 (enf u8v (fun _ => (0 : UInt8)))]])) (((fun _ => (0 : UInt8)), 0)) (()) ⟨rfl, rfl, rfl, rfl, trivial⟩ [2, 1, 0] rfl ?_ ?_
  · rintro ⟨out1, i1⟩ _
    refine TC.seq ?_
    refine TC.seq ?_
    refine TC.region ?_
    refine TL.move rfl rfl (v := .int .i64 i1) rfl ?_
    refine TL.fa Try.underlying37 rfl Try.sizeOf2 rfl 0 rfl rfl rfl rfl ?_
    refine TL.load1 0 (Src.box 0 rfl) Try.isAgg2 rfl rfl rfl rfl rfl ?_
    refine TL.bin .i64 i1 g1 rfl rfl rfl rfl (v := .bool (decide (i1 < g1))) rfl ?_
    refine TL.done ?_
    refine TC.cond (b := (decide (i1 < g1))) rfl (fun c1 => ?_) (fun c2 => ?_)
    · refine TC.skip ?_
      refine TC.seq ?_
      refine TC.block (NoEx.loop1 rfl) ?_
      refine TC.seq ?_
      refine TC.region ?_
      refine TL.assign rfl rfl (v := .int .i64 0) rfl ?_
      refine TL.done ?_
      refine TC.loop1 (σ := (Nat → UInt8) × Int) (γ := Unit) (Γ' := (fun p q => match p, q with | (out2, j1), _ => [(3, bp b_1 0), (4, bp b_2 0), (5, bp b_3 0), (6, .int .i64 i1), (7, .int .i64 j1)])) (L' := (fun p q => match p, q with | (out2, j1), _ => [box b_1 37 [.one (.int .i64 g1), .arr 36 (enf u8v g2)], box b_2 45 [.one (.int .i64 0), .one (.int .i64 0), .arr 216 (enf u8v (fun _ => (0 : UInt8))), .arr 6 (enf u8v (fun _ => (0 : UInt8)))], box b_3 45 [.one (.int .i64 p1), .one (.int .i64 g1), .arr 216 (enf u8v out2), .arr 6 (enf u8v (fun _ => (0 : UInt8)))]])) (Γb := (fun p q => match p, q with | (out2, j1), _ => [(3, bp b_1 0), (4, bp b_2 0), (5, bp b_3 0), (6, .int .i64 i1), (7, .int .i64 j1)])) (Lb := (fun p q => match p, q with | (out2, j1), _ => [box b_1 37 [.one (.int .i64 g1), .arr 36 (enf u8v g2)], box b_2 45 [.one (.int .i64 0), .one (.int .i64 0), .arr 216 (enf u8v (fun _ => (0 : UInt8))), .arr 6 (enf u8v (fun _ => (0 : UInt8)))], box b_3 45 [.one (.int .i64 p1), .one (.int .i64 g1), .arr 216 (enf u8v out2), .arr 6 (enf u8v (fun _ => (0 : UInt8)))]])) ((out1, 0)) (()) ⟨rfl, rfl, rfl, rfl, rfl, trivial⟩ [0, 0, 0] rfl ?_ ?_
      · rintro ⟨out2, j1⟩ _
        refine TC.seq ?_
        refine TC.seq ?_
        refine TC.region ?_
        refine TL.move rfl rfl (v := .int .i64 j1) rfl ?_
        refine TL.fa Try.underlying37 rfl Try.sizeOf2 rfl 0 rfl rfl rfl rfl ?_
        refine TL.load1 0 (Src.box 0 rfl) Try.isAgg2 rfl rfl rfl rfl rfl ?_
        refine TL.bin .i64 j1 g1 rfl rfl rfl rfl (v := .bool (decide (j1 < g1))) rfl ?_
        refine TL.done ?_
        refine TC.cond (b := (decide (j1 < g1))) rfl (fun c3 => ?_) (fun c4 => ?_)
        · refine TC.skip ?_
          refine TC.seq ?_
          refine TC.block (NoEx.loop1 rfl) ?_
          refine TC.wk (Γ' := [(3, bp b_1 0), (4, bp b_2 0), (5, bp b_3 0), (6, .int .i64 i1), (7, .int .i64 j1), (18, .int .i64 j1), (19, bp b_1 0), (20, .int .i64 g1), (21, .bool (decide (j1 < g1)))]) ⟨rfl, rfl, rfl, rfl, rfl, rfl, rfl, rfl, rfl, trivial⟩ ?_
          refine TC.chk fun h1 => ?_
          refine TC.chk fun h2 => ?_
          refine TC.chk fun h3 => ?_
          refine TC.drawG [(3, bp b_1 0), (4, bp b_2 0), (5, bp b_3 0), (6, .int .i64 i1), (7, .int .i64 j1), (18, .int .i64 j1), (19, bp b_1 0), (20, .int .i64 g1), (21, .bool (decide (j1 < g1)))] [] ⟨rfl, rfl, rfl, rfl, rfl, rfl, rfl, rfl, rfl, trivial⟩ trivial (fun l_ g3 => [box b_1 37 [.one (.int .i64 g1), .arr 36 (enf u8v g2)], box b_2 45 [.one (.int .i64 0), .one (.int .i64 0), .arr 216 (enf u8v (fun _ => (0 : UInt8))), .arr 6 (enf u8v (fun _ => (0 : UInt8)))], (bif nb l_ 12 then box b_3 45 [.one (.int .i64 p1), .one (.int .i64 g1), .arr 216 (enf u8v (upd out2 (i1.toNat * 36 + j1.toNat * 6 + (g2 (i1.toNat * 6 + j1.toNat)).toNat) (1 : UInt8))), .arr 6 (enf u8v (fun _ => (0 : UInt8)))] else box b_3 45 [.one (.int .i64 p1), .one (.int .i64 g1), .arr 216 (enf u8v out2), .arr 6 (enf u8v (fun _ => (0 : UInt8)))])]) (fun g3 => [.int .i64 i1, .int .i64 j1, .int .i64 i1, .int .i64 j1, bp b_1 1, bp b_1 (1 + i1.toNat * 6), bp b_1 (1 + (i1.toNat * 6 + j1.toNat)), u8v (g2 (i1.toNat * 6 + j1.toNat)), bp b_3 2, bp b_3 (2 + i1.toNat * 36), bp b_3 (2 + (i1.toNat * 36 + j1.toNat * 6)), bp b_3 (2 + (i1.toNat * 36 + j1.toNat * 6 + (g2 (i1.toNat * 6 + j1.toNat)).toNat)), undef]) [[], [], [], [], [], [2, 4], [2, 3, 4, 5], [2, 3, 4, 5, 6], [], [0, 8], [0, 1, 8, 9], [0, 1, 2, 3, 4, 5, 6, 7, 8, 9, 10], [0, 1, 2, 3, 4, 5, 6, 7, 8, 9, 10, 11]] [[some false, none, none, none, none, none, none, none, none, some false, some false, some false, some false], [none, some false, none, none, none, none, none, none, none, none, some false, some false, some false], [none, none, some false, none, none, some false, some false, some false, none, none, none, some false, some false], [none, none, none, some false, none, none, some false, some false, none, none, none, some false, some false], [none, none, none, none, some false, some false, some false, some false, none, none, none, some false, some false], [none, none, some true, none, some true, some false, some false, some false, none, none, none, some false, some false], [none, none, some true, some true, some true, some true, some false, some false, none, none, none, some false, some false], [none, none, some true, some true, some true, some true, some true, some false, none, none, none, some false, some false], [none, none, none, none, none, none, none, none, some false, some false, some false, some false, some false], [some true, none, none, none, none, none, none, none, some true, some false, some false, some false, some false], [some true, some true, none, none, none, none, none, none, some true, some true, some false, some false, some false], [some true, some true, some true, some true, some true, some true, some true, some true, some true, some true, some true, some false, some false], [some true, some true, some true, some true, some true, some true, some true, some true, some true, some true, some true, some true, some false]] (by kernel_rfl) (fun _ => rfl) rfl rfl rfl rfl rfl (fun _ _ => ⟨⟨⟨⟨⟨⟨⟨⟨⟨⟨⟨⟨⟨trivial, rfl⟩, rfl⟩, rfl⟩, rfl⟩, rfl⟩, rfl⟩, rfl⟩, rfl⟩, rfl⟩, rfl⟩, rfl⟩, rfl⟩, rfl⟩) 0 [0, 0, 0] (fun _ => rfl) ?_ ?_
          · refine ⟨rfl, ?_, rfl, ?_, rfl, ?_, rfl, ?_, rfl, ?_, rfl, ?_, rfl, ?_, rfl, ?_, rfl, ?_, rfl, ?_, rfl, ?_, rfl, ?_, rfl, ?_, trivial⟩
            · intro b1_ b2_ b3_ b4_ b5_ b6_ b7_ b8_ g3
              refine TL.move rfl rfl (v := .int .i64 i1) rfl ?_
              refine TL.done ?_
              exact TC.nrm () [] ⟨rfl, trivial⟩ [0, 0, 0] rfl
            · intro b0_ b2_ b3_ b4_ b5_ b6_ b7_ b8_ b9_ g3
              refine TL.move rfl rfl (v := .int .i64 j1) rfl ?_
              refine TL.done ?_
              exact TC.nrm () [] ⟨rfl, trivial⟩ [0, 0, 0] rfl
            · intro b0_ b1_ b3_ b4_ b8_ b9_ b10_ g3
              refine TL.move rfl rfl (v := .int .i64 i1) rfl ?_
              refine TL.done ?_
              exact TC.nrm () [] ⟨rfl, trivial⟩ [0, 0, 0] rfl
            · intro b0_ b1_ b2_ b4_ b5_ b8_ b9_ b10_ g3
              refine TL.move rfl rfl (v := .int .i64 j1) rfl ?_
              refine TL.done ?_
              exact TC.nrm () [] ⟨rfl, trivial⟩ [0, 0, 0] rfl
            · intro b0_ b1_ b2_ b3_ b8_ b9_ b10_ g3
              refine TL.asL [box b_1 37 [.one (.int .i64 g1), .arr 36 (enf u8v g2)], box b_2 45 [.one (.int .i64 0), .one (.int .i64 0), .arr 216 (enf u8v (fun _ => (0 : UInt8))), .arr 6 (enf u8v (fun _ => (0 : UInt8)))], box b_3 45 [.one (.int .i64 p1), .one (.int .i64 g1), .arr 216 (enf u8v out2), .arr 6 (enf u8v (fun _ => (0 : UInt8)))]] rfl ?_
              refine TL.fa Try.underlying37 rfl Try.sizeOf33 rfl 1 rfl rfl rfl rfl ?_
              refine TL.done ?_
              exact TC.nrm () [] ⟨rfl, trivial⟩ [0, 0, 0] rfl
            · intro b0_ b1_ b3_ b8_ b9_ b10_ g3
              refine TL.asL [box b_1 37 [.one (.int .i64 g1), .arr 36 (enf u8v g2)], box b_2 45 [.one (.int .i64 0), .one (.int .i64 0), .arr 216 (enf u8v (fun _ => (0 : UInt8))), .arr 6 (enf u8v (fun _ => (0 : UInt8)))], box b_3 45 [.one (.int .i64 p1), .one (.int .i64 g1), .arr 216 (enf u8v out2), .arr 6 (enf u8v (fun _ => (0 : UInt8)))]] rfl ?_
              refine TL.ixa i1 (1 + i1.toNat * 6) h1 Try.underlying33 Try.sizeOf32 rfl rfl rfl rfl (by omega) ?_
              refine TL.done ?_
              exact TC.nrm () [] ⟨rfl, trivial⟩ [0, 0, 0] rfl
            · intro b0_ b1_ b8_ b9_ b10_ g3
              refine TL.asL [box b_1 37 [.one (.int .i64 g1), .arr 36 (enf u8v g2)], box b_2 45 [.one (.int .i64 0), .one (.int .i64 0), .arr 216 (enf u8v (fun _ => (0 : UInt8))), .arr 6 (enf u8v (fun _ => (0 : UInt8)))], box b_3 45 [.one (.int .i64 p1), .one (.int .i64 g1), .arr 216 (enf u8v out2), .arr 6 (enf u8v (fun _ => (0 : UInt8)))]] rfl ?_
              refine TL.ixa j1 (1 + (i1.toNat * 6 + j1.toNat)) h2 Try.underlying32 Try.sizeOf5 rfl rfl rfl rfl (by omega) ?_
              refine TL.done ?_
              exact TC.nrm () [] ⟨rfl, trivial⟩ [0, 0, 0] rfl
            · intro b0_ b1_ b8_ b9_ b10_ g3
              refine TL.asL [box b_1 37 [.one (.int .i64 g1), .arr 36 (enf u8v g2)], box b_2 45 [.one (.int .i64 0), .one (.int .i64 0), .arr 216 (enf u8v (fun _ => (0 : UInt8))), .arr 6 (enf u8v (fun _ => (0 : UInt8)))], box b_3 45 [.one (.int .i64 p1), .one (.int .i64 g1), .arr 216 (enf u8v out2), .arr 6 (enf u8v (fun _ => (0 : UInt8)))]] rfl ?_
              refine TL.loadA (i1.toNat * 6 + j1.toNat) 1 (Src.box 0 rfl) Try.isAgg5 rfl (by omega) (v := u8v (g2 (i1.toNat * 6 + j1.toNat))) rfl (st := 1) rfl (by omega) rfl rfl rfl ?_
              refine TL.done ?_
              exact TC.nrm () [] ⟨rfl, trivial⟩ [0, 0, 0] rfl
            · intro b0_ b1_ b2_ b3_ b4_ b5_ b6_ b7_ g3
              refine TL.asL [box b_1 37 [.one (.int .i64 g1), .arr 36 (enf u8v g2)], box b_2 45 [.one (.int .i64 0), .one (.int .i64 0), .arr 216 (enf u8v (fun _ => (0 : UInt8))), .arr 6 (enf u8v (fun _ => (0 : UInt8)))], box b_3 45 [.one (.int .i64 p1), .one (.int .i64 g1), .arr 216 (enf u8v out2), .arr 6 (enf u8v (fun _ => (0 : UInt8)))]] rfl ?_
              refine TL.fa Try.underlying45 rfl Try.sizeOf42 rfl 2 rfl rfl rfl rfl ?_
              refine TL.done ?_
              exact TC.nrm () [] ⟨rfl, trivial⟩ [0, 0, 0] rfl
            · intro b1_ b2_ b3_ b4_ b5_ b6_ b7_ g3
              refine TL.asL [box b_1 37 [.one (.int .i64 g1), .arr 36 (enf u8v g2)], box b_2 45 [.one (.int .i64 0), .one (.int .i64 0), .arr 216 (enf u8v (fun _ => (0 : UInt8))), .arr 6 (enf u8v (fun _ => (0 : UInt8)))], box b_3 45 [.one (.int .i64 p1), .one (.int .i64 g1), .arr 216 (enf u8v out2), .arr 6 (enf u8v (fun _ => (0 : UInt8)))]] rfl ?_
              refine TL.ixa i1 (2 + i1.toNat * 36) h1 Try.underlying42 Try.sizeOf33 rfl rfl rfl rfl (by omega) ?_
              refine TL.done ?_
              exact TC.nrm () [] ⟨rfl, trivial⟩ [0, 0, 0] rfl
            · intro b2_ b3_ b4_ b5_ b6_ b7_ g3
              refine TL.asL [box b_1 37 [.one (.int .i64 g1), .arr 36 (enf u8v g2)], box b_2 45 [.one (.int .i64 0), .one (.int .i64 0), .arr 216 (enf u8v (fun _ => (0 : UInt8))), .arr 6 (enf u8v (fun _ => (0 : UInt8)))], box b_3 45 [.one (.int .i64 p1), .one (.int .i64 g1), .arr 216 (enf u8v out2), .arr 6 (enf u8v (fun _ => (0 : UInt8)))]] rfl ?_
              refine TL.ixa j1 (2 + (i1.toNat * 36 + j1.toNat * 6)) h2 Try.underlying33 Try.sizeOf32 rfl rfl rfl rfl (by omega) ?_
              refine TL.done ?_
              exact TC.nrm () [] ⟨rfl, trivial⟩ [0, 0, 0] rfl
            · intro g3
              refine TL.asL [box b_1 37 [.one (.int .i64 g1), .arr 36 (enf u8v g2)], box b_2 45 [.one (.int .i64 0), .one (.int .i64 0), .arr 216 (enf u8v (fun _ => (0 : UInt8))), .arr 6 (enf u8v (fun _ => (0 : UInt8)))], box b_3 45 [.one (.int .i64 p1), .one (.int .i64 g1), .arr 216 (enf u8v out2), .arr 6 (enf u8v (fun _ => (0 : UInt8)))]] rfl ?_
              refine TL.ixa ((g2 (i1.toNat * 6 + j1.toNat)).toNat : Int) (2 + (i1.toNat * 36 + j1.toNat * 6 + (g2 (i1.toNat * 6 + j1.toNat)).toNat)) h3 Try.underlying32 Try.sizeOf5 rfl rfl rfl rfl (by omega) ?_
              refine TL.done ?_
              exact TC.nrm () [] ⟨rfl, trivial⟩ [0, 0, 0] rfl
            · intro g3
              refine TL.asL [box b_1 37 [.one (.int .i64 g1), .arr 36 (enf u8v g2)], box b_2 45 [.one (.int .i64 0), .one (.int .i64 0), .arr 216 (enf u8v (fun _ => (0 : UInt8))), .arr 6 (enf u8v (fun _ => (0 : UInt8)))], box b_3 45 [.one (.int .i64 p1), .one (.int .i64 g1), .arr 216 (enf u8v out2), .arr 6 (enf u8v (fun _ => (0 : UInt8)))]] rfl ?_
              refine TL.stA (e := u8v) (z := (1 : UInt8)) 2 2 (i1.toNat * 36 + j1.toNat * 6 + (g2 (i1.toNat * 6 + j1.toNat)).toNat) rfl Try.sizeOf5 rfl (by omega) (s := 2) rfl (by omega) rfl rfl rfl rfl rfl ?_
              refine TL.done ?_
              exact TC.nrm () [] trivial [0, 0, 0] rfl
          · intro g3
            refine TC.asL [box b_1 37 [.one (.int .i64 g1), .arr 36 (enf u8v g2)], box b_2 45 [.one (.int .i64 0), .one (.int .i64 0), .arr 216 (enf u8v (fun _ => (0 : UInt8))), .arr 6 (enf u8v (fun _ => (0 : UInt8)))], box b_3 45 [.one (.int .i64 p1), .one (.int .i64 g1), .arr 216 (enf u8v (upd out2 (i1.toNat * 36 + j1.toNat * 6 + (g2 (i1.toNat * 6 + j1.toNat)).toNat) (1 : UInt8))), .arr 6 (enf u8v (fun _ => (0 : UInt8)))]] rfl ?_
            refine TC.region ?_
            refine TL.move rfl rfl (v := .int .i64 j1) rfl ?_
            refine TL.bin .i64 j1 1 rfl rfl rfl rfl (v := .int .i64 (w64 (j1 + 1))) rfl ?_
            refine TL.assign rfl rfl (v := .int .i64 (w64 (j1 + 1))) rfl ?_
            refine TL.done ?_
            exact TC.next1 (((upd out2 (i1.toNat * 36 + j1.toNat * 6 + (g2 (i1.toNat * 6 + j1.toNat)).toNat) (1 : UInt8)), (w64 (j1 + 1)))) (()) ⟨rfl, rfl, rfl, rfl, rfl, trivial⟩ [0, 0, 0] rfl
        · exact TC.brk1 ((out2, j1)) (()) ⟨rfl, rfl, rfl, rfl, rfl, trivial⟩ [0, 0, 0] rfl
      · rintro ⟨out2, j1⟩ _
        refine TC.region ?_
        refine TL.move rfl rfl (v := .int .i64 i1) rfl ?_
        refine TL.bin .i64 i1 1 rfl rfl rfl rfl (v := .int .i64 (w64 (i1 + 1))) rfl ?_
        refine TL.assign rfl rfl (v := .int .i64 (w64 (i1 + 1))) rfl ?_
        refine TL.done ?_
        exact TC.next1 ((out2, (w64 (i1 + 1)))) (()) ⟨rfl, rfl, rfl, rfl, trivial⟩ [0, 0, 0] rfl
    · exact TC.brk1 ((out1, i1)) (()) ⟨rfl, rfl, rfl, rfl, trivial⟩ [0, 0, 0] rfl
  · rintro ⟨out1, i1⟩ _
    refine TC.seq ?_
    refine TC.region ?_
    refine TL.fa Try.underlying45 rfl Try.sizeOf43 rfl 218 rfl rfl rfl rfl ?_
    refine TL.ixa 0 218 (by decide) Try.underlying43 Try.sizeOf5 rfl rfl rfl rfl rfl ?_
    refine TL.stA (e := u8v) (z := (1 : UInt8)) 2 3 0 rfl Try.sizeOf5 rfl (by omega) (s := 218) rfl rfl rfl rfl rfl rfl rfl ?_
    refine TL.done ?_
    refine TC.seq ?_
    refine TC.region ?_
    refine TL.loadM 0 4 (Src.box 2 rfl) Try.isAgg45 Try.sizeOf45 (mid := [.one (.int .i64 p1), .one (.int .i64 g1), .arr 216 (enf u8v out1), .arr 6 (enf u8v (upd (fun _ => (0 : UInt8)) 0 (1 : UInt8)))]) rfl rfl rfl rfl rfl rfl ?_
    refine TL.stM (news := [.one (.int .i64 p1), .one (.int .i64 g1), .arr 216 (enf u8v out1), .arr 6 (enf u8v (upd (fun _ => (0 : UInt8)) 0 (1 : UInt8)))]) 1 0 4 rfl Try.sizeOf45 (ones_one rfl (ones_one rfl (ones_arr (fun _ => rfl) (ones_arr (fun _ => rfl) ones_nil)))) rfl rfl rfl rfl rfl rfl ?_
    refine TL.done ?_
    exact TC.retF (Fin.body (fin1 (.inr rfl) rfl (.cellN rfl (Src.box 1 rfl) Try.isAgg45 Try.sizeOf45 rfl) [] rfl ⟨rfl, rfl⟩))

end Go.Proofs.Ytcombgcjgdkbiaa.G

/- spec.l01In, as a pure function. -/
set_option linter.unusedVariables false
namespace Go.Proofs.Ytcombgcjgdkbiaa.G
open Go Go.Sx Go.Proofs

def spec_l01In.f (n_1 : Int) (low1 : Int) (high1 : Int) : Option Bool := some ((decide (n_1 ≥ low1)) && (decide (n_1 ≤ high1)))

def spec_l01In.R (r : Bool) (v : Value) (L : List Asn) : Prop := v = .bool r ∧ L = []

set_option maxRecDepth 100000 in
set_option maxHeartbeats 4000000 in
theorem spec_l01In.calls (w : World) (n_1 : Int) (low1 : Int) (high1 : Int) :
    ∀ r, spec_l01In.f n_1 low1 high1 = some r → Calls Try.prog 54 #[.int .i64 n_1, .int .i64 low1, .int .i64 high1] w (Ret w (spec_l01In.R r)) := by

  refine calls_T (n := 15) (Γ := [(0, .int .i64 n_1), (1, .int .i64 low1), (2, .int .i64 high1)]) (R := spec_l01In.R) Try.func54 rfl rfl (Nat.le_of_ble_eq_true rfl) ⟨rfl, rfl, rfl, trivial⟩ ?_
  unfold spec_l01In.f
  refine TC.seq ?_
  refine TC.region ?_
  refine TL.assign rfl rfl (v := .bool false) rfl ?_
  refine TL.done ?_
  refine TC.seq ?_
  refine TC.region ?_
  refine TL.move rfl rfl (v := .int .i64 n_1) rfl ?_
  refine TL.move rfl rfl (v := .int .i64 low1) rfl ?_
  refine TL.bin .i64 n_1 low1 rfl rfl rfl rfl (v := .bool (decide (n_1 ≥ low1))) rfl ?_
  refine TL.move rfl rfl (v := .bool (decide (n_1 ≥ low1))) rfl ?_
  refine TL.cutU 4 [(14, .bool ((decide (n_1 ≥ low1)) && (decide (n_1 ≤ high1)))), (0, .int .i64 n_1), (1, .int .i64 low1), (2, .int .i64 high1), (6, .bool false), (7, .int .i64 n_1), (8, .int .i64 low1), (9, .bool (decide (n_1 ≥ low1))), (10, .bool (decide (n_1 ≥ low1)))] [] ?_ ?_
  · refine TL.cases (t := 10) (b := (decide (n_1 ≥ low1))) rfl (fun c1 => ?_) (fun c2 => ?_)
    · refine TL.move rfl rfl (v := .int .i64 n_1) rfl ?_
      refine TL.move rfl rfl (v := .int .i64 high1) rfl ?_
      refine TL.bin .i64 n_1 high1 rfl rfl rfl rfl (v := .bool (decide (n_1 ≤ high1))) rfl ?_
      refine TL.pick rfl rfl (b := true) rfl (r := .bool (decide (n_1 ≤ high1))) rfl ?_
      refine TL.done ?_
      exact TC.nrm () () ⟨(by rw [c1]; rfl), rfl, rfl, rfl, rfl, rfl, rfl, rfl, (by rw [c1]; rfl), trivial⟩ [] rfl
    · refine TL.skip rfl rfl (by decide) ?_
      refine TL.skip rfl rfl (by decide) ?_
      refine TL.skip rfl rfl (by decide) ?_
      refine TL.pick rfl rfl (b := false) rfl (r := .bool false) rfl ?_
      refine TL.done ?_
      exact TC.nrm () () ⟨(by rw [c2]; rfl), rfl, rfl, rfl, rfl, rfl, rfl, rfl, (by rw [c2]; rfl), trivial⟩ [] rfl
  · refine TL.assign rfl rfl (v := .bool ((decide (n_1 ≥ low1)) && (decide (n_1 ≤ high1)))) rfl ?_
    refine TL.done ?_
    exact TC.retF (Fin.body (fin1 (.inr rfl) rfl (.tmp rfl) [] rfl ⟨rfl, rfl⟩))

end Go.Proofs.Ytcombgcjgdkbiaa.G

/- spec.l06Is, as a pure function. -/
set_option linter.unusedVariables false
namespace Go.Proofs.Ytcombgcjgdkbiaa.G
open Go Go.Sx Go.Proofs

def spec_l06Is.b0 (x3 : Int) (x1 : Int) (x2 : Nat → UInt8) : Int → Option (LR Int (LR Int Bool)) := fun x4 => (bif (decide (x4 < 6)) then ((bif ((decide (x3 ≥ x1)) || (decide (x4 ≥ x1))) then chk x3 6 (chk x4 6 ((bif (((x2 (x3.toNat * 6 + x4.toNat)).toNat : Int) != ((0 : UInt8).toNat : Int)) then some (.inr (.ret (.ret (false)))) else some (.inl ())))) else chk x3 6 (chk x4 6 ((bif (decide (((x2 (x3.toNat * 6 + x4.toNat)).toNat : Int) ≥ x1)) then some (.inr (.ret (.ret (false)))) else some (.inl ())))))).bind (jn (fun _ => some (.next (w64 (x4 + 1))))) else some (.brk x4))

def spec_l06Is.b1 (x1 : Int) (x2 : Nat → UInt8) : Int → Option (LR Int Bool) := fun x3 => (bif (decide (x3 < 6)) then (loop (spec_l06Is.b0 x3 x1 x2) 0).bind (ln (fun x4 => some (.next (w64 (x3 + 1))))) else some (.brk x3))

def spec_l06Is.b2 (x1 : Int) (x5 : Int) (x7 : Int) (x2 : Nat → UInt8) : Int → Option (LR Int (LR (Bool × Int) (LR Int Bool))) := fun x8 => (bif (decide (x8 < x1)) then chk x5 6 (chk x7 6 (chk ((x2 (x5.toNat * 6 + x7.toNat)).toNat : Int) 6 (chk x8 6 (chk ((x2 (x7.toNat * 6 + x8.toNat)).toNat : Int) 6 ((bif (((x2 ((x2 (x5.toNat * 6 + x7.toNat)).toNat * 6 + x8.toNat)).toNat : Int) != ((x2 (x5.toNat * 6 + (x2 (x7.toNat * 6 + x8.toNat)).toNat)).toNat : Int)) then some (.ret (.ret (.ret (false)))) else some (.next (w64 (x8 + 1))))))))) else some (.brk x8))

def spec_l06Is.b3 (x1 : Int) (x5 : Int) (x2 : Nat → UInt8) : Bool × Int → Option (LR (Bool × Int) (LR Int Bool)) := fun p => match p with | (x6, x7) => (bif (decide (x7 < x1)) then (bif x6 then some true else chk x5 6 (chk x7 6 (some ((((x2 (x5.toNat * 6 + x7.toNat)).toNat : Int) == ((0 : UInt8).toNat : Int)) && (((x2 (x7.toNat * 6 + x5.toNat)).toNat : Int) == ((0 : UInt8).toNat : Int)))))).bind (fun b_2 => (loop (spec_l06Is.b2 x1 x5 x7 x2) 0).bind (ln (fun x8 => some (.next (b_2, (w64 (x7 + 1))))))) else some (.brk (x6, x7)))

def spec_l06Is.b4 (x1 : Int) (x2 : Nat → UInt8) : Int → Option (LR Int Bool) := fun x5 => (bif (decide (x5 < x1)) then (loop (spec_l06Is.b3 x1 x5 x2) (false, 0)).bind (ln (fun p => match p with | (x6, x7) => (bif (!x6) then some true else chk x5 6 (some (((x2 x5.toNat).toNat : Int) != x5))).bind (fun b_3 => (bif b_3 then some true else chk x5 6 (some (((x2 (x5.toNat * 6)).toNat : Int) != x5))).bind (fun b_4 => (bif b_4 then some (.ret (false)) else some (.next (w64 (x5 + 1)))))))) else some (.brk x5))

def spec_l06Is.f (x1 : Int) (x2 : Nat → UInt8) : Option Bool := (G.spec_l01In.f x1 1 6).bind (fun r_1 => (bif (!r_1) then some false else (loop (spec_l06Is.b1 x1 x2) 0).bind (ln (fun x3 => (loop (spec_l06Is.b4 x1 x2) 0).bind (ln (fun x5 => some true))))))

def spec_l06Is.R (r : Bool) (v : Value) (L : List Asn) : Prop := v = .bool r ∧ L = []

set_option maxRecDepth 100000 in
set_option maxHeartbeats 4000000 in
theorem spec_l06Is.calls (w : World) (x1 : Int) (x2 : Nat → UInt8) :
    ∀ r, spec_l06Is.f x1 x2 = some r → Calls Try.prog 61 #[sval [.one (.int .i64 x1), .arr 36 (enf u8v x2)]] w (Ret w (spec_l06Is.R r)) := by

  refine calls_T (n := 126) (Γ := [(0, sval [.one (.int .i64 x1), .arr 36 (enf u8v x2)])]) (R := spec_l06Is.R) Try.func61 rfl rfl (Nat.le_of_ble_eq_true rfl) ⟨rfl, trivial⟩ ?_
  unfold spec_l06Is.f
  refine TC.seq ?_
  refine TC.region ?_
  refine TL.box [.one (.int .i64 x1), .arr 36 (enf u8v x2)] rfl rfl rfl rfl fun b_1 => ?_
  refine TL.assign rfl rfl (v := .bool false) rfl ?_
  refine TL.done ?_
  refine TC.seq ?_
  refine TC.region ?_
  refine TL.fa Try.underlying37 rfl Try.sizeOf2 rfl 0 rfl rfl rfl rfl ?_
  refine TL.load1 0 (Src.box 0 rfl) Try.isAgg2 rfl rfl rfl rfl rfl ?_
  refine TL.assign rfl rfl (v := .int .i64 x1) rfl ?_
  refine TL.done ?_
  refine TC.seq ?_
  refine TC.seq ?_
  refine TC.region ?_
  refine TL.move rfl rfl (v := .int .i64 x1) rfl ?_
  refine TL.call (R := G.spec_l01In.R) Try.call54 rfl rfl rfl (fun w hS => G.spec_l01In.calls w x1 1 6) ?_
  rintro r_1 _ _ ⟨rfl, rfl⟩
  refine TL.not r_1 rfl rfl rfl ?_
  refine TL.done ?_
  refine TC.cond (b := (!r_1)) rfl (fun c1 => ?_) (fun c2 => ?_)
  · refine TC.seq ?_
    refine TC.region ?_
    refine TL.assign rfl rfl (v := .bool false) rfl ?_
    refine TL.done ?_
    exact TC.retF (Fin.body (fin1 (.inr rfl) rfl (.tmp rfl) [] rfl ⟨rfl, rfl⟩))
  · refine TC.skip ?_
    refine TC.seq ?_
    refine TC.seq ?_
    refine TC.region ?_
    refine TL.assign rfl rfl (v := .int .i64 0) rfl ?_
    refine TL.done ?_
    refine TC.loopK (σ := Int) (γ := Unit) (Γ' := (fun x3 _ => [(1, bp b_1 0), (3, .int .i64 x1), (4, .int .i64 x3)])) (L' := (fun x3 _ => [box b_1 37 [.one (.int .i64 x1), .arr 36 (enf u8v x2)]])) (Γb := (fun x3 _ => [(1, bp b_1 0), (3, .int .i64 x1), (4, .int .i64 x3)])) (Lb := (fun x3 _ => [box b_1 37 [.one (.int .i64 x1), .arr 36 (enf u8v x2)]])) (0) (()) ⟨rfl, rfl, rfl, trivial⟩ [0] rfl ?_ ?_
    · rintro x3 _
      refine TC.seq ?_
      refine TC.seq ?_
      refine TC.region ?_
      refine TL.move rfl rfl (v := .int .i64 x3) rfl ?_
      refine TL.bin .i64 x3 6 rfl rfl rfl rfl (v := .bool (decide (x3 < 6))) rfl ?_
      refine TL.done ?_
      refine TC.cond (b := (decide (x3 < 6))) rfl (fun c3 => ?_) (fun c4 => ?_)
      · refine TC.skip ?_
        refine TC.seq ?_
        refine TC.block (NoEx.loop rfl NoEx.body) ?_
        refine TC.seq ?_
        refine TC.region ?_
        refine TL.assign rfl rfl (v := .int .i64 0) rfl ?_
        refine TL.done ?_
        refine TC.loopK (σ := Int) (γ := Unit) (Γ' := (fun x4 _ => [(1, bp b_1 0), (3, .int .i64 x1), (4, .int .i64 x3), (5, .int .i64 x4)])) (L' := (fun x4 _ => [box b_1 37 [.one (.int .i64 x1), .arr 36 (enf u8v x2)]])) (Γb := (fun x4 _ => [(1, bp b_1 0), (3, .int .i64 x1), (4, .int .i64 x3), (5, .int .i64 x4)])) (Lb := (fun x4 _ => [box b_1 37 [.one (.int .i64 x1), .arr 36 (enf u8v x2)]])) (0) (()) ⟨rfl, rfl, rfl, rfl, trivial⟩ [0] rfl ?_ ?_
        · rintro x4 _
          refine TC.seq ?_
          refine TC.seq ?_
          refine TC.region ?_
          refine TL.move rfl rfl (v := .int .i64 x4) rfl ?_
          refine TL.bin .i64 x4 6 rfl rfl rfl rfl (v := .bool (decide (x4 < 6))) rfl ?_
          refine TL.done ?_
          refine TC.cond (b := (decide (x4 < 6))) rfl (fun c5 => ?_) (fun c6 => ?_)
          · refine TC.skip ?_
            refine TC.seq ?_
            refine TC.block (NoEx.loop rfl (NoEx.loop rfl NoEx.body)) ?_
            refine TC.seq ?_
            refine TC.region ?_
            refine TL.move rfl rfl (v := .int .i64 x3) rfl ?_
            refine TL.move rfl rfl (v := .int .i64 x1) rfl ?_
            refine TL.bin .i64 x3 x1 rfl rfl rfl rfl (v := .bool (decide (x3 ≥ x1))) rfl ?_
            refine TL.move rfl rfl (v := .bool (decide (x3 ≥ x1))) rfl ?_
            refine TL.cutU 4 [(30, .bool ((decide (x3 ≥ x1)) || (decide (x4 ≥ x1)))), (1, bp b_1 0), (3, .int .i64 x1), (4, .int .i64 x3), (5, .int .i64 x4), (19, .int .i64 x4), (20, .bool (decide (x4 < 6))), (23, .int .i64 x3), (24, .int .i64 x1), (25, .bool (decide (x3 ≥ x1))), (26, .bool (decide (x3 ≥ x1)))] [box b_1 37 [.one (.int .i64 x1), .arr 36 (enf u8v x2)]] ?_ ?_
            · refine TL.cases (t := 26) (b := (decide (x3 ≥ x1))) rfl (fun c7 => ?_) (fun c8 => ?_)
              · refine TL.skip rfl rfl (by decide) ?_
                refine TL.skip rfl rfl (by decide) ?_
                refine TL.skip rfl rfl (by decide) ?_
                refine TL.pick rfl rfl (b := true) rfl (r := .bool true) rfl ?_
                refine TL.done ?_
                exact TC.nrm () () ⟨(by rw [c7]; rfl), rfl, rfl, rfl, rfl, rfl, rfl, rfl, rfl, rfl, (by rw [c7]; rfl), trivial⟩ [0] rfl
              · refine TL.move rfl rfl (v := .int .i64 x4) rfl ?_
                refine TL.move rfl rfl (v := .int .i64 x1) rfl ?_
                refine TL.bin .i64 x4 x1 rfl rfl rfl rfl (v := .bool (decide (x4 ≥ x1))) rfl ?_
                refine TL.pick rfl rfl (b := false) rfl (r := .bool (decide (x4 ≥ x1))) rfl ?_
                refine TL.done ?_
                exact TC.nrm () () ⟨(by rw [c8]; rfl), rfl, rfl, rfl, rfl, rfl, rfl, rfl, rfl, rfl, (by rw [c8]; rfl), trivial⟩ [0] rfl
            · refine TL.done ?_
              refine TC.join (σ := Unit) (γ := Unit) (Γ' := (fun _ _ => [(1, bp b_1 0), (3, .int .i64 x1), (4, .int .i64 x3), (5, .int .i64 x4)])) (L' := (fun _ _ => [box b_1 37 [.one (.int .i64 x1), .arr 36 (enf u8v x2)]])) ?_ ?_
              · refine TC.cond (b := ((decide (x3 ≥ x1)) || (decide (x4 ≥ x1)))) rfl (fun c9 => ?_) (fun c10 => ?_)
                · refine TC.seq ?_
                  refine TC.region ?_
                  refine TL.move rfl rfl (v := .int .i64 x3) rfl ?_
                  refine TL.move rfl rfl (v := .int .i64 x4) rfl ?_
                  refine TL.fa Try.underlying37 rfl Try.sizeOf33 rfl 1 rfl rfl rfl rfl ?_
                  refine TL.chk fun h1 => ?_
                  refine TL.ixa x3 (1 + x3.toNat * 6) h1 Try.underlying33 Try.sizeOf32 rfl rfl rfl rfl (by omega) ?_
                  refine TL.chk fun h2 => ?_
                  refine TL.ixa x4 (1 + (x3.toNat * 6 + x4.toNat)) h2 Try.underlying32 Try.sizeOf5 rfl rfl rfl rfl (by omega) ?_
                  refine TL.loadA (x3.toNat * 6 + x4.toNat) 1 (Src.box 0 rfl) Try.isAgg5 rfl (by omega) (v := u8v (x2 (x3.toNat * 6 + x4.toNat))) rfl (st := 1) rfl (by omega) rfl rfl rfl ?_
                  refine TL.bin .u8 ((x2 (x3.toNat * 6 + x4.toNat)).toNat : Int) ((0 : UInt8).toNat : Int) rfl rfl rfl rfl (v := .bool (((x2 (x3.toNat * 6 + x4.toNat)).toNat : Int) != ((0 : UInt8).toNat : Int))) rfl ?_
                  refine TL.done ?_
                  refine TC.cond (b := (((x2 (x3.toNat * 6 + x4.toNat)).toNat : Int) != ((0 : UInt8).toNat : Int))) rfl (fun c11 => ?_) (fun c12 => ?_)
                  · refine TC.seq ?_
                    refine TC.region ?_
                    refine TL.assign rfl rfl (v := .bool false) rfl ?_
                    refine TL.done ?_
                    exact TC.retF (Fin.join (by simp) (Fin.loop Far.ret (Fin.loop Far.ret (Fin.body (fin1 (.inr rfl) rfl (.tmp rfl) [] rfl ⟨rfl, rfl⟩)))))
                  · refine TC.skip ?_
                    exact TC.inl (()) (()) ⟨rfl, rfl, rfl, rfl, trivial⟩ [0] rfl
                · refine TC.seq ?_
                  refine TC.region ?_
                  refine TL.move rfl rfl (v := .int .i64 x3) rfl ?_
                  refine TL.move rfl rfl (v := .int .i64 x4) rfl ?_
                  refine TL.fa Try.underlying37 rfl Try.sizeOf33 rfl 1 rfl rfl rfl rfl ?_
                  refine TL.chk fun h3 => ?_
                  refine TL.ixa x3 (1 + x3.toNat * 6) h3 Try.underlying33 Try.sizeOf32 rfl rfl rfl rfl (by omega) ?_
                  refine TL.chk fun h4 => ?_
                  refine TL.ixa x4 (1 + (x3.toNat * 6 + x4.toNat)) h4 Try.underlying32 Try.sizeOf5 rfl rfl rfl rfl (by omega) ?_
                  refine TL.loadA (x3.toNat * 6 + x4.toNat) 1 (Src.box 0 rfl) Try.isAgg5 rfl (by omega) (v := u8v (x2 (x3.toNat * 6 + x4.toNat))) rfl (st := 1) rfl (by omega) rfl rfl rfl ?_
                  refine TL.conv .u8 .i64 ((x2 (x3.toNat * 6 + x4.toNat)).toNat : Int) _ rfl rfl rfl Try.underlying5 Try.underlying2 (v := .int .i64 ((x2 (x3.toNat * 6 + x4.toNat)).toNat : Int)) (conv_u8_i64 _) ?_
                  refine TL.move rfl rfl (v := .int .i64 x1) rfl ?_
                  refine TL.bin .i64 ((x2 (x3.toNat * 6 + x4.toNat)).toNat : Int) x1 rfl rfl rfl rfl (v := .bool (decide (((x2 (x3.toNat * 6 + x4.toNat)).toNat : Int) ≥ x1))) rfl ?_
                  refine TL.done ?_
                  refine TC.cond (b := (decide (((x2 (x3.toNat * 6 + x4.toNat)).toNat : Int) ≥ x1))) rfl (fun c13 => ?_) (fun c14 => ?_)
                  · refine TC.seq ?_
                    refine TC.region ?_
                    refine TL.assign rfl rfl (v := .bool false) rfl ?_
                    refine TL.done ?_
                    exact TC.retF (Fin.join (by simp) (Fin.loop Far.ret (Fin.loop Far.ret (Fin.body (fin1 (.inr rfl) rfl (.tmp rfl) [] rfl ⟨rfl, rfl⟩)))))
                  · refine TC.skip ?_
                    exact TC.inl (()) (()) ⟨rfl, rfl, rfl, rfl, trivial⟩ [0] rfl
              · rintro _ _
                refine TC.region ?_
                refine TL.move rfl rfl (v := .int .i64 x4) rfl ?_
                refine TL.bin .i64 x4 1 rfl rfl rfl rfl (v := .int .i64 (w64 (x4 + 1))) rfl ?_
                refine TL.assign rfl rfl (v := .int .i64 (w64 (x4 + 1))) rfl ?_
                refine TL.done ?_
                exact TC.next ((w64 (x4 + 1))) (()) ⟨rfl, rfl, rfl, rfl, trivial⟩ [0] rfl
          · exact TC.brk (x4) (()) ⟨rfl, rfl, rfl, rfl, trivial⟩ [0] rfl
        · rintro x4 _
          refine TC.region ?_
          refine TL.move rfl rfl (v := .int .i64 x3) rfl ?_
          refine TL.bin .i64 x3 1 rfl rfl rfl rfl (v := .int .i64 (w64 (x3 + 1))) rfl ?_
          refine TL.assign rfl rfl (v := .int .i64 (w64 (x3 + 1))) rfl ?_
          refine TL.done ?_
          exact TC.next ((w64 (x3 + 1))) (()) ⟨rfl, rfl, rfl, trivial⟩ [0] rfl
      · exact TC.brk (x3) (()) ⟨rfl, rfl, rfl, trivial⟩ [0] rfl
    · rintro x3 _
      refine TC.seq ?_
      refine TC.seq ?_
      refine TC.region ?_
      refine TL.assign rfl rfl (v := .int .i64 0) rfl ?_
      refine TL.done ?_
      refine TC.loopK (σ := Int) (γ := Unit) (Γ' := (fun x5 _ => [(1, bp b_1 0), (3, .int .i64 x1), (6, .int .i64 x5)])) (L' := (fun x5 _ => [box b_1 37 [.one (.int .i64 x1), .arr 36 (enf u8v x2)]])) (Γb := (fun x5 _ => [(1, bp b_1 0), (3, .int .i64 x1), (6, .int .i64 x5)])) (Lb := (fun x5 _ => [box b_1 37 [.one (.int .i64 x1), .arr 36 (enf u8v x2)]])) (0) (()) ⟨rfl, rfl, rfl, trivial⟩ [0] rfl ?_ ?_
      · rintro x5 _
        refine TC.seq ?_
        refine TC.seq ?_
        refine TC.region ?_
        refine TL.move rfl rfl (v := .int .i64 x5) rfl ?_
        refine TL.move rfl rfl (v := .int .i64 x1) rfl ?_
        refine TL.bin .i64 x5 x1 rfl rfl rfl rfl (v := .bool (decide (x5 < x1))) rfl ?_
        refine TL.done ?_
        refine TC.cond (b := (decide (x5 < x1))) rfl (fun c15 => ?_) (fun c16 => ?_)
        · refine TC.skip ?_
          refine TC.seq ?_
          refine TC.block (NoEx.loop rfl NoEx.body) ?_
          refine TC.seq ?_
          refine TC.region ?_
          refine TL.assign rfl rfl (v := .bool false) rfl ?_
          refine TL.done ?_
          refine TC.seq ?_
          refine TC.seq ?_
          refine TC.region ?_
          refine TL.assign rfl rfl (v := .int .i64 0) rfl ?_
          refine TL.done ?_
          refine TC.loopK (σ := Bool × Int) (γ := Unit) (Γ' := (fun p q => match p, q with | (x6, x7), _ => [(1, bp b_1 0), (3, .int .i64 x1), (6, .int .i64 x5), (7, .bool x6), (8, .int .i64 x7)])) (L' := (fun p q => match p, q with | (x6, x7), _ => [box b_1 37 [.one (.int .i64 x1), .arr 36 (enf u8v x2)]])) (Γb := (fun p q => match p, q with | (x6, x7), _ => [(1, bp b_1 0), (3, .int .i64 x1), (6, .int .i64 x5), (7, .bool x6), (8, .int .i64 x7)])) (Lb := (fun p q => match p, q with | (x6, x7), _ => [box b_1 37 [.one (.int .i64 x1), .arr 36 (enf u8v x2)]])) ((false, 0)) (()) ⟨rfl, rfl, rfl, rfl, rfl, trivial⟩ [0] rfl ?_ ?_
          · rintro ⟨x6, x7⟩ _
            refine TC.seq ?_
            refine TC.seq ?_
            refine TC.region ?_
            refine TL.move rfl rfl (v := .int .i64 x7) rfl ?_
            refine TL.move rfl rfl (v := .int .i64 x1) rfl ?_
            refine TL.bin .i64 x7 x1 rfl rfl rfl rfl (v := .bool (decide (x7 < x1))) rfl ?_
            refine TL.done ?_
            refine TC.cond (b := (decide (x7 < x1))) rfl (fun c17 => ?_) (fun c18 => ?_)
            · refine TC.skip ?_
              refine TC.seq ?_
              refine TC.block (NoEx.loop rfl (NoEx.loop rfl NoEx.body)) ?_
              refine TC.seq ?_
              refine TC.region ?_
              refine TL.move rfl rfl (v := .bool x6) rfl ?_
              refine TL.move rfl rfl (v := .bool x6) rfl ?_
              refine TL.cutJ (σ := Bool) (γ := Unit) (Γ' := fun b_2 _ => [(75, .bool b_2), (1, bp b_1 0), (3, .int .i64 x1), (6, .int .i64 x5), (7, .bool x6), (8, .int .i64 x7), (52, .int .i64 x7), (53, .int .i64 x1), (54, .bool (decide (x7 < x1))), (57, .bool x6), (58, .bool x6)]) (L' := fun _ _ => [box b_1 37 [.one (.int .i64 x1), .arr 36 (enf u8v x2)]]) 17 ?_ ?_
              · refine TL.ifb (t := 58) (b := x6) rfl (fun c19 => ?_) (fun c20 => ?_)
                · refine TL.skip rfl rfl (by decide) ?_
                  refine TL.skip rfl rfl (by decide) ?_
                  refine TL.skip rfl rfl (by decide) ?_
                  refine TL.skip rfl rfl (by decide) ?_
                  refine TL.skip rfl rfl (by decide) ?_
                  refine TL.skip rfl rfl (by decide) ?_
                  refine TL.skip rfl rfl (by decide) ?_
                  refine TL.skip rfl rfl (by decide) ?_
                  refine TL.skip rfl rfl (by decide) ?_
                  refine TL.skip rfl rfl (by decide) ?_
                  refine TL.skip rfl rfl (by decide) ?_
                  refine TL.skip rfl rfl (by decide) ?_
                  refine TL.skip rfl rfl (by decide) ?_
                  refine TL.skip rfl rfl (by decide) ?_
                  refine TL.skip rfl rfl (by decide) ?_
                  refine TL.skip rfl rfl (by decide) ?_
                  refine TL.pick rfl rfl (b := true) rfl (r := .bool true) rfl ?_
                  refine TL.done ?_
                  exact TC.nrm (true) () ⟨rfl, rfl, rfl, rfl, rfl, rfl, rfl, rfl, rfl, rfl, (by rw [c19]; rfl), trivial⟩ [0] rfl
                · refine TL.move rfl rfl (v := .int .i64 x5) rfl ?_
                  refine TL.move rfl rfl (v := .int .i64 x7) rfl ?_
                  refine TL.fa Try.underlying37 rfl Try.sizeOf33 rfl 1 rfl rfl rfl rfl ?_
                  refine TL.chk fun h5 => ?_
                  refine TL.ixa x5 (1 + x5.toNat * 6) h5 Try.underlying33 Try.sizeOf32 rfl rfl rfl rfl (by omega) ?_
                  refine TL.chk fun h6 => ?_
                  refine TL.ixa x7 (1 + (x5.toNat * 6 + x7.toNat)) h6 Try.underlying32 Try.sizeOf5 rfl rfl rfl rfl (by omega) ?_
                  refine TL.loadA (x5.toNat * 6 + x7.toNat) 1 (Src.box 0 rfl) Try.isAgg5 rfl (by omega) (v := u8v (x2 (x5.toNat * 6 + x7.toNat))) rfl (st := 1) rfl (by omega) rfl rfl rfl ?_
                  refine TL.bin .u8 ((x2 (x5.toNat * 6 + x7.toNat)).toNat : Int) ((0 : UInt8).toNat : Int) rfl rfl rfl rfl (v := .bool (((x2 (x5.toNat * 6 + x7.toNat)).toNat : Int) == ((0 : UInt8).toNat : Int))) rfl ?_
                  refine TL.move rfl rfl (v := .bool (((x2 (x5.toNat * 6 + x7.toNat)).toNat : Int) == ((0 : UInt8).toNat : Int))) rfl ?_
                  refine TL.cutU 8 [(74, .bool ((((x2 (x5.toNat * 6 + x7.toNat)).toNat : Int) == ((0 : UInt8).toNat : Int)) && (((x2 (x7.toNat * 6 + x5.toNat)).toNat : Int) == ((0 : UInt8).toNat : Int)))), (1, bp b_1 0), (3, .int .i64 x1), (6, .int .i64 x5), (7, .bool x6), (8, .int .i64 x7), (52, .int .i64 x7), (53, .int .i64 x1), (54, .bool (decide (x7 < x1))), (57, .bool x6), (58, .bool false), (59, .int .i64 x5), (60, .int .i64 x7), (61, bp b_1 1), (62, bp b_1 (1 + x5.toNat * 6)), (63, bp b_1 (1 + (x5.toNat * 6 + x7.toNat))), (64, u8v (x2 (x5.toNat * 6 + x7.toNat))), (65, .bool (((x2 (x5.toNat * 6 + x7.toNat)).toNat : Int) == ((0 : UInt8).toNat : Int))), (66, .bool (((x2 (x5.toNat * 6 + x7.toNat)).toNat : Int) == ((0 : UInt8).toNat : Int)))] [box b_1 37 [.one (.int .i64 x1), .arr 36 (enf u8v x2)]] ?_ ?_
                  · refine TL.cases (t := 66) (b := (((x2 (x5.toNat * 6 + x7.toNat)).toNat : Int) == ((0 : UInt8).toNat : Int))) rfl (fun c21 => ?_) (fun c22 => ?_)
                    · refine TL.move rfl rfl (v := .int .i64 x7) rfl ?_
                      refine TL.move rfl rfl (v := .int .i64 x5) rfl ?_
                      refine TL.fa Try.underlying37 rfl Try.sizeOf33 rfl 1 rfl rfl rfl rfl ?_
                      refine TL.ixa x7 (1 + x7.toNat * 6) h6 Try.underlying33 Try.sizeOf32 rfl rfl rfl rfl (by omega) ?_
                      refine TL.ixa x5 (1 + (x7.toNat * 6 + x5.toNat)) h5 Try.underlying32 Try.sizeOf5 rfl rfl rfl rfl (by omega) ?_
                      refine TL.loadA (x7.toNat * 6 + x5.toNat) 1 (Src.box 0 rfl) Try.isAgg5 rfl (by omega) (v := u8v (x2 (x7.toNat * 6 + x5.toNat))) rfl (st := 1) rfl (by omega) rfl rfl rfl ?_
                      refine TL.bin .u8 ((x2 (x7.toNat * 6 + x5.toNat)).toNat : Int) ((0 : UInt8).toNat : Int) rfl rfl rfl rfl (v := .bool (((x2 (x7.toNat * 6 + x5.toNat)).toNat : Int) == ((0 : UInt8).toNat : Int))) rfl ?_
                      refine TL.pick rfl rfl (b := true) rfl (r := .bool (((x2 (x7.toNat * 6 + x5.toNat)).toNat : Int) == ((0 : UInt8).toNat : Int))) rfl ?_
                      refine TL.done ?_
                      exact TC.nrm () () ⟨(by rw [c21]; rfl), rfl, rfl, rfl, rfl, rfl, rfl, rfl, rfl, rfl, rfl, rfl, rfl, rfl, rfl, rfl, rfl, rfl, (by rw [c21]; rfl), trivial⟩ [0] rfl
                    · refine TL.skip rfl rfl (by decide) ?_
                      refine TL.skip rfl rfl (by decide) ?_
                      refine TL.skip rfl rfl (by decide) ?_
                      refine TL.skip rfl rfl (by decide) ?_
                      refine TL.skip rfl rfl (by decide) ?_
                      refine TL.skip rfl rfl (by decide) ?_
                      refine TL.skip rfl rfl (by decide) ?_
                      refine TL.pick rfl rfl (b := false) rfl (r := .bool false) rfl ?_
                      refine TL.done ?_
                      exact TC.nrm () () ⟨(by rw [c22]; rfl), rfl, rfl, rfl, rfl, rfl, rfl, rfl, rfl, rfl, rfl, rfl, rfl, rfl, rfl, rfl, rfl, rfl, (by rw [c22]; rfl), trivial⟩ [0] rfl
                  · refine TL.pick rfl rfl (b := false) rfl (r := .bool ((((x2 (x5.toNat * 6 + x7.toNat)).toNat : Int) == ((0 : UInt8).toNat : Int)) && (((x2 (x7.toNat * 6 + x5.toNat)).toNat : Int) == ((0 : UInt8).toNat : Int)))) rfl ?_
                    refine TL.done ?_
                    exact TC.nrm (((((x2 (x5.toNat * 6 + x7.toNat)).toNat : Int) == ((0 : UInt8).toNat : Int)) && (((x2 (x7.toNat * 6 + x5.toNat)).toNat : Int) == ((0 : UInt8).toNat : Int)))) () ⟨rfl, rfl, rfl, rfl, rfl, rfl, rfl, rfl, rfl, rfl, (by rw [c20]; rfl), trivial⟩ [0] rfl
              · rintro b_2 _
                refine TL.assign rfl rfl (v := .bool b_2) rfl ?_
                refine TL.done ?_
                refine TC.seq ?_
                refine TC.region ?_
                refine TL.assign rfl rfl (v := .int .i64 0) rfl ?_
                refine TL.done ?_
                refine TC.loopK (σ := Int) (γ := Unit) (Γ' := (fun x8 _ => [(1, bp b_1 0), (3, .int .i64 x1), (6, .int .i64 x5), (7, .bool b_2), (8, .int .i64 x7), (9, .int .i64 x8)])) (L' := (fun x8 _ => [box b_1 37 [.one (.int .i64 x1), .arr 36 (enf u8v x2)]])) (Γb := (fun x8 _ => [(1, bp b_1 0), (3, .int .i64 x1), (6, .int .i64 x5), (7, .bool b_2), (8, .int .i64 x7), (9, .int .i64 x8)])) (Lb := (fun x8 _ => [box b_1 37 [.one (.int .i64 x1), .arr 36 (enf u8v x2)]])) (0) (()) ⟨rfl, rfl, rfl, rfl, rfl, rfl, trivial⟩ [0] rfl ?_ ?_
                · rintro x8 _
                  refine TC.seq ?_
                  refine TC.seq ?_
                  refine TC.region ?_
                  refine TL.move rfl rfl (v := .int .i64 x8) rfl ?_
                  refine TL.move rfl rfl (v := .int .i64 x1) rfl ?_
                  refine TL.bin .i64 x8 x1 rfl rfl rfl rfl (v := .bool (decide (x8 < x1))) rfl ?_
                  refine TL.done ?_
                  refine TC.cond (b := (decide (x8 < x1))) rfl (fun c23 => ?_) (fun c24 => ?_)
                  · refine TC.skip ?_
                    refine TC.seq ?_
                    refine TC.block (NoEx.loop rfl (NoEx.loop rfl (NoEx.loop rfl NoEx.body))) ?_
                    refine TC.seq ?_
                    refine TC.wk (Γ' := [(1, bp b_1 0), (3, .int .i64 x1), (6, .int .i64 x5), (7, .bool b_2), (8, .int .i64 x7), (9, .int .i64 x8), (76, .int .i64 x8), (77, .int .i64 x1), (78, .bool (decide (x8 < x1)))]) ⟨rfl, rfl, rfl, rfl, rfl, rfl, rfl, rfl, rfl, trivial⟩ ?_
                    refine TC.chk fun h7 => ?_
                    refine TC.chk fun h8 => ?_
                    refine TC.chk fun h9 => ?_
                    refine TC.chk fun h10 => ?_
                    refine TC.chk fun h11 => ?_
                    refine TC.draw [.int .i64 x5, .int .i64 x7, bp b_1 1, bp b_1 (1 + x5.toNat * 6), bp b_1 (1 + (x5.toNat * 6 + x7.toNat)), u8v (x2 (x5.toNat * 6 + x7.toNat)), .int .i64 x8, bp b_1 1, bp b_1 (1 + (x2 (x5.toNat * 6 + x7.toNat)).toNat * 6), bp b_1 (1 + ((x2 (x5.toNat * 6 + x7.toNat)).toNat * 6 + x8.toNat)), u8v (x2 ((x2 (x5.toNat * 6 + x7.toNat)).toNat * 6 + x8.toNat)), .int .i64 x5, .int .i64 x7, .int .i64 x8, bp b_1 1, bp b_1 (1 + x7.toNat * 6), bp b_1 (1 + (x7.toNat * 6 + x8.toNat)), u8v (x2 (x7.toNat * 6 + x8.toNat)), bp b_1 1, bp b_1 (1 + x5.toNat * 6), bp b_1 (1 + (x5.toNat * 6 + (x2 (x7.toNat * 6 + x8.toNat)).toNat)), u8v (x2 (x5.toNat * 6 + (x2 (x7.toNat * 6 + x8.toNat)).toNat)), .bool (((x2 ((x2 (x5.toNat * 6 + x7.toNat)).toNat * 6 + x8.toNat)).toNat : Int) != ((x2 (x5.toNat * 6 + (x2 (x7.toNat * 6 + x8.toNat)).toNat)).toNat : Int))] 23 [box b_1 37 [.one (.int .i64 x1), .arr 36 (enf u8v x2)]] (by kernel_rfl) rfl rfl rfl rfl ?_ ?_
                    · refine ⟨?_, ?_, ?_, ?_, ?_, ?_, ?_, ?_, ?_, ?_, ?_, ?_, ?_, ?_, ?_, ?_, ?_, ?_, ?_, ?_, ?_, ?_, ?_, trivial⟩
                      · refine TL.move rfl rfl (v := .int .i64 x5) rfl ?_
                        refine TL.done ?_
                        exact TC.nrm () () ⟨rfl, trivial⟩ [0] rfl
                      · refine TL.move rfl rfl (v := .int .i64 x7) rfl ?_
                        refine TL.done ?_
                        exact TC.nrm () () ⟨rfl, trivial⟩ [0] rfl
                      · refine TL.fa Try.underlying37 rfl Try.sizeOf33 rfl 1 rfl rfl rfl rfl ?_
                        refine TL.done ?_
                        exact TC.nrm () () ⟨rfl, trivial⟩ [0] rfl
                      · refine TL.ixa x5 (1 + x5.toNat * 6) h7 Try.underlying33 Try.sizeOf32 rfl rfl rfl rfl (by omega) ?_
                        refine TL.done ?_
                        exact TC.nrm () () ⟨rfl, trivial⟩ [0] rfl
                      · refine TL.ixa x7 (1 + (x5.toNat * 6 + x7.toNat)) h8 Try.underlying32 Try.sizeOf5 rfl rfl rfl rfl (by omega) ?_
                        refine TL.done ?_
                        exact TC.nrm () () ⟨rfl, trivial⟩ [0] rfl
                      · refine TL.loadA (x5.toNat * 6 + x7.toNat) 1 (Src.box 0 rfl) Try.isAgg5 rfl (by omega) (v := u8v (x2 (x5.toNat * 6 + x7.toNat))) rfl (st := 1) rfl (by omega) rfl rfl rfl ?_
                        refine TL.done ?_
                        exact TC.nrm () () ⟨rfl, trivial⟩ [0] rfl
                      · refine TL.move rfl rfl (v := .int .i64 x8) rfl ?_
                        refine TL.done ?_
                        exact TC.nrm () () ⟨rfl, trivial⟩ [0] rfl
                      · refine TL.fa Try.underlying37 rfl Try.sizeOf33 rfl 1 rfl rfl rfl rfl ?_
                        refine TL.done ?_
                        exact TC.nrm () () ⟨rfl, trivial⟩ [0] rfl
                      · refine TL.ixa ((x2 (x5.toNat * 6 + x7.toNat)).toNat : Int) (1 + (x2 (x5.toNat * 6 + x7.toNat)).toNat * 6) h9 Try.underlying33 Try.sizeOf32 rfl rfl rfl rfl (by omega) ?_
                        refine TL.done ?_
                        exact TC.nrm () () ⟨rfl, trivial⟩ [0] rfl
                      · refine TL.ixa x8 (1 + ((x2 (x5.toNat * 6 + x7.toNat)).toNat * 6 + x8.toNat)) h10 Try.underlying32 Try.sizeOf5 rfl rfl rfl rfl (by omega) ?_
                        refine TL.done ?_
                        exact TC.nrm () () ⟨rfl, trivial⟩ [0] rfl
                      · refine TL.loadA ((x2 (x5.toNat * 6 + x7.toNat)).toNat * 6 + x8.toNat) 1 (Src.box 0 rfl) Try.isAgg5 rfl (by omega) (v := u8v (x2 ((x2 (x5.toNat * 6 + x7.toNat)).toNat * 6 + x8.toNat))) rfl (st := 1) rfl (by omega) rfl rfl rfl ?_
                        refine TL.done ?_
                        exact TC.nrm () () ⟨rfl, trivial⟩ [0] rfl
                      · refine TL.move rfl rfl (v := .int .i64 x5) rfl ?_
                        refine TL.done ?_
                        exact TC.nrm () () ⟨rfl, trivial⟩ [0] rfl
                      · refine TL.move rfl rfl (v := .int .i64 x7) rfl ?_
                        refine TL.done ?_
                        exact TC.nrm () () ⟨rfl, trivial⟩ [0] rfl
                      · refine TL.move rfl rfl (v := .int .i64 x8) rfl ?_
                        refine TL.done ?_
                        exact TC.nrm () () ⟨rfl, trivial⟩ [0] rfl
                      · refine TL.fa Try.underlying37 rfl Try.sizeOf33 rfl 1 rfl rfl rfl rfl ?_
                        refine TL.done ?_
                        exact TC.nrm () () ⟨rfl, trivial⟩ [0] rfl
                      · refine TL.ixa x7 (1 + x7.toNat * 6) h8 Try.underlying33 Try.sizeOf32 rfl rfl rfl rfl (by omega) ?_
                        refine TL.done ?_
                        exact TC.nrm () () ⟨rfl, trivial⟩ [0] rfl
                      · refine TL.ixa x8 (1 + (x7.toNat * 6 + x8.toNat)) h10 Try.underlying32 Try.sizeOf5 rfl rfl rfl rfl (by omega) ?_
                        refine TL.done ?_
                        exact TC.nrm () () ⟨rfl, trivial⟩ [0] rfl
                      · refine TL.loadA (x7.toNat * 6 + x8.toNat) 1 (Src.box 0 rfl) Try.isAgg5 rfl (by omega) (v := u8v (x2 (x7.toNat * 6 + x8.toNat))) rfl (st := 1) rfl (by omega) rfl rfl rfl ?_
                        refine TL.done ?_
                        exact TC.nrm () () ⟨rfl, trivial⟩ [0] rfl
                      · refine TL.fa Try.underlying37 rfl Try.sizeOf33 rfl 1 rfl rfl rfl rfl ?_
                        refine TL.done ?_
                        exact TC.nrm () () ⟨rfl, trivial⟩ [0] rfl
                      · refine TL.ixa x5 (1 + x5.toNat * 6) h7 Try.underlying33 Try.sizeOf32 rfl rfl rfl rfl (by omega) ?_
                        refine TL.done ?_
                        exact TC.nrm () () ⟨rfl, trivial⟩ [0] rfl
                      · refine TL.ixa ((x2 (x7.toNat * 6 + x8.toNat)).toNat : Int) (1 + (x5.toNat * 6 + (x2 (x7.toNat * 6 + x8.toNat)).toNat)) h11 Try.underlying32 Try.sizeOf5 rfl rfl rfl rfl (by omega) ?_
                        refine TL.done ?_
                        exact TC.nrm () () ⟨rfl, trivial⟩ [0] rfl
                      · refine TL.loadA (x5.toNat * 6 + (x2 (x7.toNat * 6 + x8.toNat)).toNat) 1 (Src.box 0 rfl) Try.isAgg5 rfl (by omega) (v := u8v (x2 (x5.toNat * 6 + (x2 (x7.toNat * 6 + x8.toNat)).toNat))) rfl (st := 1) rfl (by omega) rfl rfl rfl ?_
                        refine TL.done ?_
                        exact TC.nrm () () ⟨rfl, trivial⟩ [0] rfl
                      · refine TL.bin .u8 ((x2 ((x2 (x5.toNat * 6 + x7.toNat)).toNat * 6 + x8.toNat)).toNat : Int) ((x2 (x5.toNat * 6 + (x2 (x7.toNat * 6 + x8.toNat)).toNat)).toNat : Int) rfl rfl rfl rfl (v := .bool (((x2 ((x2 (x5.toNat * 6 + x7.toNat)).toNat * 6 + x8.toNat)).toNat : Int) != ((x2 (x5.toNat * 6 + (x2 (x7.toNat * 6 + x8.toNat)).toNat)).toNat : Int))) rfl ?_
                        refine TL.done ?_
                        exact TC.nrm () () ⟨rfl, trivial⟩ [0] rfl
                    · refine TC.cond (b := (((x2 ((x2 (x5.toNat * 6 + x7.toNat)).toNat * 6 + x8.toNat)).toNat : Int) != ((x2 (x5.toNat * 6 + (x2 (x7.toNat * 6 + x8.toNat)).toNat)).toNat : Int))) rfl (fun c25 => ?_) (fun c26 => ?_)
                      · refine TC.seq ?_
                        refine TC.region ?_
                        refine TL.assign rfl rfl (v := .bool false) rfl ?_
                        refine TL.done ?_
                        exact TC.retF (Fin.loop Far.ret (Fin.loop Far.ret (Fin.loop Far.ret (Fin.body (fin1 (.inr rfl) rfl (.tmp rfl) [] rfl ⟨rfl, rfl⟩)))))
                      · refine TC.skip ?_
                        refine TC.region ?_
                        refine TL.move rfl rfl (v := .int .i64 x8) rfl ?_
                        refine TL.bin .i64 x8 1 rfl rfl rfl rfl (v := .int .i64 (w64 (x8 + 1))) rfl ?_
                        refine TL.assign rfl rfl (v := .int .i64 (w64 (x8 + 1))) rfl ?_
                        refine TL.done ?_
                        exact TC.next ((w64 (x8 + 1))) (()) ⟨rfl, rfl, rfl, rfl, rfl, rfl, trivial⟩ [0] rfl
                  · exact TC.brk (x8) (()) ⟨rfl, rfl, rfl, rfl, rfl, rfl, trivial⟩ [0] rfl
                · rintro x8 _
                  refine TC.region ?_
                  refine TL.move rfl rfl (v := .int .i64 x7) rfl ?_
                  refine TL.bin .i64 x7 1 rfl rfl rfl rfl (v := .int .i64 (w64 (x7 + 1))) rfl ?_
                  refine TL.assign rfl rfl (v := .int .i64 (w64 (x7 + 1))) rfl ?_
                  refine TL.done ?_
                  exact TC.next ((b_2, (w64 (x7 + 1)))) (()) ⟨rfl, rfl, rfl, rfl, rfl, trivial⟩ [0] rfl
            · exact TC.brk ((x6, x7)) (()) ⟨rfl, rfl, rfl, rfl, rfl, trivial⟩ [0] rfl
          · rintro ⟨x6, x7⟩ _
            refine TC.seq ?_
            refine TC.region ?_
            refine TL.move rfl rfl (v := .bool x6) rfl ?_
            refine TL.not x6 rfl rfl rfl ?_
            refine TL.move rfl rfl (v := .bool (!x6)) rfl ?_
            refine TL.cutJ (σ := Bool) (γ := Unit) (Γ' := fun b_3 _ => [(115, .bool b_3), (1, bp b_1 0), (3, .int .i64 x1), (6, .int .i64 x5), (7, .bool x6), (8, .int .i64 x7), (104, .bool x6), (105, .bool (!x6)), (106, .bool (!x6))]) (L' := fun _ _ => [box b_1 37 [.one (.int .i64 x1), .arr 36 (enf u8v x2)]]) 9 ?_ ?_
            · refine TL.ifb (t := 106) (b := (!x6)) rfl (fun c27 => ?_) (fun c28 => ?_)
              · refine TL.skip rfl rfl (by decide) ?_
                refine TL.skip rfl rfl (by decide) ?_
                refine TL.skip rfl rfl (by decide) ?_
                refine TL.skip rfl rfl (by decide) ?_
                refine TL.skip rfl rfl (by decide) ?_
                refine TL.skip rfl rfl (by decide) ?_
                refine TL.skip rfl rfl (by decide) ?_
                refine TL.skip rfl rfl (by decide) ?_
                refine TL.pick rfl rfl (b := true) rfl (r := .bool true) rfl ?_
                refine TL.done ?_
                exact TC.nrm (true) () ⟨rfl, rfl, rfl, rfl, rfl, rfl, rfl, rfl, (by rw [c27]; rfl), trivial⟩ [0] rfl
              · refine TL.move rfl rfl (v := .int .i64 x5) rfl ?_
                refine TL.fa Try.underlying37 rfl Try.sizeOf33 rfl 1 rfl rfl rfl rfl ?_
                refine TL.ixa 0 1 (by decide) Try.underlying33 Try.sizeOf32 rfl rfl rfl rfl rfl ?_
                refine TL.chk fun h12 => ?_
                refine TL.ixa x5 (1 + x5.toNat) h12 Try.underlying32 Try.sizeOf5 rfl rfl rfl rfl (by omega) ?_
                refine TL.loadA x5.toNat 1 (Src.box 0 rfl) Try.isAgg5 rfl (by omega) (v := u8v (x2 x5.toNat)) rfl (st := 1) rfl (by omega) rfl rfl rfl ?_
                refine TL.conv .u8 .i64 ((x2 x5.toNat).toNat : Int) _ rfl rfl rfl Try.underlying5 Try.underlying2 (v := .int .i64 ((x2 x5.toNat).toNat : Int)) (conv_u8_i64 _) ?_
                refine TL.move rfl rfl (v := .int .i64 x5) rfl ?_
                refine TL.bin .i64 ((x2 x5.toNat).toNat : Int) x5 rfl rfl rfl rfl (v := .bool (((x2 x5.toNat).toNat : Int) != x5)) rfl ?_
                refine TL.pick rfl rfl (b := false) rfl (r := .bool (((x2 x5.toNat).toNat : Int) != x5)) rfl ?_
                refine TL.done ?_
                exact TC.nrm ((((x2 x5.toNat).toNat : Int) != x5)) () ⟨rfl, rfl, rfl, rfl, rfl, rfl, rfl, rfl, (by rw [c28]; rfl), trivial⟩ [0] rfl
            · rintro b_3 _
              refine TL.move rfl rfl (v := .bool b_3) rfl ?_
              refine TL.cutJ (σ := Bool) (γ := Unit) (Γ' := fun b_4 _ => [(125, .bool b_4), (1, bp b_1 0), (3, .int .i64 x1), (6, .int .i64 x5), (7, .bool x6), (8, .int .i64 x7), (104, .bool x6), (105, .bool (!x6)), (106, .bool (!x6)), (115, .bool b_3), (116, .bool b_3)]) (L' := fun _ _ => [box b_1 37 [.one (.int .i64 x1), .arr 36 (enf u8v x2)]]) 9 ?_ ?_
              · refine TL.ifb (t := 116) (b := b_3) rfl (fun c29 => ?_) (fun c30 => ?_)
                · refine TL.skip rfl rfl (by decide) ?_
                  refine TL.skip rfl rfl (by decide) ?_
                  refine TL.skip rfl rfl (by decide) ?_
                  refine TL.skip rfl rfl (by decide) ?_
                  refine TL.skip rfl rfl (by decide) ?_
                  refine TL.skip rfl rfl (by decide) ?_
                  refine TL.skip rfl rfl (by decide) ?_
                  refine TL.skip rfl rfl (by decide) ?_
                  refine TL.pick rfl rfl (b := true) rfl (r := .bool true) rfl ?_
                  refine TL.done ?_
                  exact TC.nrm (true) () ⟨rfl, rfl, rfl, rfl, rfl, rfl, rfl, rfl, rfl, rfl, (by rw [c29]; rfl), trivial⟩ [0] rfl
                · refine TL.move rfl rfl (v := .int .i64 x5) rfl ?_
                  refine TL.fa Try.underlying37 rfl Try.sizeOf33 rfl 1 rfl rfl rfl rfl ?_
                  refine TL.chk fun h13 => ?_
                  refine TL.ixa x5 (1 + x5.toNat * 6) h13 Try.underlying33 Try.sizeOf32 rfl rfl rfl rfl (by omega) ?_
                  refine TL.ixa 0 (1 + x5.toNat * 6) (by decide) Try.underlying32 Try.sizeOf5 rfl rfl rfl rfl (by omega) ?_
                  refine TL.loadA (x5.toNat * 6) 1 (Src.box 0 rfl) Try.isAgg5 rfl (by omega) (v := u8v (x2 (x5.toNat * 6))) rfl (st := 1) rfl (by omega) rfl rfl rfl ?_
                  refine TL.conv .u8 .i64 ((x2 (x5.toNat * 6)).toNat : Int) _ rfl rfl rfl Try.underlying5 Try.underlying2 (v := .int .i64 ((x2 (x5.toNat * 6)).toNat : Int)) (conv_u8_i64 _) ?_
                  refine TL.move rfl rfl (v := .int .i64 x5) rfl ?_
                  refine TL.bin .i64 ((x2 (x5.toNat * 6)).toNat : Int) x5 rfl rfl rfl rfl (v := .bool (((x2 (x5.toNat * 6)).toNat : Int) != x5)) rfl ?_
                  refine TL.pick rfl rfl (b := false) rfl (r := .bool (((x2 (x5.toNat * 6)).toNat : Int) != x5)) rfl ?_
                  refine TL.done ?_
                  exact TC.nrm ((((x2 (x5.toNat * 6)).toNat : Int) != x5)) () ⟨rfl, rfl, rfl, rfl, rfl, rfl, rfl, rfl, rfl, rfl, (by rw [c30]; rfl), trivial⟩ [0] rfl
              · rintro b_4 _
                refine TL.done ?_
                refine TC.cond (b := b_4) rfl (fun c31 => ?_) (fun c32 => ?_)
                · refine TC.seq ?_
                  refine TC.region ?_
                  refine TL.assign rfl rfl (v := .bool false) rfl ?_
                  refine TL.done ?_
                  exact TC.retF (Fin.loop Far.ret (Fin.body (fin1 (.inr rfl) rfl (.tmp rfl) [] rfl ⟨rfl, rfl⟩)))
                · refine TC.skip ?_
                  refine TC.region ?_
                  refine TL.move rfl rfl (v := .int .i64 x5) rfl ?_
                  refine TL.bin .i64 x5 1 rfl rfl rfl rfl (v := .int .i64 (w64 (x5 + 1))) rfl ?_
                  refine TL.assign rfl rfl (v := .int .i64 (w64 (x5 + 1))) rfl ?_
                  refine TL.done ?_
                  exact TC.next ((w64 (x5 + 1))) (()) ⟨rfl, rfl, rfl, trivial⟩ [0] rfl
        · exact TC.brk (x5) (()) ⟨rfl, rfl, rfl, trivial⟩ [0] rfl
      · rintro x5 _
        refine TC.seq ?_
        refine TC.region ?_
        refine TL.assign rfl rfl (v := .bool true) rfl ?_
        refine TL.done ?_
        exact TC.retF (Fin.body (fin1 (.inr rfl) rfl (.tmp rfl) [] rfl ⟨rfl, rfl⟩))

end Go.Proofs.Ytcombgcjgdkbiaa.G

/- spec.l01Prime, as a pure function. -/
set_option linter.unusedVariables false
namespace Go.Proofs.Ytcombgcjgdkbiaa.G
open Go Go.Sx Go.Proofs

def spec_l01Prime.f (p1 : Int) : Option Bool := some ((((((p1 == 2) || (p1 == 3)) || (p1 == 5)) || (p1 == 7)) || (p1 == 11)) || (p1 == 13))

def spec_l01Prime.R (r : Bool) (v : Value) (L : List Asn) : Prop := v = .bool r ∧ L = []

set_option maxRecDepth 100000 in
set_option maxHeartbeats 4000000 in
theorem spec_l01Prime.calls (w : World) (p1 : Int) :
    ∀ r, spec_l01Prime.f p1 = some r → Calls Try.prog 73 #[.int .i64 p1] w (Ret w (spec_l01Prime.R r)) := by

  refine calls_T (n := 25) (Γ := [(0, .int .i64 p1)]) (R := spec_l01Prime.R) Try.func73 rfl rfl (Nat.le_of_ble_eq_true rfl) ⟨rfl, trivial⟩ ?_
  unfold spec_l01Prime.f
  refine TC.seq ?_
  refine TC.region ?_
  refine TL.assign rfl rfl (v := .bool false) rfl ?_
  refine TL.done ?_
  refine TC.seq ?_
  refine TC.region ?_
  refine TL.move rfl rfl (v := .int .i64 p1) rfl ?_
  refine TL.bin .i64 p1 2 rfl rfl rfl rfl (v := .bool (p1 == 2)) rfl ?_
  refine TL.move rfl rfl (v := .bool (p1 == 2)) rfl ?_
  refine TL.cutU 3 [(8, .bool ((p1 == 2) || (p1 == 3))), (0, .int .i64 p1), (2, .bool false), (3, .int .i64 p1), (4, .bool (p1 == 2)), (5, .bool (p1 == 2))] [] ?_ ?_
  · refine TL.cases (t := 5) (b := (p1 == 2)) rfl (fun c1 => ?_) (fun c2 => ?_)
    · refine TL.skip rfl rfl (by decide) ?_
      refine TL.skip rfl rfl (by decide) ?_
      refine TL.pick rfl rfl (b := true) rfl (r := .bool true) rfl ?_
      refine TL.done ?_
      exact TC.nrm () () ⟨(by rw [c1]; rfl), rfl, rfl, rfl, rfl, (by rw [c1]; rfl), trivial⟩ [] rfl
    · refine TL.move rfl rfl (v := .int .i64 p1) rfl ?_
      refine TL.bin .i64 p1 3 rfl rfl rfl rfl (v := .bool (p1 == 3)) rfl ?_
      refine TL.pick rfl rfl (b := false) rfl (r := .bool (p1 == 3)) rfl ?_
      refine TL.done ?_
      exact TC.nrm () () ⟨(by rw [c2]; rfl), rfl, rfl, rfl, rfl, (by rw [c2]; rfl), trivial⟩ [] rfl
  · refine TL.move rfl rfl (v := .bool ((p1 == 2) || (p1 == 3))) rfl ?_
    refine TL.cutU 3 [(12, .bool (((p1 == 2) || (p1 == 3)) || (p1 == 5))), (0, .int .i64 p1), (2, .bool false), (3, .int .i64 p1), (4, .bool (p1 == 2)), (5, .bool (p1 == 2)), (8, .bool ((p1 == 2) || (p1 == 3))), (9, .bool ((p1 == 2) || (p1 == 3)))] [] ?_ ?_
    · refine TL.cases (t := 9) (b := ((p1 == 2) || (p1 == 3))) rfl (fun c3 => ?_) (fun c4 => ?_)
      · refine TL.skip rfl rfl (by decide) ?_
        refine TL.skip rfl rfl (by decide) ?_
        refine TL.pick rfl rfl (b := true) rfl (r := .bool true) rfl ?_
        refine TL.done ?_
        exact TC.nrm () () ⟨(by rw [c3]; rfl), rfl, rfl, rfl, rfl, rfl, rfl, (by rw [c3]; rfl), trivial⟩ [] rfl
      · refine TL.move rfl rfl (v := .int .i64 p1) rfl ?_
        refine TL.bin .i64 p1 5 rfl rfl rfl rfl (v := .bool (p1 == 5)) rfl ?_
        refine TL.pick rfl rfl (b := false) rfl (r := .bool (p1 == 5)) rfl ?_
        refine TL.done ?_
        exact TC.nrm () () ⟨(by rw [c4]; rfl), rfl, rfl, rfl, rfl, rfl, rfl, (by rw [c4]; rfl), trivial⟩ [] rfl
    · refine TL.move rfl rfl (v := .bool (((p1 == 2) || (p1 == 3)) || (p1 == 5))) rfl ?_
      refine TL.cutU 3 [(16, .bool ((((p1 == 2) || (p1 == 3)) || (p1 == 5)) || (p1 == 7))), (0, .int .i64 p1), (2, .bool false), (3, .int .i64 p1), (4, .bool (p1 == 2)), (5, .bool (p1 == 2)), (8, .bool ((p1 == 2) || (p1 == 3))), (9, .bool ((p1 == 2) || (p1 == 3))), (12, .bool (((p1 == 2) || (p1 == 3)) || (p1 == 5))), (13, .bool (((p1 == 2) || (p1 == 3)) || (p1 == 5)))] [] ?_ ?_
      · refine TL.cases (t := 13) (b := (((p1 == 2) || (p1 == 3)) || (p1 == 5))) rfl (fun c5 => ?_) (fun c6 => ?_)
        · refine TL.skip rfl rfl (by decide) ?_
          refine TL.skip rfl rfl (by decide) ?_
          refine TL.pick rfl rfl (b := true) rfl (r := .bool true) rfl ?_
          refine TL.done ?_
          exact TC.nrm () () ⟨(by rw [c5]; rfl), rfl, rfl, rfl, rfl, rfl, rfl, rfl, rfl, (by rw [c5]; rfl), trivial⟩ [] rfl
        · refine TL.move rfl rfl (v := .int .i64 p1) rfl ?_
          refine TL.bin .i64 p1 7 rfl rfl rfl rfl (v := .bool (p1 == 7)) rfl ?_
          refine TL.pick rfl rfl (b := false) rfl (r := .bool (p1 == 7)) rfl ?_
          refine TL.done ?_
          exact TC.nrm () () ⟨(by rw [c6]; rfl), rfl, rfl, rfl, rfl, rfl, rfl, rfl, rfl, (by rw [c6]; rfl), trivial⟩ [] rfl
      · refine TL.move rfl rfl (v := .bool ((((p1 == 2) || (p1 == 3)) || (p1 == 5)) || (p1 == 7))) rfl ?_
        refine TL.cutU 3 [(20, .bool (((((p1 == 2) || (p1 == 3)) || (p1 == 5)) || (p1 == 7)) || (p1 == 11))), (0, .int .i64 p1), (2, .bool false), (3, .int .i64 p1), (4, .bool (p1 == 2)), (5, .bool (p1 == 2)), (8, .bool ((p1 == 2) || (p1 == 3))), (9, .bool ((p1 == 2) || (p1 == 3))), (12, .bool (((p1 == 2) || (p1 == 3)) || (p1 == 5))), (13, .bool (((p1 == 2) || (p1 == 3)) || (p1 == 5))), (16, .bool ((((p1 == 2) || (p1 == 3)) || (p1 == 5)) || (p1 == 7))), (17, .bool ((((p1 == 2) || (p1 == 3)) || (p1 == 5)) || (p1 == 7)))] [] ?_ ?_
        · refine TL.cases (t := 17) (b := ((((p1 == 2) || (p1 == 3)) || (p1 == 5)) || (p1 == 7))) rfl (fun c7 => ?_) (fun c8 => ?_)
          · refine TL.skip rfl rfl (by decide) ?_
            refine TL.skip rfl rfl (by decide) ?_
            refine TL.pick rfl rfl (b := true) rfl (r := .bool true) rfl ?_
            refine TL.done ?_
            exact TC.nrm () () ⟨(by rw [c7]; rfl), rfl, rfl, rfl, rfl, rfl, rfl, rfl, rfl, rfl, rfl, (by rw [c7]; rfl), trivial⟩ [] rfl
          · refine TL.move rfl rfl (v := .int .i64 p1) rfl ?_
            refine TL.bin .i64 p1 11 rfl rfl rfl rfl (v := .bool (p1 == 11)) rfl ?_
            refine TL.pick rfl rfl (b := false) rfl (r := .bool (p1 == 11)) rfl ?_
            refine TL.done ?_
            exact TC.nrm () () ⟨(by rw [c8]; rfl), rfl, rfl, rfl, rfl, rfl, rfl, rfl, rfl, rfl, rfl, (by rw [c8]; rfl), trivial⟩ [] rfl
        · refine TL.move rfl rfl (v := .bool (((((p1 == 2) || (p1 == 3)) || (p1 == 5)) || (p1 == 7)) || (p1 == 11))) rfl ?_
          refine TL.cutU 3 [(24, .bool ((((((p1 == 2) || (p1 == 3)) || (p1 == 5)) || (p1 == 7)) || (p1 == 11)) || (p1 == 13))), (0, .int .i64 p1), (2, .bool false), (3, .int .i64 p1), (4, .bool (p1 == 2)), (5, .bool (p1 == 2)), (8, .bool ((p1 == 2) || (p1 == 3))), (9, .bool ((p1 == 2) || (p1 == 3))), (12, .bool (((p1 == 2) || (p1 == 3)) || (p1 == 5))), (13, .bool (((p1 == 2) || (p1 == 3)) || (p1 == 5))), (16, .bool ((((p1 == 2) || (p1 == 3)) || (p1 == 5)) || (p1 == 7))), (17, .bool ((((p1 == 2) || (p1 == 3)) || (p1 == 5)) || (p1 == 7))), (20, .bool (((((p1 == 2) || (p1 == 3)) || (p1 == 5)) || (p1 == 7)) || (p1 == 11))), (21, .bool (((((p1 == 2) || (p1 == 3)) || (p1 == 5)) || (p1 == 7)) || (p1 == 11)))] [] ?_ ?_
          · refine TL.cases (t := 21) (b := (((((p1 == 2) || (p1 == 3)) || (p1 == 5)) || (p1 == 7)) || (p1 == 11))) rfl (fun c9 => ?_) (fun c10 => ?_)
            · refine TL.skip rfl rfl (by decide) ?_
              refine TL.skip rfl rfl (by decide) ?_
              refine TL.pick rfl rfl (b := true) rfl (r := .bool true) rfl ?_
              refine TL.done ?_
              exact TC.nrm () () ⟨(by rw [c9]; rfl), rfl, rfl, rfl, rfl, rfl, rfl, rfl, rfl, rfl, rfl, rfl, rfl, (by rw [c9]; rfl), trivial⟩ [] rfl
            · refine TL.move rfl rfl (v := .int .i64 p1) rfl ?_
              refine TL.bin .i64 p1 13 rfl rfl rfl rfl (v := .bool (p1 == 13)) rfl ?_
              refine TL.pick rfl rfl (b := false) rfl (r := .bool (p1 == 13)) rfl ?_
              refine TL.done ?_
              exact TC.nrm () () ⟨(by rw [c10]; rfl), rfl, rfl, rfl, rfl, rfl, rfl, rfl, rfl, rfl, rfl, rfl, rfl, (by rw [c10]; rfl), trivial⟩ [] rfl
          · refine TL.assign rfl rfl (v := .bool ((((((p1 == 2) || (p1 == 3)) || (p1 == 5)) || (p1 == 7)) || (p1 == 11)) || (p1 == 13))) rfl ?_
            refine TL.done ?_
            exact TC.retF (Fin.body (fin1 (.inr rfl) rfl (.tmp rfl) [] rfl ⟨rfl, rfl⟩))

end Go.Proofs.Ytcombgcjgdkbiaa.G

/- spec.l06Code, as a pure function. -/
set_option linter.unusedVariables false
namespace Go.Proofs.Ytcombgcjgdkbiaa.G
open Go Go.Sx Go.Proofs

def spec_l06Code.f (p1 : Int) (g1 : Int) (g2 : Nat → UInt8) : Option Int := (G.spec_l06Is.f g1 g2).bind (fun r_1 => (bif (!r_1) then some 1 else (G.spec_l01Prime.f p1).bind (fun r_2 => (bif (!r_2) then some 2 else some 0))))

def spec_l06Code.R (r : Int) (v : Value) (L : List Asn) : Prop := v = .int .i64 r ∧ L = []

set_option maxRecDepth 100000 in
set_option maxHeartbeats 4000000 in
theorem spec_l06Code.calls (w : World) (p1 : Int) (g1 : Int) (g2 : Nat → UInt8) :
    ∀ r, spec_l06Code.f p1 g1 g2 = some r → Calls Try.prog 95 #[.int .i64 p1, sval [.one (.int .i64 g1), .arr 36 (enf u8v g2)]] w (Ret w (spec_l06Code.R r)) := by

  refine calls_T (n := 13) (Γ := [(0, .int .i64 p1), (1, sval [.one (.int .i64 g1), .arr 36 (enf u8v g2)])]) (R := spec_l06Code.R) Try.func95 rfl rfl (Nat.le_of_ble_eq_true rfl) ⟨rfl, rfl, trivial⟩ ?_
  unfold spec_l06Code.f
  refine TC.seq ?_
  refine TC.region ?_
  refine TL.box [.one (.int .i64 g1), .arr 36 (enf u8v g2)] rfl rfl rfl rfl fun b_1 => ?_
  refine TL.assign rfl rfl (v := .int .i64 0) rfl ?_
  refine TL.done ?_
  refine TC.seq ?_
  refine TC.block NoEx.body ?_
  refine TC.seq ?_
  refine TC.region ?_
  refine TL.loadM 0 2 (Src.box 0 rfl) Try.isAgg37 Try.sizeOf37 (mid := [.one (.int .i64 g1), .arr 36 (enf u8v g2)]) rfl rfl rfl rfl rfl rfl ?_
  refine TL.call (R := G.spec_l06Is.R) Try.call61 rfl rfl rfl (fun w hS => G.spec_l06Is.calls w g1 g2) ?_
  rintro r_1 _ _ ⟨rfl, rfl⟩
  refine TL.not r_1 rfl rfl rfl ?_
  refine TL.assign rfl rfl (v := .bool (!r_1)) rfl ?_
  refine TL.done ?_
  refine TC.cond (b := (!r_1)) rfl (fun c1 => ?_) (fun c2 => ?_)
  · refine TC.seq ?_
    refine TC.region ?_
    refine TL.assign rfl rfl (v := .int .i64 1) rfl ?_
    refine TL.done ?_
    exact TC.retF (Fin.body (fin1 (.inr rfl) rfl (.tmp rfl) [] rfl ⟨rfl, rfl⟩))
  · refine TC.seq ?_
    refine TC.region ?_
    refine TL.move rfl rfl (v := .int .i64 p1) rfl ?_
    refine TL.call (R := G.spec_l01Prime.R) Try.call73 rfl rfl rfl (fun w hS => G.spec_l01Prime.calls w p1) ?_
    rintro r_2 _ _ ⟨rfl, rfl⟩
    refine TL.not r_2 rfl rfl rfl ?_
    refine TL.assign rfl rfl (v := .bool (!r_2)) rfl ?_
    refine TL.done ?_
    refine TC.cond (b := (!r_2)) rfl (fun c3 => ?_) (fun c4 => ?_)
    · refine TC.seq ?_
      refine TC.region ?_
      refine TL.assign rfl rfl (v := .int .i64 2) rfl ?_
      refine TL.done ?_
      exact TC.retF (Fin.body (fin1 (.inr rfl) rfl (.tmp rfl) [] rfl ⟨rfl, rfl⟩))
    · refine TC.skip ?_
      refine TC.seq ?_
      refine TC.region ?_
      refine TL.assign rfl rfl (v := .int .i64 0) rfl ?_
      refine TL.done ?_
      exact TC.retF (Fin.body (fin1 (.inr rfl) rfl (.tmp rfl) [] rfl ⟨rfl, rfl⟩))

end Go.Proofs.Ytcombgcjgdkbiaa.G

/- spec.l06Table, as a pure function. -/
set_option linter.unusedVariables false
namespace Go.Proofs.Ytcombgcjgdkbiaa.G
open Go Go.Sx Go.Proofs

def spec_l06Table.b0 (table_1 : List (List Int)) (i1 : Int) (p1 : Int) : Int → Option (LR Int (LR Int Int)) := fun j1 => (bif (decide (j1 < (table_1.length : Int))) then chk j1 ((gt table_1 i1).length) ((G.spec_l01In.f (gt (gt table_1 i1) j1) 0 (w64 (p1 - 1))).bind (fun r_2 => (bif (!r_2) then some (.ret (.ret (2))) else some (.next (w64 (j1 + 1)))))) else some (.brk j1))

def spec_l06Table.b1 (table_1 : List (List Int)) (g1 : Int) (p1 : Int) : Int → Option (LR Int Int) := fun i1 => (bif (decide (i1 < (table_1.length : Int))) then chk i1 table_1.length ((bif (((gt table_1 i1).length : Int) != g1) then some (.ret (2)) else (loop (spec_l06Table.b0 table_1 i1 p1) 0).bind (ln (fun j1 => some (.next (w64 (i1 + 1))))))) else some (.brk i1))

def spec_l06Table.f (p1 : Int) (g1 : Int) (g2 : Nat → UInt8) (table_1 : List (List Int)) : Option Int := (G.spec_l06Code.f p1 g1 g2).bind (fun r_1 => (bif (r_1 != 0) then some r_1 else (bif ((table_1.length : Int) != g1) then some 2 else (loop (spec_l06Table.b1 table_1 g1 p1) 0).bind (ln (fun i1 => some 0)))))

def spec_l06Table.R (r : Int) (v : Value) (L : List Asn) : Prop := v = .int .i64 r ∧ L = []

set_option maxRecDepth 100000 in
set_option maxHeartbeats 4000000 in
theorem spec_l06Table.calls (w : World) (p1 : Int) (g1 : Int) (g2 : Nat → UInt8) (s1 : SV) (ss1 : List SV) (table_1 : List (List Int)) (h1 : ReadsM Ei (hp w) s1 ss1 table_1) :
    ∀ r, spec_l06Table.f p1 g1 g2 table_1 = some r → Calls Try.prog 102 #[.int .i64 p1, sval [.one (.int .i64 g1), .arr 36 (enf u8v g2)], SV.v s1] w (Ret w (spec_l06Table.R r)) := by

  refine calls_T (n := 52) (Γ := [(0, .int .i64 p1), (1, sval [.one (.int .i64 g1), .arr 36 (enf u8v g2)]), (2, SV.v s1)]) (R := spec_l06Table.R) Try.func102 rfl rfl (Nat.le_of_ble_eq_true rfl) ⟨rfl, rfl, rfl, trivial⟩ ?_
  unfold spec_l06Table.f
  refine TC.seq ?_
  refine TC.region ?_
  refine TL.box [.one (.int .i64 g1), .arr 36 (enf u8v g2)] rfl rfl rfl rfl fun b_1 => ?_
  refine TL.assign rfl rfl (v := .int .i64 0) rfl ?_
  refine TL.done ?_
  refine TC.seq ?_
  refine TC.seq ?_
  refine TC.region ?_
  refine TL.move rfl rfl (v := .int .i64 p1) rfl ?_
  refine TL.loadM 0 2 (Src.box 0 rfl) Try.isAgg37 Try.sizeOf37 (mid := [.one (.int .i64 g1), .arr 36 (enf u8v g2)]) rfl rfl rfl rfl rfl rfl ?_
  refine TL.call (R := G.spec_l06Code.R) Try.call95 rfl rfl rfl (fun w hS => G.spec_l06Code.calls w p1 g1 g2) ?_
  rintro r_1 _ _ ⟨rfl, rfl⟩
  refine TL.assign rfl rfl (v := .int .i64 r_1) rfl ?_
  refine TL.done ?_
  refine TC.seq ?_
  refine TC.region ?_
  refine TL.move rfl rfl (v := .int .i64 r_1) rfl ?_
  refine TL.bin .i64 r_1 0 rfl rfl rfl rfl (v := .bool (r_1 != 0)) rfl ?_
  refine TL.done ?_
  refine TC.cond (b := (r_1 != 0)) rfl (fun c1 => ?_) (fun c2 => ?_)
  · refine TC.seq ?_
    refine TC.region ?_
    refine TL.move rfl rfl (v := .int .i64 r_1) rfl ?_
    refine TL.assign rfl rfl (v := .int .i64 r_1) rfl ?_
    refine TL.done ?_
    exact TC.retF (Fin.body (fin1 (.inr rfl) rfl (.tmp rfl) [] rfl ⟨rfl, rfl⟩))
  · refine TC.skip ?_
    refine TC.seq ?_
    refine TC.seq ?_
    refine TC.region ?_
    refine TL.move rfl rfl (v := SV.v s1) rfl ?_
    refine TL.lenM (RdM.old h1) Try.underlying53 rfl rfl rfl ?_
    refine TL.fa Try.underlying37 rfl Try.sizeOf2 rfl 0 rfl rfl rfl rfl ?_
    refine TL.load1 0 (Src.box 0 rfl) Try.isAgg2 rfl rfl rfl rfl rfl ?_
    refine TL.bin .i64 (table_1.length : Int) g1 rfl rfl rfl rfl (v := .bool ((table_1.length : Int) != g1)) rfl ?_
    refine TL.done ?_
    refine TC.cond (b := ((table_1.length : Int) != g1)) rfl (fun c3 => ?_) (fun c4 => ?_)
    · refine TC.seq ?_
      refine TC.region ?_
      refine TL.assign rfl rfl (v := .int .i64 2) rfl ?_
      refine TL.done ?_
      exact TC.retF (Fin.body (fin1 (.inr rfl) rfl (.tmp rfl) [] rfl ⟨rfl, rfl⟩))
    · refine TC.skip ?_
      refine TC.seq ?_
      refine TC.seq ?_
      refine TC.region ?_
      refine TL.assign rfl rfl (v := .int .i64 0) rfl ?_
      refine TL.done ?_
      refine TC.loopK (σ := Int) (γ := Unit) (Γ' := (fun i1 _ => [(0, .int .i64 p1), (2, SV.v s1), (4, bp b_1 0), (8, .int .i64 i1)])) (L' := (fun i1 _ => [box b_1 37 [.one (.int .i64 g1), .arr 36 (enf u8v g2)]])) (Γb := (fun i1 _ => [(0, .int .i64 p1), (2, SV.v s1), (4, bp b_1 0), (8, .int .i64 i1)])) (Lb := (fun i1 _ => [box b_1 37 [.one (.int .i64 g1), .arr 36 (enf u8v g2)]])) (0) (()) ⟨rfl, rfl, rfl, rfl, trivial⟩ [0] rfl ?_ ?_
      · rintro i1 _
        refine TC.seq ?_
        refine TC.seq ?_
        refine TC.region ?_
        refine TL.move rfl rfl (v := .int .i64 i1) rfl ?_
        refine TL.move rfl rfl (v := SV.v s1) rfl ?_
        refine TL.lenM (RdM.old h1) Try.underlying53 rfl rfl rfl ?_
        refine TL.bin .i64 i1 (table_1.length : Int) rfl rfl rfl rfl (v := .bool (decide (i1 < (table_1.length : Int)))) rfl ?_
        refine TL.done ?_
        refine TC.cond (b := (decide (i1 < (table_1.length : Int)))) rfl (fun c5 => ?_) (fun c6 => ?_)
        · refine TC.skip ?_
          refine TC.seq ?_
          refine TC.block (NoEx.loop rfl NoEx.body) ?_
          refine TC.seq ?_
          refine TC.seq ?_
          refine TC.wk (Γ' := [(0, .int .i64 p1), (2, SV.v s1), (4, bp b_1 0), (8, .int .i64 i1), (21, .int .i64 i1), (22, SV.v s1), (23, .int .i64 (table_1.length : Int)), (24, .bool (decide (i1 < (table_1.length : Int))))]) ⟨rfl, rfl, rfl, rfl, rfl, rfl, rfl, rfl, trivial⟩ ?_
          refine TC.chk fun h2 => ?_
          refine TC.draw [SV.v s1, .int .i64 i1, ep s1 i1.toNat, SV.v (gt ss1 i1), .int .i64 ((gt table_1 i1).length : Int), bp b_1 0, .int .i64 g1, .bool (((gt table_1 i1).length : Int) != g1)] 8 [box b_1 37 [.one (.int .i64 g1), .arr 36 (enf u8v g2)]] (by kernel_rfl) rfl rfl rfl rfl ?_ ?_
          · refine ⟨?_, ?_, ?_, ?_, ?_, ?_, ?_, ?_, trivial⟩
            · refine TL.move rfl rfl (v := SV.v s1) rfl ?_
              refine TL.done ?_
              exact TC.nrm () () ⟨rfl, trivial⟩ [0] rfl
            · refine TL.move rfl rfl (v := .int .i64 i1) rfl ?_
              refine TL.done ?_
              exact TC.nrm () () ⟨rfl, trivial⟩ [0] rfl
            · refine TL.ixsM i1 i1.toNat (RdM.old h1) h2 Try.underlying53 Try.sizeOf22 rfl rfl rfl rfl (by omega) ?_
              refine TL.done ?_
              exact TC.nrm () () ⟨rfl, trivial⟩ [0] rfl
            · refine TL.loadM2 (RdM.old h1) Try.isAgg22 i1 h2 (by omega) rfl rfl rfl ?_
              refine TL.done ?_
              exact TC.nrm () () ⟨rfl, trivial⟩ [0] rfl
            · refine TL.len (RdM.inn (RdM.old h1) h2) Try.underlying22 rfl rfl rfl ?_
              refine TL.done ?_
              exact TC.nrm () () ⟨rfl, trivial⟩ [0] rfl
            · refine TL.fa Try.underlying37 rfl Try.sizeOf2 rfl 0 rfl rfl rfl rfl ?_
              refine TL.done ?_
              exact TC.nrm () () ⟨rfl, trivial⟩ [0] rfl
            · refine TL.load1 0 (Src.box 0 rfl) Try.isAgg2 rfl rfl rfl rfl rfl ?_
              refine TL.done ?_
              exact TC.nrm () () ⟨rfl, trivial⟩ [0] rfl
            · refine TL.bin .i64 ((gt table_1 i1).length : Int) g1 rfl rfl rfl rfl (v := .bool (((gt table_1 i1).length : Int) != g1)) rfl ?_
              refine TL.done ?_
              exact TC.nrm () () ⟨rfl, trivial⟩ [0] rfl
          · refine TC.cond (b := (((gt table_1 i1).length : Int) != g1)) rfl (fun c7 => ?_) (fun c8 => ?_)
            · refine TC.seq ?_
              refine TC.region ?_
              refine TL.assign rfl rfl (v := .int .i64 2) rfl ?_
              refine TL.done ?_
              exact TC.retF (Fin.loop Far.ret (Fin.body (fin1 (.inr rfl) rfl (.tmp rfl) [] rfl ⟨rfl, rfl⟩)))
            · refine TC.skip ?_
              refine TC.seq ?_
              refine TC.region ?_
              refine TL.assign rfl rfl (v := .int .i64 0) rfl ?_
              refine TL.done ?_
              refine TC.loopK (σ := Int) (γ := Unit) (Γ' := (fun j1 _ => [(0, .int .i64 p1), (2, SV.v s1), (4, bp b_1 0), (8, .int .i64 i1), (9, .int .i64 j1)])) (L' := (fun j1 _ => [box b_1 37 [.one (.int .i64 g1), .arr 36 (enf u8v g2)]])) (Γb := (fun j1 _ => [(0, .int .i64 p1), (2, SV.v s1), (4, bp b_1 0), (8, .int .i64 i1), (9, .int .i64 j1)])) (Lb := (fun j1 _ => [box b_1 37 [.one (.int .i64 g1), .arr 36 (enf u8v g2)]])) (0) (()) ⟨rfl, rfl, rfl, rfl, rfl, trivial⟩ [0] rfl ?_ ?_
              · rintro j1 _
                refine TC.seq ?_
                refine TC.seq ?_
                refine TC.region ?_
                refine TL.move rfl rfl (v := .int .i64 j1) rfl ?_
                refine TL.move rfl rfl (v := SV.v s1) rfl ?_
                refine TL.lenM (RdM.old h1) Try.underlying53 rfl rfl rfl ?_
                refine TL.bin .i64 j1 (table_1.length : Int) rfl rfl rfl rfl (v := .bool (decide (j1 < (table_1.length : Int)))) rfl ?_
                refine TL.done ?_
                refine TC.cond (b := (decide (j1 < (table_1.length : Int)))) rfl (fun c9 => ?_) (fun c10 => ?_)
                · refine TC.skip ?_
                  refine TC.seq ?_
                  refine TC.block (NoEx.loop rfl (NoEx.loop rfl NoEx.body)) ?_
                  refine TC.seq ?_
                  refine TC.region ?_
                  refine TL.move rfl rfl (v := SV.v s1) rfl ?_
                  refine TL.move rfl rfl (v := .int .i64 i1) rfl ?_
                  refine TL.ixsM i1 i1.toNat (RdM.old h1) h2 Try.underlying53 Try.sizeOf22 rfl rfl rfl rfl (by omega) ?_
                  refine TL.loadM2 (RdM.old h1) Try.isAgg22 i1 h2 (by omega) rfl rfl rfl ?_
                  refine TL.move rfl rfl (v := .int .i64 j1) rfl ?_
                  refine TL.chk fun h3 => ?_
                  refine TL.ixs j1 j1.toNat (RdM.inn (RdM.old h1) h2) h3 Try.underlying22 Try.sizeOf2 rfl rfl rfl rfl (by omega) ?_
                  refine TL.loadE (RdM.inn (RdM.old h1) h2) Try.isAgg2 j1.toNat 0 (gt_spec h3) (v := .int .i64 (gt (gt table_1 i1) j1)) rfl (by simp only [show Ei.sz = 1 from rfl]; omega) rfl rfl rfl ?_
                  refine TL.move rfl rfl (v := .int .i64 p1) rfl ?_
                  refine TL.bin .i64 p1 1 rfl rfl rfl rfl (v := .int .i64 (w64 (p1 - 1))) rfl ?_
                  refine TL.call (R := G.spec_l01In.R) Try.call54 rfl rfl rfl (fun w hS => G.spec_l01In.calls w (gt (gt table_1 i1) j1) 0 (w64 (p1 - 1))) ?_
                  rintro r_2 _ _ ⟨rfl, rfl⟩
                  refine TL.not r_2 rfl rfl rfl ?_
                  refine TL.done ?_
                  refine TC.cond (b := (!r_2)) rfl (fun c11 => ?_) (fun c12 => ?_)
                  · refine TC.seq ?_
                    refine TC.region ?_
                    refine TL.assign rfl rfl (v := .int .i64 2) rfl ?_
                    refine TL.done ?_
                    exact TC.retF (Fin.loop Far.ret (Fin.loop Far.ret (Fin.body (fin1 (.inr rfl) rfl (.tmp rfl) [] rfl ⟨rfl, rfl⟩))))
                  · refine TC.skip ?_
                    refine TC.region ?_
                    refine TL.move rfl rfl (v := .int .i64 j1) rfl ?_
                    refine TL.bin .i64 j1 1 rfl rfl rfl rfl (v := .int .i64 (w64 (j1 + 1))) rfl ?_
                    refine TL.assign rfl rfl (v := .int .i64 (w64 (j1 + 1))) rfl ?_
                    refine TL.done ?_
                    exact TC.next ((w64 (j1 + 1))) (()) ⟨rfl, rfl, rfl, rfl, rfl, trivial⟩ [0] rfl
                · exact TC.brk (j1) (()) ⟨rfl, rfl, rfl, rfl, rfl, trivial⟩ [0] rfl
              · rintro j1 _
                refine TC.region ?_
                refine TL.move rfl rfl (v := .int .i64 i1) rfl ?_
                refine TL.bin .i64 i1 1 rfl rfl rfl rfl (v := .int .i64 (w64 (i1 + 1))) rfl ?_
                refine TL.assign rfl rfl (v := .int .i64 (w64 (i1 + 1))) rfl ?_
                refine TL.done ?_
                exact TC.next ((w64 (i1 + 1))) (()) ⟨rfl, rfl, rfl, rfl, trivial⟩ [0] rfl
        · exact TC.brk (i1) (()) ⟨rfl, rfl, rfl, rfl, trivial⟩ [0] rfl
      · rintro i1 _
        refine TC.seq ?_
        refine TC.region ?_
        refine TL.assign rfl rfl (v := .int .i64 0) rfl ?_
        refine TL.done ?_
        exact TC.retF (Fin.body (fin1 (.inr rfl) rfl (.tmp rfl) [] rfl ⟨rfl, rfl⟩))

end Go.Proofs.Ytcombgcjgdkbiaa.G

/- spec.l06Cocycle, as a pure function. -/
set_option linter.unusedVariables false
namespace Go.Proofs.Ytcombgcjgdkbiaa.G
open Go Go.Sx Go.Proofs

def spec_l06Cocycle.b0 (x2 : Int) (x5 : Int) (x6 : Int) (x3 : Nat → UInt8) (x4 : List (List Int)) (x1 : Int) : Int → Option (LR Int (LR Int (LR Int Bool))) := fun x7 => (bif (decide (x7 < x2)) then chk x5 6 (chk x6 6 (chk ((x3 (x5.toNat * 6 + x6.toNat)).toNat : Int) x4.length (chk x7 ((gt x4 ((x3 (x5.toNat * 6 + x6.toNat)).toNat : Int)).length) (nz x1 (chk x6 x4.length (chk x7 ((gt x4 x6).length) (chk x7 6 (chk ((x3 (x6.toNat * 6 + x7.toNat)).toNat : Int) ((gt x4 x5).length) ((bif ((Int.tmod (w64 ((gt (gt x4 x5) x6) * (gt (gt x4 ((x3 (x5.toNat * 6 + x6.toNat)).toNat : Int)) x7))) x1) != (Int.tmod (w64 ((gt (gt x4 x6) x7) * (gt (gt x4 x5) ((x3 (x6.toNat * 6 + x7.toNat)).toNat : Int)))) x1)) then some (.ret (.ret (.ret (false)))) else some (.next (w64 (x7 + 1))))))))))))) else some (.brk x7))

def spec_l06Cocycle.b1 (x2 : Int) (x5 : Int) (x4 : List (List Int)) (x3 : Nat → UInt8) (x1 : Int) : Int → Option (LR Int (LR Int Bool)) := fun x6 => (bif (decide (x6 < x2)) then chk x5 x4.length (chk x6 ((gt x4 x5).length) ((bif ((gt (gt x4 x5) x6) == 0) then some (.ret (.ret (false))) else (loop (spec_l06Cocycle.b0 x2 x5 x6 x3 x4 x1) 0).bind (ln (fun x7 => some (.next (w64 (x6 + 1)))))))) else some (.brk x6))

def spec_l06Cocycle.b2 (x2 : Int) (x4 : List (List Int)) (x3 : Nat → UInt8) (x1 : Int) : Int → Option (LR Int Bool) := fun x5 => (bif (decide (x5 < x2)) then (loop (spec_l06Cocycle.b1 x2 x5 x4 x3 x1) 0).bind (ln (fun x6 => some (.next (w64 (x5 + 1))))) else some (.brk x5))

def spec_l06Cocycle.f (x1 : Int) (x2 : Int) (x3 : Nat → UInt8) (x4 : List (List Int)) : Option Bool := (loop (spec_l06Cocycle.b2 x2 x4 x3 x1) 0).bind (ln (fun x5 => chk 0 x4.length (chk 0 ((gt x4 0).length) (some ((gt (gt x4 0) 0) == 1)))))

def spec_l06Cocycle.R (r : Bool) (v : Value) (L : List Asn) : Prop := v = .bool r ∧ L = []

set_option maxRecDepth 100000 in
set_option maxHeartbeats 4000000 in
theorem spec_l06Cocycle.calls (w : World) (x1 : Int) (x2 : Int) (x3 : Nat → UInt8) (s1 : SV) (ss1 : List SV) (x4 : List (List Int)) (h1 : ReadsM Ei (hp w) s1 ss1 x4) :
    ∀ r, spec_l06Cocycle.f x1 x2 x3 x4 = some r → Calls Try.prog 103 #[.int .i64 x1, sval [.one (.int .i64 x2), .arr 36 (enf u8v x3)], SV.v s1] w (Ret w (spec_l06Cocycle.R r)) := by

  refine calls_T (n := 89) (Γ := [(0, .int .i64 x1), (1, sval [.one (.int .i64 x2), .arr 36 (enf u8v x3)]), (2, SV.v s1)]) (R := spec_l06Cocycle.R) Try.func103 rfl rfl (Nat.le_of_ble_eq_true rfl) ⟨rfl, rfl, rfl, trivial⟩ ?_
  unfold spec_l06Cocycle.f
  refine TC.seq ?_
  refine TC.region ?_
  refine TL.box [.one (.int .i64 x2), .arr 36 (enf u8v x3)] rfl rfl rfl rfl fun b_1 => ?_
  refine TL.assign rfl rfl (v := .bool false) rfl ?_
  refine TL.done ?_
  refine TC.seq ?_
  refine TC.seq ?_
  refine TC.region ?_
  refine TL.assign rfl rfl (v := .int .i64 0) rfl ?_
  refine TL.done ?_
  refine TC.loopK (σ := Int) (γ := Unit) (Γ' := (fun x5 _ => [(0, .int .i64 x1), (2, SV.v s1), (4, bp b_1 0), (7, .int .i64 x5)])) (L' := (fun x5 _ => [box b_1 37 [.one (.int .i64 x2), .arr 36 (enf u8v x3)]])) (Γb := (fun x5 _ => [(0, .int .i64 x1), (2, SV.v s1), (4, bp b_1 0), (7, .int .i64 x5)])) (Lb := (fun x5 _ => [box b_1 37 [.one (.int .i64 x2), .arr 36 (enf u8v x3)]])) (0) (()) ⟨rfl, rfl, rfl, rfl, trivial⟩ [0] rfl ?_ ?_
  · rintro x5 _
    refine TC.seq ?_
    refine TC.seq ?_
    refine TC.region ?_
    refine TL.move rfl rfl (v := .int .i64 x5) rfl ?_
    refine TL.fa Try.underlying37 rfl Try.sizeOf2 rfl 0 rfl rfl rfl rfl ?_
    refine TL.load1 0 (Src.box 0 rfl) Try.isAgg2 rfl rfl rfl rfl rfl ?_
    refine TL.bin .i64 x5 x2 rfl rfl rfl rfl (v := .bool (decide (x5 < x2))) rfl ?_
    refine TL.done ?_
    refine TC.cond (b := (decide (x5 < x2))) rfl (fun c1 => ?_) (fun c2 => ?_)
    · refine TC.skip ?_
      refine TC.seq ?_
      refine TC.block (NoEx.loop rfl NoEx.body) ?_
      refine TC.seq ?_
      refine TC.region ?_
      refine TL.assign rfl rfl (v := .int .i64 0) rfl ?_
      refine TL.done ?_
      refine TC.loopK (σ := Int) (γ := Unit) (Γ' := (fun x6 _ => [(0, .int .i64 x1), (2, SV.v s1), (4, bp b_1 0), (7, .int .i64 x5), (8, .int .i64 x6)])) (L' := (fun x6 _ => [box b_1 37 [.one (.int .i64 x2), .arr 36 (enf u8v x3)]])) (Γb := (fun x6 _ => [(0, .int .i64 x1), (2, SV.v s1), (4, bp b_1 0), (7, .int .i64 x5), (8, .int .i64 x6)])) (Lb := (fun x6 _ => [box b_1 37 [.one (.int .i64 x2), .arr 36 (enf u8v x3)]])) (0) (()) ⟨rfl, rfl, rfl, rfl, rfl, trivial⟩ [0] rfl ?_ ?_
      · rintro x6 _
        refine TC.seq ?_
        refine TC.seq ?_
        refine TC.region ?_
        refine TL.move rfl rfl (v := .int .i64 x6) rfl ?_
        refine TL.fa Try.underlying37 rfl Try.sizeOf2 rfl 0 rfl rfl rfl rfl ?_
        refine TL.load1 0 (Src.box 0 rfl) Try.isAgg2 rfl rfl rfl rfl rfl ?_
        refine TL.bin .i64 x6 x2 rfl rfl rfl rfl (v := .bool (decide (x6 < x2))) rfl ?_
        refine TL.done ?_
        refine TC.cond (b := (decide (x6 < x2))) rfl (fun c3 => ?_) (fun c4 => ?_)
        · refine TC.skip ?_
          refine TC.seq ?_
          refine TC.block (NoEx.loop rfl (NoEx.loop rfl NoEx.body)) ?_
          refine TC.seq ?_
          refine TC.seq ?_
          refine TC.region ?_
          refine TL.move rfl rfl (v := SV.v s1) rfl ?_
          refine TL.move rfl rfl (v := .int .i64 x5) rfl ?_
          refine TL.chk fun h2 => ?_
          refine TL.ixsM x5 x5.toNat (RdM.old h1) h2 Try.underlying53 Try.sizeOf22 rfl rfl rfl rfl (by omega) ?_
          refine TL.loadM2 (RdM.old h1) Try.isAgg22 x5 h2 (by omega) rfl rfl rfl ?_
          refine TL.move rfl rfl (v := .int .i64 x6) rfl ?_
          refine TL.chk fun h3 => ?_
          refine TL.ixs x6 x6.toNat (RdM.inn (RdM.old h1) h2) h3 Try.underlying22 Try.sizeOf2 rfl rfl rfl rfl (by omega) ?_
          refine TL.loadE (RdM.inn (RdM.old h1) h2) Try.isAgg2 x6.toNat 0 (gt_spec h3) (v := .int .i64 (gt (gt x4 x5) x6)) rfl (by simp only [show Ei.sz = 1 from rfl]; omega) rfl rfl rfl ?_
          refine TL.bin .i64 (gt (gt x4 x5) x6) 0 rfl rfl rfl rfl (v := .bool ((gt (gt x4 x5) x6) == 0)) rfl ?_
          refine TL.done ?_
          refine TC.cond (b := ((gt (gt x4 x5) x6) == 0)) rfl (fun c5 => ?_) (fun c6 => ?_)
          · refine TC.seq ?_
            refine TC.region ?_
            refine TL.assign rfl rfl (v := .bool false) rfl ?_
            refine TL.done ?_
            exact TC.retF (Fin.loop Far.ret (Fin.loop Far.ret (Fin.body (fin1 (.inr rfl) rfl (.tmp rfl) [] rfl ⟨rfl, rfl⟩))))
          · refine TC.skip ?_
            refine TC.seq ?_
            refine TC.region ?_
            refine TL.assign rfl rfl (v := .int .i64 0) rfl ?_
            refine TL.done ?_
            refine TC.loopK (σ := Int) (γ := Unit) (Γ' := (fun x7 _ => [(0, .int .i64 x1), (2, SV.v s1), (4, bp b_1 0), (7, .int .i64 x5), (8, .int .i64 x6), (9, .int .i64 x7)])) (L' := (fun x7 _ => [box b_1 37 [.one (.int .i64 x2), .arr 36 (enf u8v x3)]])) (Γb := (fun x7 _ => [(0, .int .i64 x1), (2, SV.v s1), (4, bp b_1 0), (7, .int .i64 x5), (8, .int .i64 x6), (9, .int .i64 x7)])) (Lb := (fun x7 _ => [box b_1 37 [.one (.int .i64 x2), .arr 36 (enf u8v x3)]])) (0) (()) ⟨rfl, rfl, rfl, rfl, rfl, rfl, trivial⟩ [0] rfl ?_ ?_
            · rintro x7 _
              refine TC.seq ?_
              refine TC.seq ?_
              refine TC.region ?_
              refine TL.move rfl rfl (v := .int .i64 x7) rfl ?_
              refine TL.fa Try.underlying37 rfl Try.sizeOf2 rfl 0 rfl rfl rfl rfl ?_
              refine TL.load1 0 (Src.box 0 rfl) Try.isAgg2 rfl rfl rfl rfl rfl ?_
              refine TL.bin .i64 x7 x2 rfl rfl rfl rfl (v := .bool (decide (x7 < x2))) rfl ?_
              refine TL.done ?_
              refine TC.cond (b := (decide (x7 < x2))) rfl (fun c7 => ?_) (fun c8 => ?_)
              · refine TC.skip ?_
                refine TC.seq ?_
                refine TC.block (NoEx.loop rfl (NoEx.loop rfl (NoEx.loop rfl NoEx.body))) ?_
                refine TC.seq ?_
                refine TC.wk (Γ' := [(0, .int .i64 x1), (2, SV.v s1), (4, bp b_1 0), (7, .int .i64 x5), (8, .int .i64 x6), (9, .int .i64 x7), (31, .int .i64 x7), (32, bp b_1 0), (33, .int .i64 x2), (34, .bool (decide (x7 < x2)))]) ⟨rfl, rfl, rfl, rfl, rfl, rfl, rfl, rfl, rfl, rfl, trivial⟩ ?_
                refine TC.chk fun h4 => ?_
                refine TC.chk fun h5 => ?_
                refine TC.chk fun h6 => ?_
                refine TC.chk fun h7 => ?_
                refine TC.nz fun z1 => ?_
                refine TC.draw [SV.v s1, .int .i64 x5, ep s1 x5.toNat, SV.v (gt ss1 x5), .int .i64 x6, ep (gt ss1 x5) x6.toNat, .int .i64 (gt (gt x4 x5) x6), SV.v s1, .int .i64 x5, .int .i64 x6, bp b_1 1, bp b_1 (1 + x5.toNat * 6), bp b_1 (1 + (x5.toNat * 6 + x6.toNat)), u8v (x3 (x5.toNat * 6 + x6.toNat)), ep s1 ((x3 (x5.toNat * 6 + x6.toNat)).toNat), SV.v (gt ss1 ((x3 (x5.toNat * 6 + x6.toNat)).toNat : Int)), .int .i64 x7, ep (gt ss1 ((x3 (x5.toNat * 6 + x6.toNat)).toNat : Int)) x7.toNat, .int .i64 (gt (gt x4 ((x3 (x5.toNat * 6 + x6.toNat)).toNat : Int)) x7), .int .i64 (w64 ((gt (gt x4 x5) x6) * (gt (gt x4 ((x3 (x5.toNat * 6 + x6.toNat)).toNat : Int)) x7))), .int .i64 x1, .int .i64 (Int.tmod (w64 ((gt (gt x4 x5) x6) * (gt (gt x4 ((x3 (x5.toNat * 6 + x6.toNat)).toNat : Int)) x7))) x1), .int .i64 (Int.tmod (w64 ((gt (gt x4 x5) x6) * (gt (gt x4 ((x3 (x5.toNat * 6 + x6.toNat)).toNat : Int)) x7))) x1)] 23 [box b_1 37 [.one (.int .i64 x2), .arr 36 (enf u8v x3)]] (by kernel_rfl) rfl rfl rfl rfl ?_ ?_
                · refine ⟨?_, ?_, ?_, ?_, ?_, ?_, ?_, ?_, ?_, ?_, ?_, ?_, ?_, ?_, ?_, ?_, ?_, ?_, ?_, ?_, ?_, ?_, ?_, trivial⟩
                  · refine TL.move rfl rfl (v := SV.v s1) rfl ?_
                    refine TL.done ?_
                    exact TC.nrm () () ⟨rfl, trivial⟩ [0] rfl
                  · refine TL.move rfl rfl (v := .int .i64 x5) rfl ?_
                    refine TL.done ?_
                    exact TC.nrm () () ⟨rfl, trivial⟩ [0] rfl
                  · refine TL.ixsM x5 x5.toNat (RdM.old h1) h2 Try.underlying53 Try.sizeOf22 rfl rfl rfl rfl (by omega) ?_
                    refine TL.done ?_
                    exact TC.nrm () () ⟨rfl, trivial⟩ [0] rfl
                  · refine TL.loadM2 (RdM.old h1) Try.isAgg22 x5 h2 (by omega) rfl rfl rfl ?_
                    refine TL.done ?_
                    exact TC.nrm () () ⟨rfl, trivial⟩ [0] rfl
                  · refine TL.move rfl rfl (v := .int .i64 x6) rfl ?_
                    refine TL.done ?_
                    exact TC.nrm () () ⟨rfl, trivial⟩ [0] rfl
                  · refine TL.ixs x6 x6.toNat (RdM.inn (RdM.old h1) h2) h3 Try.underlying22 Try.sizeOf2 rfl rfl rfl rfl (by omega) ?_
                    refine TL.done ?_
                    exact TC.nrm () () ⟨rfl, trivial⟩ [0] rfl
                  · refine TL.loadE (RdM.inn (RdM.old h1) h2) Try.isAgg2 x6.toNat 0 (gt_spec h3) (v := .int .i64 (gt (gt x4 x5) x6)) rfl (by simp only [show Ei.sz = 1 from rfl]; omega) rfl rfl rfl ?_
                    refine TL.done ?_
                    exact TC.nrm () () ⟨rfl, trivial⟩ [0] rfl
                  · refine TL.move rfl rfl (v := SV.v s1) rfl ?_
                    refine TL.done ?_
                    exact TC.nrm () () ⟨rfl, trivial⟩ [0] rfl
                  · refine TL.move rfl rfl (v := .int .i64 x5) rfl ?_
                    refine TL.done ?_
                    exact TC.nrm () () ⟨rfl, trivial⟩ [0] rfl
                  · refine TL.move rfl rfl (v := .int .i64 x6) rfl ?_
                    refine TL.done ?_
                    exact TC.nrm () () ⟨rfl, trivial⟩ [0] rfl
                  · refine TL.fa Try.underlying37 rfl Try.sizeOf33 rfl 1 rfl rfl rfl rfl ?_
                    refine TL.done ?_
                    exact TC.nrm () () ⟨rfl, trivial⟩ [0] rfl
                  · refine TL.ixa x5 (1 + x5.toNat * 6) h4 Try.underlying33 Try.sizeOf32 rfl rfl rfl rfl (by omega) ?_
                    refine TL.done ?_
                    exact TC.nrm () () ⟨rfl, trivial⟩ [0] rfl
                  · refine TL.ixa x6 (1 + (x5.toNat * 6 + x6.toNat)) h5 Try.underlying32 Try.sizeOf5 rfl rfl rfl rfl (by omega) ?_
                    refine TL.done ?_
                    exact TC.nrm () () ⟨rfl, trivial⟩ [0] rfl
                  · refine TL.loadA (x5.toNat * 6 + x6.toNat) 1 (Src.box 0 rfl) Try.isAgg5 rfl (by omega) (v := u8v (x3 (x5.toNat * 6 + x6.toNat))) rfl (st := 1) rfl (by omega) rfl rfl rfl ?_
                    refine TL.done ?_
                    exact TC.nrm () () ⟨rfl, trivial⟩ [0] rfl
                  · refine TL.ixsM ((x3 (x5.toNat * 6 + x6.toNat)).toNat : Int) ((x3 (x5.toNat * 6 + x6.toNat)).toNat) (RdM.old h1) h6 Try.underlying53 Try.sizeOf22 rfl rfl rfl rfl (by omega) ?_
                    refine TL.done ?_
                    exact TC.nrm () () ⟨rfl, trivial⟩ [0] rfl
                  · refine TL.loadM2 (RdM.old h1) Try.isAgg22 ((x3 (x5.toNat * 6 + x6.toNat)).toNat : Int) h6 (by omega) rfl rfl rfl ?_
                    refine TL.done ?_
                    exact TC.nrm () () ⟨rfl, trivial⟩ [0] rfl
                  · refine TL.move rfl rfl (v := .int .i64 x7) rfl ?_
                    refine TL.done ?_
                    exact TC.nrm () () ⟨rfl, trivial⟩ [0] rfl
                  · refine TL.ixs x7 x7.toNat (RdM.inn (RdM.old h1) h6) h7 Try.underlying22 Try.sizeOf2 rfl rfl rfl rfl (by omega) ?_
                    refine TL.done ?_
                    exact TC.nrm () () ⟨rfl, trivial⟩ [0] rfl
                  · refine TL.loadE (RdM.inn (RdM.old h1) h6) Try.isAgg2 x7.toNat 0 (gt_spec h7) (v := .int .i64 (gt (gt x4 ((x3 (x5.toNat * 6 + x6.toNat)).toNat : Int)) x7)) rfl (by simp only [show Ei.sz = 1 from rfl]; omega) rfl rfl rfl ?_
                    refine TL.done ?_
                    exact TC.nrm () () ⟨rfl, trivial⟩ [0] rfl
                  · refine TL.bin .i64 (gt (gt x4 x5) x6) (gt (gt x4 ((x3 (x5.toNat * 6 + x6.toNat)).toNat : Int)) x7) rfl rfl rfl rfl (v := .int .i64 (w64 ((gt (gt x4 x5) x6) * (gt (gt x4 ((x3 (x5.toNat * 6 + x6.toNat)).toNat : Int)) x7)))) rfl ?_
                    refine TL.done ?_
                    exact TC.nrm () () ⟨rfl, trivial⟩ [0] rfl
                  · refine TL.move rfl rfl (v := .int .i64 x1) rfl ?_
                    refine TL.done ?_
                    exact TC.nrm () () ⟨rfl, trivial⟩ [0] rfl
                  · refine TL.rem .i64 (w64 ((gt (gt x4 x5) x6) * (gt (gt x4 ((x3 (x5.toNat * 6 + x6.toNat)).toNat : Int)) x7))) x1 z1 rfl rfl rfl rfl ?_
                    refine TL.done ?_
                    exact TC.nrm () () ⟨rfl, trivial⟩ [0] rfl
                  · refine TL.assign rfl rfl (v := .int .i64 (Int.tmod (w64 ((gt (gt x4 x5) x6) * (gt (gt x4 ((x3 (x5.toNat * 6 + x6.toNat)).toNat : Int)) x7))) x1)) rfl ?_
                    refine TL.done ?_
                    exact TC.nrm () () ⟨rfl, trivial⟩ [0] rfl
                · refine TC.seq ?_
                  refine TC.wk (Γ' := [(0, .int .i64 x1), (2, SV.v s1), (4, bp b_1 0), (7, .int .i64 x5), (8, .int .i64 x6), (9, .int .i64 x7), (31, .int .i64 x7), (32, bp b_1 0), (33, .int .i64 x2), (34, .bool (decide (x7 < x2))), (37, SV.v s1), (38, .int .i64 x5), (39, ep s1 x5.toNat), (40, SV.v (gt ss1 x5)), (41, .int .i64 x6), (42, ep (gt ss1 x5) x6.toNat), (43, .int .i64 (gt (gt x4 x5) x6)), (44, SV.v s1), (45, .int .i64 x5), (46, .int .i64 x6), (47, bp b_1 1), (48, bp b_1 (1 + x5.toNat * 6)), (49, bp b_1 (1 + (x5.toNat * 6 + x6.toNat))), (50, u8v (x3 (x5.toNat * 6 + x6.toNat))), (51, ep s1 ((x3 (x5.toNat * 6 + x6.toNat)).toNat)), (52, SV.v (gt ss1 ((x3 (x5.toNat * 6 + x6.toNat)).toNat : Int))), (53, .int .i64 x7), (54, ep (gt ss1 ((x3 (x5.toNat * 6 + x6.toNat)).toNat : Int)) x7.toNat), (55, .int .i64 (gt (gt x4 ((x3 (x5.toNat * 6 + x6.toNat)).toNat : Int)) x7)), (56, .int .i64 (w64 ((gt (gt x4 x5) x6) * (gt (gt x4 ((x3 (x5.toNat * 6 + x6.toNat)).toNat : Int)) x7)))), (57, .int .i64 x1), (58, .int .i64 (Int.tmod (w64 ((gt (gt x4 x5) x6) * (gt (gt x4 ((x3 (x5.toNat * 6 + x6.toNat)).toNat : Int)) x7))) x1)), (10, .int .i64 (Int.tmod (w64 ((gt (gt x4 x5) x6) * (gt (gt x4 ((x3 (x5.toNat * 6 + x6.toNat)).toNat : Int)) x7))) x1))]) ⟨rfl, rfl, rfl, rfl, rfl, rfl, rfl, rfl, rfl, rfl, rfl, rfl, rfl, rfl, rfl, rfl, rfl, rfl, rfl, rfl, rfl, rfl, rfl, rfl, rfl, rfl, rfl, rfl, rfl, rfl, rfl, rfl, rfl, trivial⟩ ?_
                  refine TC.chk fun h8 => ?_
                  refine TC.chk fun h9 => ?_
                  refine TC.chk fun h10 => ?_
                  refine TC.chk fun h11 => ?_
                  refine TC.draw [.int .i64 (Int.tmod (w64 ((gt (gt x4 x5) x6) * (gt (gt x4 ((x3 (x5.toNat * 6 + x6.toNat)).toNat : Int)) x7))) x1), SV.v s1, .int .i64 x6, ep s1 x6.toNat, SV.v (gt ss1 x6), .int .i64 x7, ep (gt ss1 x6) x7.toNat, .int .i64 (gt (gt x4 x6) x7), SV.v s1, .int .i64 x5, ep s1 x5.toNat, SV.v (gt ss1 x5), .int .i64 x6, .int .i64 x7, bp b_1 1, bp b_1 (1 + x6.toNat * 6), bp b_1 (1 + (x6.toNat * 6 + x7.toNat)), u8v (x3 (x6.toNat * 6 + x7.toNat)), ep (gt ss1 x5) ((x3 (x6.toNat * 6 + x7.toNat)).toNat), .int .i64 (gt (gt x4 x5) ((x3 (x6.toNat * 6 + x7.toNat)).toNat : Int)), .int .i64 (w64 ((gt (gt x4 x6) x7) * (gt (gt x4 x5) ((x3 (x6.toNat * 6 + x7.toNat)).toNat : Int)))), .int .i64 x1, .int .i64 (Int.tmod (w64 ((gt (gt x4 x6) x7) * (gt (gt x4 x5) ((x3 (x6.toNat * 6 + x7.toNat)).toNat : Int)))) x1), .bool ((Int.tmod (w64 ((gt (gt x4 x5) x6) * (gt (gt x4 ((x3 (x5.toNat * 6 + x6.toNat)).toNat : Int)) x7))) x1) != (Int.tmod (w64 ((gt (gt x4 x6) x7) * (gt (gt x4 x5) ((x3 (x6.toNat * 6 + x7.toNat)).toNat : Int)))) x1))] 24 [box b_1 37 [.one (.int .i64 x2), .arr 36 (enf u8v x3)]] (by kernel_rfl) rfl rfl rfl rfl ?_ ?_
                  · refine ⟨?_, ?_, ?_, ?_, ?_, ?_, ?_, ?_, ?_, ?_, ?_, ?_, ?_, ?_, ?_, ?_, ?_, ?_, ?_, ?_, ?_, ?_, ?_, ?_, trivial⟩
                    · refine TL.move rfl rfl (v := .int .i64 (Int.tmod (w64 ((gt (gt x4 x5) x6) * (gt (gt x4 ((x3 (x5.toNat * 6 + x6.toNat)).toNat : Int)) x7))) x1)) rfl ?_
                      refine TL.done ?_
                      exact TC.nrm () () ⟨rfl, trivial⟩ [0] rfl
                    · refine TL.move rfl rfl (v := SV.v s1) rfl ?_
                      refine TL.done ?_
                      exact TC.nrm () () ⟨rfl, trivial⟩ [0] rfl
                    · refine TL.move rfl rfl (v := .int .i64 x6) rfl ?_
                      refine TL.done ?_
                      exact TC.nrm () () ⟨rfl, trivial⟩ [0] rfl
                    · refine TL.ixsM x6 x6.toNat (RdM.old h1) h8 Try.underlying53 Try.sizeOf22 rfl rfl rfl rfl (by omega) ?_
                      refine TL.done ?_
                      exact TC.nrm () () ⟨rfl, trivial⟩ [0] rfl
                    · refine TL.loadM2 (RdM.old h1) Try.isAgg22 x6 h8 (by omega) rfl rfl rfl ?_
                      refine TL.done ?_
                      exact TC.nrm () () ⟨rfl, trivial⟩ [0] rfl
                    · refine TL.move rfl rfl (v := .int .i64 x7) rfl ?_
                      refine TL.done ?_
                      exact TC.nrm () () ⟨rfl, trivial⟩ [0] rfl
                    · refine TL.ixs x7 x7.toNat (RdM.inn (RdM.old h1) h8) h9 Try.underlying22 Try.sizeOf2 rfl rfl rfl rfl (by omega) ?_
                      refine TL.done ?_
                      exact TC.nrm () () ⟨rfl, trivial⟩ [0] rfl
                    · refine TL.loadE (RdM.inn (RdM.old h1) h8) Try.isAgg2 x7.toNat 0 (gt_spec h9) (v := .int .i64 (gt (gt x4 x6) x7)) rfl (by simp only [show Ei.sz = 1 from rfl]; omega) rfl rfl rfl ?_
                      refine TL.done ?_
                      exact TC.nrm () () ⟨rfl, trivial⟩ [0] rfl
                    · refine TL.move rfl rfl (v := SV.v s1) rfl ?_
                      refine TL.done ?_
                      exact TC.nrm () () ⟨rfl, trivial⟩ [0] rfl
                    · refine TL.move rfl rfl (v := .int .i64 x5) rfl ?_
                      refine TL.done ?_
                      exact TC.nrm () () ⟨rfl, trivial⟩ [0] rfl
                    · refine TL.ixsM x5 x5.toNat (RdM.old h1) h2 Try.underlying53 Try.sizeOf22 rfl rfl rfl rfl (by omega) ?_
                      refine TL.done ?_
                      exact TC.nrm () () ⟨rfl, trivial⟩ [0] rfl
                    · refine TL.loadM2 (RdM.old h1) Try.isAgg22 x5 h2 (by omega) rfl rfl rfl ?_
                      refine TL.done ?_
                      exact TC.nrm () () ⟨rfl, trivial⟩ [0] rfl
                    · refine TL.move rfl rfl (v := .int .i64 x6) rfl ?_
                      refine TL.done ?_
                      exact TC.nrm () () ⟨rfl, trivial⟩ [0] rfl
                    · refine TL.move rfl rfl (v := .int .i64 x7) rfl ?_
                      refine TL.done ?_
                      exact TC.nrm () () ⟨rfl, trivial⟩ [0] rfl
                    · refine TL.fa Try.underlying37 rfl Try.sizeOf33 rfl 1 rfl rfl rfl rfl ?_
                      refine TL.done ?_
                      exact TC.nrm () () ⟨rfl, trivial⟩ [0] rfl
                    · refine TL.ixa x6 (1 + x6.toNat * 6) h5 Try.underlying33 Try.sizeOf32 rfl rfl rfl rfl (by omega) ?_
                      refine TL.done ?_
                      exact TC.nrm () () ⟨rfl, trivial⟩ [0] rfl
                    · refine TL.ixa x7 (1 + (x6.toNat * 6 + x7.toNat)) h10 Try.underlying32 Try.sizeOf5 rfl rfl rfl rfl (by omega) ?_
                      refine TL.done ?_
                      exact TC.nrm () () ⟨rfl, trivial⟩ [0] rfl
                    · refine TL.loadA (x6.toNat * 6 + x7.toNat) 1 (Src.box 0 rfl) Try.isAgg5 rfl (by omega) (v := u8v (x3 (x6.toNat * 6 + x7.toNat))) rfl (st := 1) rfl (by omega) rfl rfl rfl ?_
                      refine TL.done ?_
                      exact TC.nrm () () ⟨rfl, trivial⟩ [0] rfl
                    · refine TL.ixs ((x3 (x6.toNat * 6 + x7.toNat)).toNat : Int) ((x3 (x6.toNat * 6 + x7.toNat)).toNat) (RdM.inn (RdM.old h1) h2) h11 Try.underlying22 Try.sizeOf2 rfl rfl rfl rfl (by omega) ?_
                      refine TL.done ?_
                      exact TC.nrm () () ⟨rfl, trivial⟩ [0] rfl
                    · refine TL.loadE (RdM.inn (RdM.old h1) h2) Try.isAgg2 ((x3 (x6.toNat * 6 + x7.toNat)).toNat : Int).toNat 0 (gt_spec h11) (v := .int .i64 (gt (gt x4 x5) ((x3 (x6.toNat * 6 + x7.toNat)).toNat : Int))) rfl (by simp only [show Ei.sz = 1 from rfl]; omega) rfl rfl rfl ?_
                      refine TL.done ?_
                      exact TC.nrm () () ⟨rfl, trivial⟩ [0] rfl
                    · refine TL.bin .i64 (gt (gt x4 x6) x7) (gt (gt x4 x5) ((x3 (x6.toNat * 6 + x7.toNat)).toNat : Int)) rfl rfl rfl rfl (v := .int .i64 (w64 ((gt (gt x4 x6) x7) * (gt (gt x4 x5) ((x3 (x6.toNat * 6 + x7.toNat)).toNat : Int))))) rfl ?_
                      refine TL.done ?_
                      exact TC.nrm () () ⟨rfl, trivial⟩ [0] rfl
                    · refine TL.move rfl rfl (v := .int .i64 x1) rfl ?_
                      refine TL.done ?_
                      exact TC.nrm () () ⟨rfl, trivial⟩ [0] rfl
                    · refine TL.rem .i64 (w64 ((gt (gt x4 x6) x7) * (gt (gt x4 x5) ((x3 (x6.toNat * 6 + x7.toNat)).toNat : Int)))) x1 z1 rfl rfl rfl rfl ?_
                      refine TL.done ?_
                      exact TC.nrm () () ⟨rfl, trivial⟩ [0] rfl
                    · refine TL.bin .i64 (Int.tmod (w64 ((gt (gt x4 x5) x6) * (gt (gt x4 ((x3 (x5.toNat * 6 + x6.toNat)).toNat : Int)) x7))) x1) (Int.tmod (w64 ((gt (gt x4 x6) x7) * (gt (gt x4 x5) ((x3 (x6.toNat * 6 + x7.toNat)).toNat : Int)))) x1) rfl rfl rfl rfl (v := .bool ((Int.tmod (w64 ((gt (gt x4 x5) x6) * (gt (gt x4 ((x3 (x5.toNat * 6 + x6.toNat)).toNat : Int)) x7))) x1) != (Int.tmod (w64 ((gt (gt x4 x6) x7) * (gt (gt x4 x5) ((x3 (x6.toNat * 6 + x7.toNat)).toNat : Int)))) x1))) rfl ?_
                      refine TL.done ?_
                      exact TC.nrm () () ⟨rfl, trivial⟩ [0] rfl
                  · refine TC.cond (b := ((Int.tmod (w64 ((gt (gt x4 x5) x6) * (gt (gt x4 ((x3 (x5.toNat * 6 + x6.toNat)).toNat : Int)) x7))) x1) != (Int.tmod (w64 ((gt (gt x4 x6) x7) * (gt (gt x4 x5) ((x3 (x6.toNat * 6 + x7.toNat)).toNat : Int)))) x1))) rfl (fun c9 => ?_) (fun c10 => ?_)
                    · refine TC.seq ?_
                      refine TC.region ?_
                      refine TL.assign rfl rfl (v := .bool false) rfl ?_
                      refine TL.done ?_
                      exact TC.retF (Fin.loop Far.ret (Fin.loop Far.ret (Fin.loop Far.ret (Fin.body (fin1 (.inr rfl) rfl (.tmp rfl) [] rfl ⟨rfl, rfl⟩)))))
                    · refine TC.skip ?_
                      refine TC.region ?_
                      refine TL.move rfl rfl (v := .int .i64 x7) rfl ?_
                      refine TL.bin .i64 x7 1 rfl rfl rfl rfl (v := .int .i64 (w64 (x7 + 1))) rfl ?_
                      refine TL.assign rfl rfl (v := .int .i64 (w64 (x7 + 1))) rfl ?_
                      refine TL.done ?_
                      exact TC.next ((w64 (x7 + 1))) (()) ⟨rfl, rfl, rfl, rfl, rfl, rfl, trivial⟩ [0] rfl
              · exact TC.brk (x7) (()) ⟨rfl, rfl, rfl, rfl, rfl, rfl, trivial⟩ [0] rfl
            · rintro x7 _
              refine TC.region ?_
              refine TL.move rfl rfl (v := .int .i64 x6) rfl ?_
              refine TL.bin .i64 x6 1 rfl rfl rfl rfl (v := .int .i64 (w64 (x6 + 1))) rfl ?_
              refine TL.assign rfl rfl (v := .int .i64 (w64 (x6 + 1))) rfl ?_
              refine TL.done ?_
              exact TC.next ((w64 (x6 + 1))) (()) ⟨rfl, rfl, rfl, rfl, rfl, trivial⟩ [0] rfl
        · exact TC.brk (x6) (()) ⟨rfl, rfl, rfl, rfl, rfl, trivial⟩ [0] rfl
      · rintro x6 _
        refine TC.region ?_
        refine TL.move rfl rfl (v := .int .i64 x5) rfl ?_
        refine TL.bin .i64 x5 1 rfl rfl rfl rfl (v := .int .i64 (w64 (x5 + 1))) rfl ?_
        refine TL.assign rfl rfl (v := .int .i64 (w64 (x5 + 1))) rfl ?_
        refine TL.done ?_
        exact TC.next ((w64 (x5 + 1))) (()) ⟨rfl, rfl, rfl, rfl, trivial⟩ [0] rfl
    · exact TC.brk (x5) (()) ⟨rfl, rfl, rfl, rfl, trivial⟩ [0] rfl
  · rintro x5 _
    refine TC.seq ?_
    refine TC.region ?_
    refine TL.move rfl rfl (v := SV.v s1) rfl ?_
    refine TL.chk fun h12 => ?_
    refine TL.ixsM 0 0 (RdM.old h1) h12 Try.underlying53 Try.sizeOf22 rfl rfl rfl rfl rfl ?_
    refine TL.loadM2 (RdM.old h1) Try.isAgg22 0 h12 rfl rfl rfl rfl ?_
    refine TL.chk fun h13 => ?_
    refine TL.ixs 0 0 (RdM.inn (RdM.old h1) h12) h13 Try.underlying22 Try.sizeOf2 rfl rfl rfl rfl rfl ?_
    refine TL.loadE (RdM.inn (RdM.old h1) h12) Try.isAgg2 0 0 (gt_spec h13) (v := .int .i64 (gt (gt x4 0) 0)) rfl rfl rfl rfl rfl ?_
    refine TL.bin .i64 (gt (gt x4 0) 0) 1 rfl rfl rfl rfl (v := .bool ((gt (gt x4 0) 0) == 1)) rfl ?_
    refine TL.assign rfl rfl (v := .bool ((gt (gt x4 0) 0) == 1)) rfl ?_
    refine TL.done ?_
    exact TC.retF (Fin.body (fin1 (.inr rfl) rfl (.tmp rfl) [] rfl ⟨rfl, rfl⟩))

end Go.Proofs.Ytcombgcjgdkbiaa.G

/- spec.l06Twist, as a pure function. -/
set_option linter.unusedVariables false
namespace Go.Proofs.Ytcombgcjgdkbiaa.G
open Go Go.Sx Go.Proofs

def spec_l06Twist.f (p1 : Int) (g1 : Int) (g2 : Nat → UInt8) (table_1 : List (List Int)) : Option Int := (G.spec_l06Table.f p1 g1 g2 table_1).bind (fun r_1 => (bif (r_1 == 0) then (G.spec_l06Cocycle.f p1 g1 g2 table_1).bind (fun r_2 => some (!r_2)) else some false).bind (fun b_2 => (bif b_2 then some 2 else some r_1)))

def spec_l06Twist.R (r : Int) (v : Value) (L : List Asn) : Prop := v = .int .i64 r ∧ L = []

set_option maxRecDepth 100000 in
set_option maxHeartbeats 4000000 in
theorem spec_l06Twist.calls (w : World) (p1 : Int) (g1 : Int) (g2 : Nat → UInt8) (s1 : SV) (ss1 : List SV) (table_1 : List (List Int)) (h1 : ReadsM Ei (hp w) s1 ss1 table_1) :
    ∀ r, spec_l06Twist.f p1 g1 g2 table_1 = some r → Calls Try.prog 106 #[.int .i64 p1, sval [.one (.int .i64 g1), .arr 36 (enf u8v g2)], SV.v s1] w (Ret w (spec_l06Twist.R r)) := by

  refine calls_T (n := 22) (Γ := [(0, .int .i64 p1), (1, sval [.one (.int .i64 g1), .arr 36 (enf u8v g2)]), (2, SV.v s1)]) (R := spec_l06Twist.R) Try.func106 rfl rfl (Nat.le_of_ble_eq_true rfl) ⟨rfl, rfl, rfl, trivial⟩ ?_
  unfold spec_l06Twist.f
  refine TC.seq ?_
  refine TC.region ?_
  refine TL.box [.one (.int .i64 g1), .arr 36 (enf u8v g2)] rfl rfl rfl rfl fun b_1 => ?_
  refine TL.assign rfl rfl (v := .int .i64 0) rfl ?_
  refine TL.done ?_
  refine TC.seq ?_
  refine TC.region ?_
  refine TL.move rfl rfl (v := .int .i64 p1) rfl ?_
  refine TL.loadM 0 2 (Src.box 0 rfl) Try.isAgg37 Try.sizeOf37 (mid := [.one (.int .i64 g1), .arr 36 (enf u8v g2)]) rfl rfl rfl rfl rfl rfl ?_
  refine TL.move rfl rfl (v := SV.v s1) rfl ?_
  refine TL.call (R := G.spec_l06Table.R) Try.call102 rfl rfl rfl (fun w hS => G.spec_l06Table.calls w p1 g1 g2 s1 ss1 table_1 ((RdM.old h1) w hS)) ?_
  rintro r_1 _ _ ⟨rfl, rfl⟩
  refine TL.assign rfl rfl (v := .int .i64 r_1) rfl ?_
  refine TL.done ?_
  refine TC.seq ?_
  refine TC.seq ?_
  refine TC.region ?_
  refine TL.move rfl rfl (v := .int .i64 r_1) rfl ?_
  refine TL.bin .i64 r_1 0 rfl rfl rfl rfl (v := .bool (r_1 == 0)) rfl ?_
  refine TL.move rfl rfl (v := .bool (r_1 == 0)) rfl ?_
  refine TL.cutJ (σ := Bool) (γ := Unit) (Γ' := fun b_2 _ => [(20, .bool b_2), (0, .int .i64 p1), (1, sval [.one (.int .i64 g1), .arr 36 (enf u8v g2)]), (2, SV.v s1), (4, bp b_1 0), (6, .int .i64 0), (8, .int .i64 p1), (9, sval [.one (.int .i64 g1), .arr 36 (enf u8v g2)]), (10, SV.v s1), (11, .int .i64 r_1), (7, .int .i64 r_1), (12, .int .i64 r_1), (13, .bool (r_1 == 0)), (14, .bool (r_1 == 0))]) (L' := fun _ _ => [box b_1 37 [.one (.int .i64 g1), .arr 36 (enf u8v g2)]]) 6 ?_ ?_
  · refine TL.ifb (t := 14) (b := (r_1 == 0)) rfl (fun c1 => ?_) (fun c2 => ?_)
    · refine TL.move rfl rfl (v := .int .i64 p1) rfl ?_
      refine TL.loadM 0 2 (Src.box 0 rfl) Try.isAgg37 Try.sizeOf37 (mid := [.one (.int .i64 g1), .arr 36 (enf u8v g2)]) rfl rfl rfl rfl rfl rfl ?_
      refine TL.move rfl rfl (v := SV.v s1) rfl ?_
      refine TL.call (R := G.spec_l06Cocycle.R) Try.call103 rfl rfl rfl (fun w hS => G.spec_l06Cocycle.calls w p1 g1 g2 s1 ss1 table_1 ((RdM.old h1) w hS)) ?_
      rintro r_2 _ _ ⟨rfl, rfl⟩
      refine TL.not r_2 rfl rfl rfl ?_
      refine TL.pick rfl rfl (b := true) rfl (r := .bool (!r_2)) rfl ?_
      refine TL.done ?_
      exact TC.nrm ((!r_2)) () ⟨rfl, rfl, rfl, rfl, rfl, rfl, rfl, rfl, rfl, rfl, rfl, rfl, rfl, (by rw [c1]; rfl), trivial⟩ [0] rfl
    · refine TL.skip rfl rfl (by decide) ?_
      refine TL.skip rfl rfl (by decide) ?_
      refine TL.skip rfl rfl (by decide) ?_
      refine TL.skip rfl rfl (by decide) ?_
      refine TL.skip rfl rfl (by decide) ?_
      refine TL.pick rfl rfl (b := false) rfl (r := .bool false) rfl ?_
      refine TL.done ?_
      exact TC.nrm (false) () ⟨rfl, rfl, rfl, rfl, rfl, rfl, rfl, rfl, rfl, rfl, rfl, rfl, rfl, (by rw [c2]; rfl), trivial⟩ [0] rfl
  · rintro b_2 _
    refine TL.done ?_
    refine TC.cond (b := b_2) rfl (fun c3 => ?_) (fun c4 => ?_)
    · refine TC.seq ?_
      refine TC.region ?_
      refine TL.assign rfl rfl (v := .int .i64 2) rfl ?_
      refine TL.done ?_
      exact TC.retF (Fin.body (fin1 (.inr rfl) rfl (.tmp rfl) [] rfl ⟨rfl, rfl⟩))
    · refine TC.skip ?_
      refine TC.seq ?_
      refine TC.region ?_
      refine TL.move rfl rfl (v := .int .i64 r_1) rfl ?_
      refine TL.assign rfl rfl (v := .int .i64 r_1) rfl ?_
      refine TL.done ?_
      exact TC.retF (Fin.body (fin1 (.inr rfl) rfl (.tmp rfl) [] rfl ⟨rfl, rfl⟩))

end Go.Proofs.Ytcombgcjgdkbiaa.G
