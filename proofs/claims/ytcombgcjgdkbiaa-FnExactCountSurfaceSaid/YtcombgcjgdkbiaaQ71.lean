/- spec.l06Commutators, as a pure function. -/
import Derived.Test.YtcombgcjgdkbiaaProg
import Derived.Test.YtcombgcjgdkbiaaSx9
import Derived.Test.YtcombgcjgdkbiaaQ115
import Derived.Test.YtcombgcjgdkbiaaQ116
set_option linter.unusedVariables false
namespace Go.Proofs.Ytcombgcjgdkbiaa.G
open Go Go.Sx Go.Proofs

def spec_l06Commutators.b0 (g1 : Int) (g2 : Nat → UInt8) (a_1 : Int) : (Nat → Int) × Int → Option (LB ((Nat → Int) × Int)) := fun p => match p with | (out2, b_4) => (bif (decide (b_4 < g1)) then (G.spec_l06Inverse.f g1 g2 a_1).bind (fun r_1 => (G.spec_l06Inverse.f g1 g2 b_4).bind (fun r_2 => (G.spec_l06Times.f g1 g2 ([a_1, b_4, r_1, r_2] : List Int)).bind (fun r_3 => chk r_3 6 (some (.next ((upd out2 r_3.toNat (w64 ((out2 r_3.toNat) + 1))), (w64 (b_4 + 1)))))))) else some (.brk (out2, b_4)))

def spec_l06Commutators.b1 (g1 : Int) (g2 : Nat → UInt8) : (Nat → Int) × Int → Option (LB ((Nat → Int) × Int)) := fun p => match p with | (out1, a_1) => (bif (decide (a_1 < g1)) then (loop1 (spec_l06Commutators.b0 g1 g2 a_1) (out1, 0)).bind (fun p => match p with | (out2, b_4) => some (.next (out2, (w64 (a_1 + 1))))) else some (.brk (out1, a_1)))

def spec_l06Commutators.f (g1 : Int) (g2 : Nat → UInt8) : Option (Nat → Int) := (loop1 (spec_l06Commutators.b1 g1 g2) ((fun _ => 0), 0)).bind (fun p => match p with | (out1, a_1) => some out1)

def spec_l06Commutators.R (r : Nat → Int) (v : Value) (L : List Asn) : Prop := v = sval [.arr 6 (enf i64v r)] ∧ L = []

set_option maxRecDepth 100000 in
set_option maxHeartbeats 4000000 in
theorem spec_l06Commutators.calls (w : World) (g1 : Int) (g2 : Nat → UInt8) :
    ∀ r, spec_l06Commutators.f g1 g2 = some r → Calls Try.prog 71 #[sval [.one (.int .i64 g1), .arr 36 (enf u8v g2)]] w (Ret w (spec_l06Commutators.R r)) := by

  refine calls_T (n := 35) (Γ := [(0, sval [.one (.int .i64 g1), .arr 36 (enf u8v g2)])]) (R := spec_l06Commutators.R) Try.func71 rfl rfl (Nat.le_of_ble_eq_true rfl) ⟨rfl, trivial⟩ ?_
  unfold spec_l06Commutators.f
  refine TC.seq ?_
  refine TC.region ?_
  refine TL.box [.one (.int .i64 g1), .arr 36 (enf u8v g2)] rfl rfl rfl rfl fun b_1 => ?_
  refine TL.alloc [.arr 6 (enf i64v (fun _ => 0))] rfl rfl Try.zeroValue71 rfl fun b_2 => ?_
  refine TL.done ?_
  refine TC.seq ?_
  refine TC.region ?_
  refine TL.buildA (segs0 := [.arr 6 (enf i64v (fun _ => 0))]) (segs := [.arr 6 (enf i64v (fun _ => 0))]) Try.underlying71 Try.sizeOf2 Try.zeroValue71 rfl [] rfl rfl rfl rfl ?_
  refine TL.alloc [.arr 6 (enf i64v (fun _ => 0))] rfl rfl Try.zeroValue71 rfl fun b_3 => ?_
  refine TL.stM (news := [.arr 6 (enf i64v (fun _ => 0))]) 0 0 1 rfl Try.sizeOf71 (ones_arr (fun _ => rfl) ones_nil) rfl rfl rfl rfl rfl rfl ?_
  refine TL.done ?_
  refine TC.seq ?_
  refine TC.seq ?_
  refine TC.region ?_
  refine TL.assign rfl rfl (v := .int .i64 0) rfl ?_
  refine TL.done ?_
  refine TC.loop1 (σ := (Nat → Int) × Int) (γ := Unit) (Γ' := (fun p q => match p, q with | (out1, a_1), _ => [(1, bp b_1 0), (2, bp b_2 0), (3, bp b_3 0), (4, .int .i64 a_1)])) (L' := (fun p q => match p, q with | (out1, a_1), _ => [box b_1 37 [.one (.int .i64 g1), .arr 36 (enf u8v g2)], box b_2 71 [.arr 6 (enf i64v (fun _ => 0))], box b_3 71 [.arr 6 (enf i64v out1)]])) (Γb := (fun p q => match p, q with | (out1, a_1), _ => [(1, bp b_1 0), (2, bp b_2 0), (3, bp b_3 0), (4, .int .i64 a_1)])) (Lb := (fun p q => match p, q with | (out1, a_1), _ => [box b_1 37 [.one (.int .i64 g1), .arr 36 (enf u8v g2)], box b_2 71 [.arr 6 (enf i64v (fun _ => 0))], box b_3 71 [.arr 6 (enf i64v out1)]])) (((fun _ => 0), 0)) (()) ⟨rfl, rfl, rfl, rfl, trivial⟩ [2, 1, 0] rfl ?_ ?_
  · rintro ⟨out1, a_1⟩ _
    refine TC.seq ?_
    refine TC.seq ?_
    refine TC.region ?_
    refine TL.move rfl rfl (v := .int .i64 a_1) rfl ?_
    refine TL.fa Try.underlying37 rfl Try.sizeOf2 rfl 0 rfl rfl rfl rfl ?_
    refine TL.load1 0 (Src.box 0 rfl) Try.isAgg2 rfl rfl rfl rfl rfl ?_
    refine TL.bin .i64 a_1 g1 rfl rfl rfl rfl (v := .bool (decide (a_1 < g1))) rfl ?_
    refine TL.done ?_
    refine TC.cond (b := (decide (a_1 < g1))) rfl (fun c1 => ?_) (fun c2 => ?_)
    · refine TC.skip ?_
      refine TC.seq ?_
      refine TC.block (NoEx.loop1 rfl) ?_
      refine TC.seq ?_
      refine TC.region ?_
      refine TL.assign rfl rfl (v := .int .i64 0) rfl ?_
      refine TL.done ?_
      refine TC.loop1 (σ := (Nat → Int) × Int) (γ := Unit) (Γ' := (fun p q => match p, q with | (out2, b_4), _ => [(1, bp b_1 0), (2, bp b_2 0), (3, bp b_3 0), (4, .int .i64 a_1), (5, .int .i64 b_4)])) (L' := (fun p q => match p, q with | (out2, b_4), _ => [box b_1 37 [.one (.int .i64 g1), .arr 36 (enf u8v g2)], box b_2 71 [.arr 6 (enf i64v (fun _ => 0))], box b_3 71 [.arr 6 (enf i64v out2)]])) (Γb := (fun p q => match p, q with | (out2, b_4), _ => [(1, bp b_1 0), (2, bp b_2 0), (3, bp b_3 0), (4, .int .i64 a_1), (5, .int .i64 b_4)])) (Lb := (fun p q => match p, q with | (out2, b_4), _ => [box b_1 37 [.one (.int .i64 g1), .arr 36 (enf u8v g2)], box b_2 71 [.arr 6 (enf i64v (fun _ => 0))], box b_3 71 [.arr 6 (enf i64v out2)]])) ((out1, 0)) (()) ⟨rfl, rfl, rfl, rfl, rfl, trivial⟩ [0, 0, 0] rfl ?_ ?_
      · rintro ⟨out2, b_4⟩ _
        refine TC.seq ?_
        refine TC.seq ?_
        refine TC.region ?_
        refine TL.move rfl rfl (v := .int .i64 b_4) rfl ?_
        refine TL.fa Try.underlying37 rfl Try.sizeOf2 rfl 0 rfl rfl rfl rfl ?_
        refine TL.load1 0 (Src.box 0 rfl) Try.isAgg2 rfl rfl rfl rfl rfl ?_
        refine TL.bin .i64 b_4 g1 rfl rfl rfl rfl (v := .bool (decide (b_4 < g1))) rfl ?_
        refine TL.done ?_
        refine TC.cond (b := (decide (b_4 < g1))) rfl (fun c3 => ?_) (fun c4 => ?_)
        · refine TC.skip ?_
          refine TC.seq ?_
          refine TC.block (NoEx.loop1 rfl) ?_
          refine TC.wk (Γ' := [(1, bp b_1 0), (2, bp b_2 0), (3, bp b_3 0), (4, .int .i64 a_1), (5, .int .i64 b_4), (13, .int .i64 b_4), (14, bp b_1 0), (15, .int .i64 g1), (16, .bool (decide (b_4 < g1)))]) ⟨rfl, rfl, rfl, rfl, rfl, rfl, rfl, rfl, rfl, trivial⟩ ?_
          refine TC.bindE ?_
          rintro r_1 hr1
          refine TC.bindE ?_
          rintro r_2 hr2
          refine TC.bindE ?_
          rintro r_3 hr3
          refine TC.chk fun h1 => ?_
          refine TC.drawG [(1, bp b_1 0), (2, bp b_2 0), (3, bp b_3 0), (4, .int .i64 a_1), (5, .int .i64 b_4), (13, .int .i64 b_4), (14, bp b_1 0), (15, .int .i64 g1), (16, .bool (decide (b_4 < g1)))] [] ⟨rfl, rfl, rfl, rfl, rfl, rfl, rfl, rfl, rfl, trivial⟩ trivial (fun l_ g3 => [box b_1 37 [.one (.int .i64 g1), .arr 36 (enf u8v g2)], box b_2 71 [.arr 6 (enf i64v (fun _ => 0))], (bif nb l_ 15 then box b_3 71 [.arr 6 (enf i64v (upd out2 r_3.toNat (w64 ((out2 r_3.toNat) + 1))))] else box b_3 71 [.arr 6 (enf i64v out2)]), (bif nb l_ 9 then row Ei 2 (gs (g3 72)) ([a_1, b_4, r_1, r_2] : List Int) else emp)]) (fun g3 => [sval [.one (.int .i64 g1), .arr 36 (enf u8v g2)], .int .i64 a_1, .int .i64 b_4, sval [.one (.int .i64 g1), .arr 36 (enf u8v g2)], .int .i64 a_1, .int .i64 r_1, sval [.one (.int .i64 g1), .arr 36 (enf u8v g2)], .int .i64 b_4, .int .i64 r_2, SV.v (gs (g3 72)), .int .i64 r_3, bp b_3 r_3.toNat, .int .i64 (out2 r_3.toNat), .int .i64 (w64 ((out2 r_3.toNat) + 1)), bp b_3 r_3.toNat, undef]) [[], [], [], [], [], [3, 4], [], [], [3, 4, 5, 6, 7], [1, 2, 3, 4, 5, 6, 7, 8], [0, 1, 2, 3, 4, 5, 6, 7, 8, 9], [0, 1, 2, 3, 4, 5, 6, 7, 8, 9, 10], [0, 1, 2, 3, 4, 5, 6, 7, 8, 9, 10, 11], [0, 1, 2, 3, 4, 5, 6, 7, 8, 9, 10, 11, 12], [0, 1, 2, 3, 4, 5, 6, 7, 8, 9, 10, 11, 12, 13], [0, 1, 2, 3, 4, 5, 6, 7, 8, 9, 10, 11, 12, 13, 14]] [[some false, none, none, none, none, none, none, none, none, none, some false, some false, some false, some false, some false, some false], [none, some false, none, none, none, none, none, none, none, some false, some false, some false, some false, some false, some false, some false], [none, none, some false, none, none, none, none, none, none, some false, some false, some false, some false, some false, some false, some false], [none, none, none, some false, none, some false, none, none, some false, some false, some false, some false, some false, some false, some false, some false], [none, none, none, none, some false, some false, none, none, some false, some false, some false, some false, some false, some false, some false, some false], [none, none, none, some true, some true, some false, none, none, some false, some false, some false, some false, some false, some false, some false, some false], [none, none, none, none, none, none, some false, none, some false, some false, some false, some false, some false, some false, some false, some false], [none, none, none, none, none, none, none, some false, some false, some false, some false, some false, some false, some false, some false, some false], [none, none, none, some true, some true, some true, some true, some true, some false, some false, some false, some false, some false, some false, some false, some false], [none, some true, some true, some true, some true, some true, some true, some true, some true, some false, some false, some false, some false, some false, some false, some false], [some true, some true, some true, some true, some true, some true, some true, some true, some true, some true, some false, some false, some false, some false, some false, some false], [some true, some true, some true, some true, some true, some true, some true, some true, some true, some true, some true, some false, some false, some false, some false, some false], [some true, some true, some true, some true, some true, some true, some true, some true, some true, some true, some true, some true, some false, some false, some false, some false], [some true, some true, some true, some true, some true, some true, some true, some true, some true, some true, some true, some true, some true, some false, some false, some false], [some true, some true, some true, some true, some true, some true, some true, some true, some true, some true, some true, some true, some true, some true, some false, some false], [some true, some true, some true, some true, some true, some true, some true, some true, some true, some true, some true, some true, some true, some true, some true, some false]] (by kernel_rfl) (fun _ => rfl) rfl rfl rfl rfl rfl (fun _ _ => ⟨⟨⟨⟨⟨⟨⟨⟨⟨⟨⟨⟨⟨⟨⟨⟨trivial, rfl⟩, rfl⟩, rfl⟩, rfl⟩, rfl⟩, rfl⟩, rfl⟩, rfl⟩, rfl⟩, rfl⟩, rfl⟩, rfl⟩, rfl⟩, rfl⟩, rfl⟩, rfl⟩) 1 [1, 1, 1, 0] (fun _ => rfl) ?_ ?_
          · refine ⟨rfl, ?_, rfl, ?_, rfl, ?_, rfl, ?_, rfl, ?_, rfl, ?_, rfl, ?_, rfl, ?_, rfl, ?_, rfl, ?_, rfl, ?_, rfl, ?_, rfl, ?_, rfl, ?_, rfl, ?_, rfl, ?_, trivial⟩
            · intro b1_ b2_ b3_ b4_ b5_ b6_ b7_ b8_ b9_ g3
              refine TL.asL [box b_1 37 [.one (.int .i64 g1), .arr 36 (enf u8v g2)], box b_2 71 [.arr 6 (enf i64v (fun _ => 0))], box b_3 71 [.arr 6 (enf i64v out2)], (bif b9_ then row Ei 2 (gs (g3 72)) ([a_1, b_4, r_1, r_2] : List Int) else emp)] rfl ?_
              refine TL.loadM 0 2 (Src.box 0 rfl) Try.isAgg37 Try.sizeOf37 (mid := [.one (.int .i64 g1), .arr 36 (enf u8v g2)]) rfl rfl rfl rfl rfl rfl ?_
              refine TL.done ?_
              exact TC.nrm () [] ⟨rfl, trivial⟩ [0, 0, 0, 0] rfl
            · intro b0_ b2_ b3_ b4_ b5_ b6_ b7_ b8_ g3
              refine TL.move rfl rfl (v := .int .i64 a_1) rfl ?_
              refine TL.done ?_
              exact TC.nrm () [] ⟨rfl, trivial⟩ [0, 0, 0, 0] rfl
            · intro b0_ b1_ b3_ b4_ b5_ b6_ b7_ b8_ g3
              refine TL.move rfl rfl (v := .int .i64 b_4) rfl ?_
              refine TL.done ?_
              exact TC.nrm () [] ⟨rfl, trivial⟩ [0, 0, 0, 0] rfl
            · intro b0_ b1_ b2_ b4_ b6_ b7_ g3
              refine TL.asL [box b_1 37 [.one (.int .i64 g1), .arr 36 (enf u8v g2)], box b_2 71 [.arr 6 (enf i64v (fun _ => 0))], box b_3 71 [.arr 6 (enf i64v out2)], emp] rfl ?_
              refine TL.loadM 0 2 (Src.box 0 rfl) Try.isAgg37 Try.sizeOf37 (mid := [.one (.int .i64 g1), .arr 36 (enf u8v g2)]) rfl rfl rfl rfl rfl rfl ?_
              refine TL.done ?_
              exact TC.nrm () [] ⟨rfl, trivial⟩ [0, 0, 0, 0] rfl
            · intro b0_ b1_ b2_ b3_ b6_ b7_ g3
              refine TL.move rfl rfl (v := .int .i64 a_1) rfl ?_
              refine TL.done ?_
              exact TC.nrm () [] ⟨rfl, trivial⟩ [0, 0, 0, 0] rfl
            · intro b0_ b1_ b2_ b6_ b7_ g3
              refine TL.asL [box b_1 37 [.one (.int .i64 g1), .arr 36 (enf u8v g2)], box b_2 71 [.arr 6 (enf i64v (fun _ => 0))], box b_3 71 [.arr 6 (enf i64v out2)], emp] rfl ?_
              refine TL.callH (R := G.spec_l06Inverse.R) hr1 Try.call116 rfl rfl rfl (fun w hS => G.spec_l06Inverse.calls w g1 g2 a_1) ?_
              rintro _ _ ⟨rfl, rfl⟩
              refine TL.done ?_
              exact TC.nrm () [] ⟨rfl, trivial⟩ [0, 0, 0, 0] rfl
            · intro b0_ b1_ b2_ b3_ b4_ b5_ b7_ g3
              refine TL.asL [box b_1 37 [.one (.int .i64 g1), .arr 36 (enf u8v g2)], box b_2 71 [.arr 6 (enf i64v (fun _ => 0))], box b_3 71 [.arr 6 (enf i64v out2)], emp] rfl ?_
              refine TL.loadM 0 2 (Src.box 0 rfl) Try.isAgg37 Try.sizeOf37 (mid := [.one (.int .i64 g1), .arr 36 (enf u8v g2)]) rfl rfl rfl rfl rfl rfl ?_
              refine TL.done ?_
              exact TC.nrm () [] ⟨rfl, trivial⟩ [0, 0, 0, 0] rfl
            · intro b0_ b1_ b2_ b3_ b4_ b5_ b6_ g3
              refine TL.move rfl rfl (v := .int .i64 b_4) rfl ?_
              refine TL.done ?_
              exact TC.nrm () [] ⟨rfl, trivial⟩ [0, 0, 0, 0] rfl
            · intro b0_ b1_ b2_ g3
              refine TL.asL [box b_1 37 [.one (.int .i64 g1), .arr 36 (enf u8v g2)], box b_2 71 [.arr 6 (enf i64v (fun _ => 0))], box b_3 71 [.arr 6 (enf i64v out2)], emp] rfl ?_
              refine TL.callH (R := G.spec_l06Inverse.R) hr2 Try.call116 rfl rfl rfl (fun w hS => G.spec_l06Inverse.calls w g1 g2 b_4) ?_
              rintro _ _ ⟨rfl, rfl⟩
              refine TL.done ?_
              exact TC.nrm () [] ⟨rfl, trivial⟩ [0, 0, 0, 0] rfl
            · intro b0_ g3
              refine TL.asL [box b_1 37 [.one (.int .i64 g1), .arr 36 (enf u8v g2)], box b_2 71 [.arr 6 (enf i64v (fun _ => 0))], box b_3 71 [.arr 6 (enf i64v out2)], emp] rfl ?_
              refine TL.blit Ei ([a_1, b_4, r_1, r_2] : List Int) Try.underlying22 Try.sizeOf2 Try.zeroValue2 rfl rfl rfl [(0, .int .i64 a_1), (1, .int .i64 b_4), (2, .int .i64 r_1), (3, .int .i64 r_2)] rfl ⟨rfl, rfl, rfl, rfl, rfl, rfl, rfl, rfl, trivial⟩ rfl rfl fun s1 => ?_
              refine TL.done ?_
              exact TC.nrm () [[s1]] ⟨rfl, trivial⟩ [1, 1, 1, 0] rfl
            · intro g3
              refine TL.asL [box b_1 37 [.one (.int .i64 g1), .arr 36 (enf u8v g2)], box b_2 71 [.arr 6 (enf i64v (fun _ => 0))], box b_3 71 [.arr 6 (enf i64v out2)], row Ei 2 (gs (g3 72)) ([a_1, b_4, r_1, r_2] : List Int)] rfl ?_
              refine TL.callH (R := G.spec_l06Times.R) hr3 Try.call115 rfl rfl rfl (fun w hS => G.spec_l06Times.calls w g1 g2 (gs (g3 72)) ([a_1, b_4, r_1, r_2] : List Int) ((Rd.row 3 rfl) w hS)) ?_
              rintro _ _ ⟨rfl, rfl⟩
              refine TL.done ?_
              exact TC.nrm () [] ⟨rfl, trivial⟩ [0, 0, 0, 0] rfl
            · intro g3
              refine TL.asL [box b_1 37 [.one (.int .i64 g1), .arr 36 (enf u8v g2)], box b_2 71 [.arr 6 (enf i64v (fun _ => 0))], box b_3 71 [.arr 6 (enf i64v out2)], row Ei 2 (gs (g3 72)) ([a_1, b_4, r_1, r_2] : List Int)] rfl ?_
              refine TL.ixa r_3 r_3.toNat h1 Try.underlying71 Try.sizeOf2 rfl rfl rfl rfl (by omega) ?_
              refine TL.done ?_
              exact TC.nrm () [] ⟨rfl, trivial⟩ [0, 0, 0, 0] rfl
            · intro g3
              refine TL.asL [box b_1 37 [.one (.int .i64 g1), .arr 36 (enf u8v g2)], box b_2 71 [.arr 6 (enf i64v (fun _ => 0))], box b_3 71 [.arr 6 (enf i64v out2)], row Ei 2 (gs (g3 72)) ([a_1, b_4, r_1, r_2] : List Int)] rfl ?_
              refine TL.loadA r_3.toNat 0 (Src.box 2 rfl) Try.isAgg2 rfl (by omega) (v := .int .i64 (out2 r_3.toNat)) rfl (st := 0) rfl (by omega) rfl rfl rfl ?_
              refine TL.done ?_
              exact TC.nrm () [] ⟨rfl, trivial⟩ [0, 0, 0, 0] rfl
            · intro g3
              refine TL.bin .i64 (out2 r_3.toNat) 1 rfl rfl rfl rfl (v := .int .i64 (w64 ((out2 r_3.toNat) + 1))) rfl ?_
              refine TL.done ?_
              exact TC.nrm () [] ⟨rfl, trivial⟩ [0, 0, 0, 0] rfl
            · intro g3
              refine TL.asL [box b_1 37 [.one (.int .i64 g1), .arr 36 (enf u8v g2)], box b_2 71 [.arr 6 (enf i64v (fun _ => 0))], box b_3 71 [.arr 6 (enf i64v out2)], row Ei 2 (gs (g3 72)) ([a_1, b_4, r_1, r_2] : List Int)] rfl ?_
              refine TL.ixa r_3 r_3.toNat h1 Try.underlying71 Try.sizeOf2 rfl rfl rfl rfl (by omega) ?_
              refine TL.done ?_
              exact TC.nrm () [] ⟨rfl, trivial⟩ [0, 0, 0, 0] rfl
            · intro g3
              refine TL.asL [box b_1 37 [.one (.int .i64 g1), .arr 36 (enf u8v g2)], box b_2 71 [.arr 6 (enf i64v (fun _ => 0))], box b_3 71 [.arr 6 (enf i64v out2)], row Ei 2 (gs (g3 72)) ([a_1, b_4, r_1, r_2] : List Int)] rfl ?_
              refine TL.stA (e := i64v) (z := (w64 ((out2 r_3.toNat) + 1))) 2 0 r_3.toNat rfl Try.sizeOf2 rfl (by omega) (s := 0) rfl (by omega) rfl rfl rfl rfl rfl ?_
              refine TL.done ?_
              exact TC.nrm () [] trivial [0, 0, 0, 0] rfl
          · intro g3
            refine TC.asL [box b_1 37 [.one (.int .i64 g1), .arr 36 (enf u8v g2)], box b_2 71 [.arr 6 (enf i64v (fun _ => 0))], box b_3 71 [.arr 6 (enf i64v (upd out2 r_3.toNat (w64 ((out2 r_3.toNat) + 1))))], row Ei 2 (gs (g3 72)) ([a_1, b_4, r_1, r_2] : List Int)] rfl ?_
            refine TC.region ?_
            refine TL.move rfl rfl (v := .int .i64 b_4) rfl ?_
            refine TL.bin .i64 b_4 1 rfl rfl rfl rfl (v := .int .i64 (w64 (b_4 + 1))) rfl ?_
            refine TL.assign rfl rfl (v := .int .i64 (w64 (b_4 + 1))) rfl ?_
            refine TL.done ?_
            exact TC.next1 (((upd out2 r_3.toNat (w64 ((out2 r_3.toNat) + 1))), (w64 (b_4 + 1)))) (()) ⟨rfl, rfl, rfl, rfl, rfl, trivial⟩ [0, 0, 0] rfl
        · exact TC.brk1 ((out2, b_4)) (()) ⟨rfl, rfl, rfl, rfl, rfl, trivial⟩ [0, 0, 0] rfl
      · rintro ⟨out2, b_4⟩ _
        refine TC.region ?_
        refine TL.move rfl rfl (v := .int .i64 a_1) rfl ?_
        refine TL.bin .i64 a_1 1 rfl rfl rfl rfl (v := .int .i64 (w64 (a_1 + 1))) rfl ?_
        refine TL.assign rfl rfl (v := .int .i64 (w64 (a_1 + 1))) rfl ?_
        refine TL.done ?_
        exact TC.next1 ((out2, (w64 (a_1 + 1)))) (()) ⟨rfl, rfl, rfl, rfl, trivial⟩ [0, 0, 0] rfl
    · exact TC.brk1 ((out1, a_1)) (()) ⟨rfl, rfl, rfl, rfl, trivial⟩ [0, 0, 0] rfl
  · rintro ⟨out1, a_1⟩ _
    refine TC.seq ?_
    refine TC.region ?_
    refine TL.loadM 0 1 (Src.box 2 rfl) Try.isAgg71 Try.sizeOf71 (mid := [.arr 6 (enf i64v out1)]) rfl rfl rfl rfl rfl rfl ?_
    refine TL.stM (news := [.arr 6 (enf i64v out1)]) 1 0 1 rfl Try.sizeOf71 (ones_arr (fun _ => rfl) ones_nil) rfl rfl rfl rfl rfl rfl ?_
    refine TL.done ?_
    exact TC.retF (Fin.body (fin1 (.inr rfl) rfl (.cellN rfl (Src.box 1 rfl) Try.isAgg71 Try.sizeOf71 rfl) [] rfl ⟨rfl, rfl⟩))

end Go.Proofs.Ytcombgcjgdkbiaa.G
