/- spec.l06Times, as a pure function. -/
import Derived.Test.YtcombgcjgdkbiaaProg
import Derived.Test.YtcombgcjgdkbiaaSx9
set_option linter.unusedVariables false
namespace Go.Proofs.Ytcombgcjgdkbiaa.G
open Go Go.Sx Go.Proofs

def spec_l06Times.b0 (list_1 : List Int) (g2 : Nat → UInt8) : Int × Int → Option (LB (Int × Int)) := fun p => match p with | (out1, i1) => (bif (decide (i1 < (list_1.length : Int))) then chk i1 list_1.length (chk out1 6 (chk (gt list_1 i1) 6 (some (.next (((g2 (out1.toNat * 6 + (gt list_1 i1).toNat)).toNat : Int), (w64 (i1 + 1))))))) else some (.brk (out1, i1)))

def spec_l06Times.f (g1 : Int) (g2 : Nat → UInt8) (list_1 : List Int) : Option Int := (loop1 (spec_l06Times.b0 list_1 g2) (0, 0)).bind (fun p => match p with | (out1, i1) => some out1)

def spec_l06Times.R (r : Int) (v : Value) (L : List Asn) : Prop := v = .int .i64 r ∧ L = []

set_option maxRecDepth 100000 in
set_option maxHeartbeats 4000000 in
theorem spec_l06Times.calls (w : World) (g1 : Int) (g2 : Nat → UInt8) (s1 : SV) (list_1 : List Int) (h1 : Reads Ei (hp w) s1 list_1) :
    ∀ r, spec_l06Times.f g1 g2 list_1 = some r → Calls Try.prog 115 #[sval [.one (.int .i64 g1), .arr 36 (enf u8v g2)], SV.v s1] w (Ret w (spec_l06Times.R r)) := by

  refine calls_T (n := 24) (Γ := [(0, sval [.one (.int .i64 g1), .arr 36 (enf u8v g2)]), (1, SV.v s1)]) (R := spec_l06Times.R) Try.func115 rfl rfl (Nat.le_of_ble_eq_true rfl) ⟨rfl, rfl, trivial⟩ ?_
  unfold spec_l06Times.f
  refine TC.seq ?_
  refine TC.region ?_
  refine TL.box [.one (.int .i64 g1), .arr 36 (enf u8v g2)] rfl rfl rfl rfl fun b_1 => ?_
  refine TL.assign rfl rfl (v := .int .i64 0) rfl ?_
  refine TL.done ?_
  refine TC.seq ?_
  refine TC.region ?_
  refine TL.assign rfl rfl (v := .int .i64 0) rfl ?_
  refine TL.done ?_
  refine TC.seq ?_
  refine TC.seq ?_
  refine TC.region ?_
  refine TL.assign rfl rfl (v := .int .i64 0) rfl ?_
  refine TL.done ?_
  refine TC.loop1 (σ := Int × Int) (γ := Unit) (Γ' := (fun p q => match p, q with | (out1, i1), _ => [(1, SV.v s1), (2, bp b_1 0), (5, .int .i64 out1), (6, .int .i64 i1)])) (L' := (fun p q => match p, q with | (out1, i1), _ => [box b_1 37 [.one (.int .i64 g1), .arr 36 (enf u8v g2)]])) (Γb := (fun p q => match p, q with | (out1, i1), _ => [(1, SV.v s1), (2, bp b_1 0), (5, .int .i64 out1), (6, .int .i64 i1)])) (Lb := (fun p q => match p, q with | (out1, i1), _ => [box b_1 37 [.one (.int .i64 g1), .arr 36 (enf u8v g2)]])) ((0, 0)) (()) ⟨rfl, rfl, rfl, rfl, trivial⟩ [0] rfl ?_ ?_
  · rintro ⟨out1, i1⟩ _
    refine TC.seq ?_
    refine TC.seq ?_
    refine TC.region ?_
    refine TL.move rfl rfl (v := .int .i64 i1) rfl ?_
    refine TL.move rfl rfl (v := SV.v s1) rfl ?_
    refine TL.len (Rd.old h1) Try.underlying22 rfl rfl rfl ?_
    refine TL.bin .i64 i1 (list_1.length : Int) rfl rfl rfl rfl (v := .bool (decide (i1 < (list_1.length : Int)))) rfl ?_
    refine TL.done ?_
    refine TC.cond (b := (decide (i1 < (list_1.length : Int)))) rfl (fun c1 => ?_) (fun c2 => ?_)
    · refine TC.skip ?_
      refine TC.seq ?_
      refine TC.block (NoEx.loop1 rfl) ?_
      refine TC.wk (Γ' := [(1, SV.v s1), (2, bp b_1 0), (6, .int .i64 i1), (7, .int .i64 i1), (8, SV.v s1), (9, .int .i64 (list_1.length : Int)), (10, .bool (decide (i1 < (list_1.length : Int)))), (5, .int .i64 out1)]) ⟨rfl, rfl, rfl, rfl, rfl, rfl, rfl, rfl, trivial⟩ ?_
      refine TC.chk fun h2 => ?_
      refine TC.chk fun h3 => ?_
      refine TC.chk fun h4 => ?_
      refine TC.drawG [(1, SV.v s1), (2, bp b_1 0), (6, .int .i64 i1), (7, .int .i64 i1), (8, SV.v s1), (9, .int .i64 (list_1.length : Int)), (10, .bool (decide (i1 < (list_1.length : Int))))] [(5, .int .i64 out1, 10)] ⟨rfl, rfl, rfl, rfl, rfl, rfl, rfl, trivial⟩ ⟨rfl, trivial⟩ (fun l_ g3 => [box b_1 37 [.one (.int .i64 g1), .arr 36 (enf u8v g2)]]) (fun g3 => [.int .i64 out1, SV.v s1, .int .i64 i1, ep s1 i1.toNat, .int .i64 (gt list_1 i1), bp b_1 1, bp b_1 (1 + out1.toNat * 6), bp b_1 (1 + (out1.toNat * 6 + (gt list_1 i1).toNat)), u8v (g2 (out1.toNat * 6 + (gt list_1 i1).toNat)), .int .i64 ((g2 (out1.toNat * 6 + (gt list_1 i1).toNat)).toNat : Int), .int .i64 ((g2 (out1.toNat * 6 + (gt list_1 i1).toNat)).toNat : Int)]) [[], [], [], [1, 2], [1, 2, 3], [], [0, 5], [0, 1, 2, 3, 4, 5, 6], [0, 1, 2, 3, 4, 5, 6, 7], [0, 1, 2, 3, 4, 5, 6, 7, 8], [0, 1, 2, 3, 4, 5, 6, 7, 8, 9]] [[some false, none, none, none, none, none, some false, some false, some false, some false, some false], [none, some false, none, some false, some false, none, none, some false, some false, some false, some false], [none, none, some false, some false, some false, none, none, some false, some false, some false, some false], [none, some true, some true, some false, some false, none, none, some false, some false, some false, some false], [none, some true, some true, some true, some false, none, none, some false, some false, some false, some false], [none, none, none, none, none, some false, some false, some false, some false, some false, some false], [some true, none, none, none, none, some true, some false, some false, some false, some false, some false], [some true, some true, some true, some true, some true, some true, some true, some false, some false, some false, some false], [some true, some true, some true, some true, some true, some true, some true, some true, some false, some false, some false], [some true, some true, some true, some true, some true, some true, some true, some true, some true, some false, some false], [some true, some true, some true, some true, some true, some true, some true, some true, some true, some true, some false]] (by kernel_rfl) (fun _ => rfl) rfl rfl rfl rfl rfl (fun _ _ => ⟨⟨⟨⟨⟨⟨⟨⟨⟨⟨⟨trivial, rfl⟩, rfl⟩, rfl⟩, rfl⟩, rfl⟩, rfl⟩, rfl⟩, rfl⟩, rfl⟩, rfl⟩, rfl⟩) 0 [0] (fun _ => rfl) ?_ ?_
      · refine ⟨rfl, ?_, rfl, ?_, rfl, ?_, rfl, ?_, rfl, ?_, rfl, ?_, rfl, ?_, rfl, ?_, rfl, ?_, rfl, ?_, rfl, ?_, trivial⟩
        · intro b1_ b2_ b3_ b4_ b5_ g3
          refine TL.move rfl rfl (v := .int .i64 out1) rfl ?_
          refine TL.done ?_
          exact TC.nrm () [] ⟨rfl, trivial⟩ [0] rfl
        · intro b0_ b2_ b5_ b6_ g3
          refine TL.move rfl rfl (v := SV.v s1) rfl ?_
          refine TL.done ?_
          exact TC.nrm () [] ⟨rfl, trivial⟩ [0] rfl
        · intro b0_ b1_ b5_ b6_ g3
          refine TL.move rfl rfl (v := .int .i64 i1) rfl ?_
          refine TL.done ?_
          exact TC.nrm () [] ⟨rfl, trivial⟩ [0] rfl
        · intro b0_ b5_ b6_ g3
          refine TL.asL [box b_1 37 [.one (.int .i64 g1), .arr 36 (enf u8v g2)]] rfl ?_
          refine TL.ixs i1 i1.toNat (Rd.old h1) h2 Try.underlying22 Try.sizeOf2 rfl rfl rfl rfl (by omega) ?_
          refine TL.done ?_
          exact TC.nrm () [] ⟨rfl, trivial⟩ [0] rfl
        · intro b0_ b5_ b6_ g3
          refine TL.asL [box b_1 37 [.one (.int .i64 g1), .arr 36 (enf u8v g2)]] rfl ?_
          refine TL.loadE (Rd.old h1) Try.isAgg2 i1.toNat 0 (gt_spec h2) (v := .int .i64 (gt list_1 i1)) rfl (by simp only [show Ei.sz = 1 from rfl]; omega) rfl rfl rfl ?_
          refine TL.done ?_
          exact TC.nrm () [] ⟨rfl, trivial⟩ [0] rfl
        · intro b0_ b1_ b2_ b3_ b4_ g3
          refine TL.asL [box b_1 37 [.one (.int .i64 g1), .arr 36 (enf u8v g2)]] rfl ?_
          refine TL.fa Try.underlying37 rfl Try.sizeOf33 rfl 1 rfl rfl rfl rfl ?_
          refine TL.done ?_
          exact TC.nrm () [] ⟨rfl, trivial⟩ [0] rfl
        · intro b1_ b2_ b3_ b4_ g3
          refine TL.asL [box b_1 37 [.one (.int .i64 g1), .arr 36 (enf u8v g2)]] rfl ?_
          refine TL.ixa out1 (1 + out1.toNat * 6) h3 Try.underlying33 Try.sizeOf32 rfl rfl rfl rfl (by omega) ?_
          refine TL.done ?_
          exact TC.nrm () [] ⟨rfl, trivial⟩ [0] rfl
        · intro g3
          refine TL.asL [box b_1 37 [.one (.int .i64 g1), .arr 36 (enf u8v g2)]] rfl ?_
          refine TL.ixa (gt list_1 i1) (1 + (out1.toNat * 6 + (gt list_1 i1).toNat)) h4 Try.underlying32 Try.sizeOf5 rfl rfl rfl rfl (by omega) ?_
          refine TL.done ?_
          exact TC.nrm () [] ⟨rfl, trivial⟩ [0] rfl
        · intro g3
          refine TL.asL [box b_1 37 [.one (.int .i64 g1), .arr 36 (enf u8v g2)]] rfl ?_
          refine TL.loadA (out1.toNat * 6 + (gt list_1 i1).toNat) 1 (Src.box 0 rfl) Try.isAgg5 rfl (by omega) (v := u8v (g2 (out1.toNat * 6 + (gt list_1 i1).toNat))) rfl (st := 1) rfl (by omega) rfl rfl rfl ?_
          refine TL.done ?_
          exact TC.nrm () [] ⟨rfl, trivial⟩ [0] rfl
        · intro g3
          refine TL.conv .u8 .i64 ((g2 (out1.toNat * 6 + (gt list_1 i1).toNat)).toNat : Int) _ rfl rfl rfl Try.underlying5 Try.underlying2 (v := .int .i64 ((g2 (out1.toNat * 6 + (gt list_1 i1).toNat)).toNat : Int)) (conv_u8_i64 _) ?_
          refine TL.done ?_
          exact TC.nrm () [] ⟨rfl, trivial⟩ [0] rfl
        · intro g3
          refine TL.assign rfl rfl (v := .int .i64 ((g2 (out1.toNat * 6 + (gt list_1 i1).toNat)).toNat : Int)) rfl ?_
          refine TL.done ?_
          exact TC.nrm () [] ⟨rfl, trivial⟩ [0] rfl
      · intro g3
        refine TC.asL [box b_1 37 [.one (.int .i64 g1), .arr 36 (enf u8v g2)]] rfl ?_
        refine TC.region ?_
        refine TL.move rfl rfl (v := .int .i64 i1) rfl ?_
        refine TL.bin .i64 i1 1 rfl rfl rfl rfl (v := .int .i64 (w64 (i1 + 1))) rfl ?_
        refine TL.assign rfl rfl (v := .int .i64 (w64 (i1 + 1))) rfl ?_
        refine TL.done ?_
        exact TC.next1 ((((g2 (out1.toNat * 6 + (gt list_1 i1).toNat)).toNat : Int), (w64 (i1 + 1)))) (()) ⟨rfl, rfl, rfl, rfl, trivial⟩ [0] rfl
    · exact TC.brk1 ((out1, i1)) (()) ⟨rfl, rfl, rfl, rfl, trivial⟩ [0] rfl
  · rintro ⟨out1, i1⟩ _
    refine TC.seq ?_
    refine TC.region ?_
    refine TL.move rfl rfl (v := .int .i64 out1) rfl ?_
    refine TL.assign rfl rfl (v := .int .i64 out1) rfl ?_
    refine TL.done ?_
    exact TC.retF (Fin.body (fin1 (.inr rfl) rfl (.tmp rfl) [] rfl ⟨rfl, rfl⟩))

end Go.Proofs.Ytcombgcjgdkbiaa.G
