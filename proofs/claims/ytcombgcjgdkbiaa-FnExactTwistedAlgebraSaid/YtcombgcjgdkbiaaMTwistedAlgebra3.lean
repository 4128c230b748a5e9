/- Functions of the program, as pure functions. -/
import Derived.Test.YtcombgcjgdkbiaaMTwistedAlgebra2
import Derived.Test.YtcombgcjgdkbiaaProg
/- spec.TwistedAlgebra, as a pure function. -/
set_option linter.unusedVariables false
namespace Go.Proofs.Ytcombgcjgdkbiaa.G
open Go Go.Sx Go.Proofs

def spec_TwistedAlgebra.b0 (g1 : Int) (i1 : Int) (table_1 : List (List Int)) (g2 : Nat → UInt8) : (Nat → UInt8) × Int → Option (LB ((Nat → UInt8) × Int)) := fun p => match p with | (out2, j1) => (bif (decide (j1 < g1)) then chk i1 6 (chk j1 6 (chk i1 table_1.length (chk j1 ((gt table_1 i1).length) (chk ((g2 (i1.toNat * 6 + j1.toNat)).toNat : Int) 6 (some (.next ((upd out2 (i1.toNat * 36 + j1.toNat * 6 + (g2 (i1.toNat * 6 + j1.toNat)).toNat) (UInt8.ofInt (gt (gt table_1 i1) j1))), (w64 (j1 + 1))))))))) else some (.brk (out2, j1)))

def spec_TwistedAlgebra.b1 (g1 : Int) (table_1 : List (List Int)) (g2 : Nat → UInt8) : (Nat → UInt8) × Int → Option (LB ((Nat → UInt8) × Int)) := fun p => match p with | (out1, i1) => (bif (decide (i1 < g1)) then (loop1 (spec_TwistedAlgebra.b0 g1 i1 table_1 g2) (out1, 0)).bind (fun p => match p with | (out2, j1) => some (.next (out2, (w64 (i1 + 1))))) else some (.brk (out1, i1)))

def spec_TwistedAlgebra.f (p1 : Int) (g1 : Int) (g2 : Nat → UInt8) (table_1 : List (List Int)) : Option (Int × Int × (Nat → UInt8) × (Nat → UInt8) × Int) := (G.spec_l06Twist.f p1 g1 g2 table_1).bind (fun r_1 => (bif (r_1 != 0) then some (0, 0, (fun _ => (0 : UInt8)), (fun _ => (0 : UInt8)), r_1) else (G.spec_l06Algebra.f p1 g1 g2).bind (fun p => match p with | (r_2, r_3, r_4, r_5) => (loop1 (spec_TwistedAlgebra.b1 g1 table_1 g2) (r_4, 0)).bind (fun p => match p with | (out1, i1) => some (r_2, r_3, out1, r_5, 0)))))

def spec_TwistedAlgebra.R (r : Int × Int × (Nat → UInt8) × (Nat → UInt8) × Int) (v : Value) (L : List Asn) : Prop := v = .tuple #[sval [.one (.int .i64 r.1), .one (.int .i64 r.2.1), .arr 216 (enf u8v r.2.2.1), .arr 6 (enf u8v r.2.2.2.1)], .int .i64 r.2.2.2.2] ∧ L = []

set_option maxRecDepth 100000 in
set_option maxHeartbeats 4000000 in
theorem spec_TwistedAlgebra.calls (w : World) (p1 : Int) (g1 : Int) (g2 : Nat → UInt8) (s1 : SV) (ss1 : List SV) (table_1 : List (List Int)) (h1 : ReadsM Ei (hp w) s1 ss1 table_1) :
    ∀ r, spec_TwistedAlgebra.f p1 g1 g2 table_1 = some r → Calls Try.prog 48 #[.int .i64 p1, sval [.one (.int .i64 g1), .arr 36 (enf u8v g2)], SV.v s1] w (Ret w (spec_TwistedAlgebra.R r)) := by

  refine calls_T (n := 56) (Γ := [(0, .int .i64 p1), (1, sval [.one (.int .i64 g1), .arr 36 (enf u8v g2)]), (2, SV.v s1)]) (R := spec_TwistedAlgebra.R) Try.func48 rfl rfl (Nat.le_of_ble_eq_true rfl) ⟨rfl, rfl, rfl, trivial⟩ ?_
  unfold spec_TwistedAlgebra.f
  refine TC.seq ?_
  refine TC.region ?_
  refine TL.box [.one (.int .i64 g1), .arr 36 (enf u8v g2)] rfl rfl rfl rfl fun b_1 => ?_
  refine TL.alloc [.one (.int .i64 0), .one (.int .i64 0), .arr 216 (enf u8v (fun _ => (0 : UInt8))), .arr 6 (enf u8v (fun _ => (0 : UInt8)))] rfl rfl Try.zeroValue45 rfl fun b_2 => ?_
  refine TL.assign rfl rfl (v := .int .i64 0) rfl ?_
  refine TL.done ?_
  refine TC.seq ?_
  refine TC.seq ?_
  refine TC.region ?_
  refine TL.move rfl rfl (v := .int .i64 p1) rfl ?_
  refine TL.loadM 0 2 (Src.box 1 rfl) Try.isAgg37 Try.sizeOf37 (mid := [.one (.int .i64 g1), .arr 36 (enf u8v g2)]) rfl rfl rfl rfl rfl rfl ?_
  refine TL.move rfl rfl (v := SV.v s1) rfl ?_
  refine TL.call (R := G.spec_l06Twist.R) Try.call106 rfl rfl rfl (fun w hS => G.spec_l06Twist.calls w p1 g1 g2 s1 ss1 table_1 ((RdM.old h1) w hS)) ?_
  rintro r_1 _ _ ⟨rfl, rfl⟩
  refine TL.assign rfl rfl (v := .int .i64 r_1) rfl ?_
  refine TL.done ?_
  refine TC.seq ?_
  refine TC.region ?_
  refine TL.move rfl rfl (v := .int .i64 r_1) rfl ?_
  refine TL.bin .i64 r_1 0 rfl rfl rfl rfl (v := .bool (r_1 != 0)) rfl ?_
  refine TL.done ?_
  refine TC.cond (b := (r_1 != 0)) rfl (fun c1 => ?_) (fun c2 => ?_)
  · refine TC.seq ?_
    refine TC.region ?_
    refine TL.buildS (segs0 := [.one (.int .i64 0), .one (.int .i64 0), .arr 216 (enf u8v (fun _ => (0 : UInt8))), .arr 6 (enf u8v (fun _ => (0 : UInt8)))]) (segs := [.one (.int .i64 0), .one (.int .i64 0), .arr 216 (enf u8v (fun _ => (0 : UInt8))), .arr 6 (enf u8v (fun _ => (0 : UInt8)))]) [1, 1, 216, 6] Try.underlying45 ⟨Try.sizeOf2, Try.sizeOf2, Try.sizeOf42, Try.sizeOf43, trivial⟩ Try.zeroValue45 rfl [] rfl (fun pl hpl => by subst hpl; exact rfl) rfl rfl ?_
    refine TL.move rfl rfl (v := .int .i64 r_1) rfl ?_
    refine TL.stM (news := [.one (.int .i64 0), .one (.int .i64 0), .arr 216 (enf u8v (fun _ => (0 : UInt8))), .arr 6 (enf u8v (fun _ => (0 : UInt8)))]) 0 0 4 rfl Try.sizeOf45 (ones_one rfl (ones_one rfl (ones_arr (fun _ => rfl) (ones_arr (fun _ => rfl) ones_nil)))) rfl rfl rfl rfl rfl rfl ?_
    refine TL.assign rfl rfl (v := .int .i64 r_1) rfl ?_
    refine TL.done ?_
    exact TC.retF (Fin.body (fin2 (.inr rfl) rfl (.cellN rfl (Src.box 0 rfl) Try.isAgg45 Try.sizeOf45 rfl) (.tmp rfl) [] rfl ⟨rfl, rfl⟩))
  · refine TC.skip ?_
    refine TC.seq ?_
    refine TC.region ?_
    refine TL.move rfl rfl (v := .int .i64 p1) rfl ?_
    refine TL.loadM 0 2 (Src.box 1 rfl) Try.isAgg37 Try.sizeOf37 (mid := [.one (.int .i64 g1), .arr 36 (enf u8v g2)]) rfl rfl rfl rfl rfl rfl ?_
    refine TL.call (R := G.spec_l06Algebra.R) Try.call96 rfl rfl rfl (fun w hS => G.spec_l06Algebra.calls w p1 g1 g2) ?_
    rintro ⟨r_2, r_3, r_4, r_5⟩ _ _ ⟨rfl, rfl⟩
    refine TL.alloc [.one (.int .i64 0), .one (.int .i64 0), .arr 216 (enf u8v (fun _ => (0 : UInt8))), .arr 6 (enf u8v (fun _ => (0 : UInt8)))] rfl rfl Try.zeroValue45 rfl fun b_3 => ?_
    refine TL.stM (news := [.one (.int .i64 r_2), .one (.int .i64 r_3), .arr 216 (enf u8v r_4), .arr 6 (enf u8v r_5)]) 0 0 4 rfl Try.sizeOf45 (ones_one rfl (ones_one rfl (ones_arr (fun _ => rfl) (ones_arr (fun _ => rfl) ones_nil)))) rfl rfl rfl rfl rfl rfl ?_
    refine TL.done ?_
    refine TC.seq ?_
    refine TC.seq ?_
    refine TC.region ?_
    refine TL.assign rfl rfl (v := .int .i64 0) rfl ?_
    refine TL.done ?_
    refine TC.loop1 (σ := (Nat → UInt8) × Int) (γ := Unit) (Γ' := (fun p q => match p, q with | (out1, i1), _ => [(2, SV.v s1), (4, bp b_1 0), (6, bp b_2 0), (9, bp b_3 0), (10, .int .i64 i1)])) (L' := (fun p q => match p, q with | (out1, i1), _ => [box b_1 37 [.one (.int .i64 g1), .arr 36 (enf u8v g2)], box b_2 45 [.one (.int .i64 0), .one (.int .i64 0), .arr 216 (enf u8v (fun _ => (0 : UInt8))), .arr 6 (enf u8v (fun _ => (0 : UInt8)))], box b_3 45 [.one (.int .i64 r_2), .one (.int .i64 r_3), .arr 216 (enf u8v out1), .arr 6 (enf u8v r_5)]])) (Γb := (fun p q => match p, q with | (out1, i1), _ => [(2, SV.v s1), (4, bp b_1 0), (6, bp b_2 0), (9, bp b_3 0), (10, .int .i64 i1)])) (Lb := (fun p q => match p, q with | (out1, i1), _ => [box b_1 37 [.one (.int .i64 g1), .arr 36 (enf u8v g2)], box b_2 45 [.one (.int .i64 0), .one (.int .i64 0), .arr 216 (enf u8v (fun _ => (0 : UInt8))), .arr 6 (enf u8v (fun _ => (0 : UInt8)))], box b_3 45 [.one (.int .i64 r_2), .one (.int .i64 r_3), .arr 216 (enf u8v out1), .arr 6 (enf u8v r_5)]])) ((r_4, 0)) (()) ⟨rfl, rfl, rfl, rfl, rfl, trivial⟩ [2, 1, 0] rfl ?_ ?_
    · rintro ⟨out1, i1⟩ _
      refine TC.seq ?_
      refine TC.seq ?_
      refine TC.region ?_
      refine TL.move rfl rfl (v := .int .i64 i1) rfl ?_
      refine TL.fa Try.underlying37 rfl Try.sizeOf2 rfl 0 rfl rfl rfl rfl ?_
      refine TL.load1 0 (Src.box 0 rfl) Try.isAgg2 rfl rfl rfl rfl rfl ?_
      refine TL.bin .i64 i1 g1 rfl rfl rfl rfl (v := .bool (decide (i1 < g1))) rfl ?_
      refine TL.done ?_
      refine TC.cond (b := (decide (i1 < g1))) rfl (fun c3 => ?_) (fun c4 => ?_)
      · refine TC.skip ?_
        refine TC.seq ?_
        refine TC.block (NoEx.loop1 rfl) ?_
        refine TC.seq ?_
        refine TC.region ?_
        refine TL.assign rfl rfl (v := .int .i64 0) rfl ?_
        refine TL.done ?_
        refine TC.loop1 (σ := (Nat → UInt8) × Int) (γ := Unit) (Γ' := (fun p q => match p, q with | (out2, j1), _ => [(2, SV.v s1), (4, bp b_1 0), (6, bp b_2 0), (9, bp b_3 0), (10, .int .i64 i1), (11, .int .i64 j1)])) (L' := (fun p q => match p, q with | (out2, j1), _ => [box b_1 37 [.one (.int .i64 g1), .arr 36 (enf u8v g2)], box b_2 45 [.one (.int .i64 0), .one (.int .i64 0), .arr 216 (enf u8v (fun _ => (0 : UInt8))), .arr 6 (enf u8v (fun _ => (0 : UInt8)))], box b_3 45 [.one (.int .i64 r_2), .one (.int .i64 r_3), .arr 216 (enf u8v out2), .arr 6 (enf u8v r_5)]])) (Γb := (fun p q => match p, q with | (out2, j1), _ => [(2, SV.v s1), (4, bp b_1 0), (6, bp b_2 0), (9, bp b_3 0), (10, .int .i64 i1), (11, .int .i64 j1)])) (Lb := (fun p q => match p, q with | (out2, j1), _ => [box b_1 37 [.one (.int .i64 g1), .arr 36 (enf u8v g2)], box b_2 45 [.one (.int .i64 0), .one (.int .i64 0), .arr 216 (enf u8v (fun _ => (0 : UInt8))), .arr 6 (enf u8v (fun _ => (0 : UInt8)))], box b_3 45 [.one (.int .i64 r_2), .one (.int .i64 r_3), .arr 216 (enf u8v out2), .arr 6 (enf u8v r_5)]])) ((out1, 0)) (()) ⟨rfl, rfl, rfl, rfl, rfl, rfl, trivial⟩ [0, 0, 0] rfl ?_ ?_
        · rintro ⟨out2, j1⟩ _
          refine TC.seq ?_
          refine TC.seq ?_
          refine TC.region ?_
          refine TL.move rfl rfl (v := .int .i64 j1) rfl ?_
          refine TL.fa Try.underlying37 rfl Try.sizeOf2 rfl 0 rfl rfl rfl rfl ?_
          refine TL.load1 0 (Src.box 0 rfl) Try.isAgg2 rfl rfl rfl rfl rfl ?_
          refine TL.bin .i64 j1 g1 rfl rfl rfl rfl (v := .bool (decide (j1 < g1))) rfl ?_
          refine TL.done ?_
          refine TC.cond (b := (decide (j1 < g1))) rfl (fun c5 => ?_) (fun c6 => ?_)
          · refine TC.skip ?_
            refine TC.seq ?_
            refine TC.block (NoEx.loop1 rfl) ?_
            refine TC.wk (Γ' := [(2, SV.v s1), (4, bp b_1 0), (6, bp b_2 0), (9, bp b_3 0), (10, .int .i64 i1), (11, .int .i64 j1), (29, .int .i64 j1), (30, bp b_1 0), (31, .int .i64 g1), (32, .bool (decide (j1 < g1)))]) ⟨rfl, rfl, rfl, rfl, rfl, rfl, rfl, rfl, rfl, rfl, trivial⟩ ?_
            refine TC.chk fun h2 => ?_
            refine TC.chk fun h3 => ?_
            refine TC.chk fun h4 => ?_
            refine TC.chk fun h5 => ?_
            refine TC.chk fun h6 => ?_
            refine TC.drawG [(2, SV.v s1), (4, bp b_1 0), (6, bp b_2 0), (9, bp b_3 0), (10, .int .i64 i1), (11, .int .i64 j1), (29, .int .i64 j1), (30, bp b_1 0), (31, .int .i64 g1), (32, .bool (decide (j1 < g1)))] [] ⟨rfl, rfl, rfl, rfl, rfl, rfl, rfl, rfl, rfl, rfl, trivial⟩ trivial (fun l_ g3 => [box b_1 37 [.one (.int .i64 g1), .arr 36 (enf u8v g2)], box b_2 45 [.one (.int .i64 0), .one (.int .i64 0), .arr 216 (enf u8v (fun _ => (0 : UInt8))), .arr 6 (enf u8v (fun _ => (0 : UInt8)))], (bif nb l_ 20 then box b_3 45 [.one (.int .i64 r_2), .one (.int .i64 r_3), .arr 216 (enf u8v (upd out2 (i1.toNat * 36 + j1.toNat * 6 + (g2 (i1.toNat * 6 + j1.toNat)).toNat) (UInt8.ofInt (gt (gt table_1 i1) j1)))), .arr 6 (enf u8v r_5)] else box b_3 45 [.one (.int .i64 r_2), .one (.int .i64 r_3), .arr 216 (enf u8v out2), .arr 6 (enf u8v r_5)])]) (fun g3 => [.int .i64 i1, .int .i64 j1, .int .i64 i1, .int .i64 j1, bp b_1 1, bp b_1 (1 + i1.toNat * 6), bp b_1 (1 + (i1.toNat * 6 + j1.toNat)), u8v (g2 (i1.toNat * 6 + j1.toNat)), SV.v s1, .int .i64 i1, ep s1 i1.toNat, SV.v (gt ss1 i1), .int .i64 j1, ep (gt ss1 i1) j1.toNat, .int .i64 (gt (gt table_1 i1) j1), u8v (UInt8.ofInt (gt (gt table_1 i1) j1)), bp b_3 2, bp b_3 (2 + i1.toNat * 36), bp b_3 (2 + (i1.toNat * 36 + j1.toNat * 6)), bp b_3 (2 + (i1.toNat * 36 + j1.toNat * 6 + (g2 (i1.toNat * 6 + j1.toNat)).toNat)), undef]) [[], [], [], [], [], [2, 4], [2, 3, 4, 5], [2, 3, 4, 5, 6], [], [], [8, 9], [8, 9, 10], [], [8, 9, 10, 11, 12], [8, 9, 10, 11, 12, 13], [8, 9, 10, 11, 12, 13, 14], [], [0, 16], [0, 1, 16, 17], [0, 1, 2, 3, 4, 5, 6, 7, 8, 9, 10, 11, 12, 13, 14, 15, 16, 17, 18], [0, 1, 2, 3, 4, 5, 6, 7, 8, 9, 10, 11, 12, 13, 14, 15, 16, 17, 18, 19]] [[some false, none, none, none, none, none, none, none, none, none, none, none, none, none, none, none, none, some false, some false, some false, some false], [none, some false, none, none, none, none, none, none, none, none, none, none, none, none, none, none, none, none, some false, some false, some false], [none, none, some false, none, none, some false, some false, some false, none, none, none, none, none, none, none, none, none, none, none, some false, some false], [none, none, none, some false, none, none, some false, some false, none, none, none, none, none, none, none, none, none, none, none, some false, some false], [none, none, none, none, some false, some false, some false, some false, none, none, none, none, none, none, none, none, none, none, none, some false, some false], [none, none, some true, none, some true, some false, some false, some false, none, none, none, none, none, none, none, none, none, none, none, some false, some false], [none, none, some true, some true, some true, some true, some false, some false, none, none, none, none, none, none, none, none, none, none, none, some false, some false], [none, none, some true, some true, some true, some true, some true, some false, none, none, none, none, none, none, none, none, none, none, none, some false, some false], [none, none, none, none, none, none, none, none, some false, none, some false, some false, none, some false, some false, some false, none, none, none, some false, some false], [none, none, none, none, none, none, none, none, none, some false, some false, some false, none, some false, some false, some false, none, none, none, some false, some false], [none, none, none, none, none, none, none, none, some true, some true, some false, some false, none, some false, some false, some false, none, none, none, some false, some false], [none, none, none, none, none, none, none, none, some true, some true, some true, some false, none, some false, some false, some false, none, none, none, some false, some false], [none, none, none, none, none, none, none, none, none, none, none, none, some false, some false, some false, some false, none, none, none, some false, some false], [none, none, none, none, none, none, none, none, some true, some true, some true, some true, some true, some false, some false, some false, none, none, none, some false, some false], [none, none, none, none, none, none, none, none, some true, some true, some true, some true, some true, some true, some false, some false, none, none, none, some false, some false], [none, none, none, none, none, none, none, none, some true, some true, some true, some true, some true, some true, some true, some false, none, none, none, some false, some false], [none, none, none, none, none, none, none, none, none, none, none, none, none, none, none, none, some false, some false, some false, some false, some false], [some true, none, none, none, none, none, none, none, none, none, none, none, none, none, none, none, some true, some false, some false, some false, some false], [some true, some true, none, none, none, none, none, none, none, none, none, none, none, none, none, none, some true, some true, some false, some false, some false], [some true, some true, some true, some true, some true, some true, some true, some true, some true, some true, some true, some true, some true, some true, some true, some true, some true, some true, some true, some false, some false], [some true, some true, some true, some true, some true, some true, some true, some true, some true, some true, some true, some true, some true, some true, some true, some true, some true, some true, some true, some true, some false]] (by kernel_rfl) (fun _ => rfl) rfl rfl rfl rfl rfl (fun _ _ => ⟨⟨⟨⟨⟨⟨⟨⟨⟨⟨⟨⟨⟨⟨⟨⟨⟨⟨⟨⟨⟨trivial, rfl⟩, rfl⟩, rfl⟩, rfl⟩, rfl⟩, rfl⟩, rfl⟩, rfl⟩, rfl⟩, rfl⟩, rfl⟩, rfl⟩, rfl⟩, rfl⟩, rfl⟩, rfl⟩, rfl⟩, rfl⟩, rfl⟩, rfl⟩, rfl⟩) 0 [0, 0, 0] (fun _ => rfl) ?_ ?_
            · refine ⟨rfl, ?_, rfl, ?_, rfl, ?_, rfl, ?_, rfl, ?_, rfl, ?_, rfl, ?_, rfl, ?_, rfl, ?_, rfl, ?_, rfl, ?_, rfl, ?_, rfl, ?_, rfl, ?_, rfl, ?_, rfl, ?_, rfl, ?_, rfl, ?_, rfl, ?_, rfl, ?_, rfl, ?_, trivial⟩
              · intro b1_ b2_ b3_ b4_ b5_ b6_ b7_ b8_ b9_ b10_ b11_ b12_ b13_ b14_ b15_ b16_ g3
                refine TL.move rfl rfl (v := .int .i64 i1) rfl ?_
                refine TL.done ?_
                exact TC.nrm () [] ⟨rfl, trivial⟩ [0, 0, 0] rfl
              · intro b0_ b2_ b3_ b4_ b5_ b6_ b7_ b8_ b9_ b10_ b11_ b12_ b13_ b14_ b15_ b16_ b17_ g3
                refine TL.move rfl rfl (v := .int .i64 j1) rfl ?_
                refine TL.done ?_
                exact TC.nrm () [] ⟨rfl, trivial⟩ [0, 0, 0] rfl
              · intro b0_ b1_ b3_ b4_ b8_ b9_ b10_ b11_ b12_ b13_ b14_ b15_ b16_ b17_ b18_ g3
                refine TL.move rfl rfl (v := .int .i64 i1) rfl ?_
                refine TL.done ?_
                exact TC.nrm () [] ⟨rfl, trivial⟩ [0, 0, 0] rfl
              · intro b0_ b1_ b2_ b4_ b5_ b8_ b9_ b10_ b11_ b12_ b13_ b14_ b15_ b16_ b17_ b18_ g3
                refine TL.move rfl rfl (v := .int .i64 j1) rfl ?_
                refine TL.done ?_
                exact TC.nrm () [] ⟨rfl, trivial⟩ [0, 0, 0] rfl
              · intro b0_ b1_ b2_ b3_ b8_ b9_ b10_ b11_ b12_ b13_ b14_ b15_ b16_ b17_ b18_ g3
                refine TL.asL [box b_1 37 [.one (.int .i64 g1), .arr 36 (enf u8v g2)], box b_2 45 [.one (.int .i64 0), .one (.int .i64 0), .arr 216 (enf u8v (fun _ => (0 : UInt8))), .arr 6 (enf u8v (fun _ => (0 : UInt8)))], box b_3 45 [.one (.int .i64 r_2), .one (.int .i64 r_3), .arr 216 (enf u8v out2), .arr 6 (enf u8v r_5)]] rfl ?_
                refine TL.fa Try.underlying37 rfl Try.sizeOf33 rfl 1 rfl rfl rfl rfl ?_
                refine TL.done ?_
                exact TC.nrm () [] ⟨rfl, trivial⟩ [0, 0, 0] rfl
              · intro b0_ b1_ b3_ b8_ b9_ b10_ b11_ b12_ b13_ b14_ b15_ b16_ b17_ b18_ g3
                refine TL.asL [box b_1 37 [.one (.int .i64 g1), .arr 36 (enf u8v g2)], box b_2 45 [.one (.int .i64 0), .one (.int .i64 0), .arr 216 (enf u8v (fun _ => (0 : UInt8))), .arr 6 (enf u8v (fun _ => (0 : UInt8)))], box b_3 45 [.one (.int .i64 r_2), .one (.int .i64 r_3), .arr 216 (enf u8v out2), .arr 6 (enf u8v r_5)]] rfl ?_
                refine TL.ixa i1 (1 + i1.toNat * 6) h2 Try.underlying33 Try.sizeOf32 rfl rfl rfl rfl (by omega) ?_
                refine TL.done ?_
                exact TC.nrm () [] ⟨rfl, trivial⟩ [0, 0, 0] rfl
              · intro b0_ b1_ b8_ b9_ b10_ b11_ b12_ b13_ b14_ b15_ b16_ b17_ b18_ g3
                refine TL.asL [box b_1 37 [.one (.int .i64 g1), .arr 36 (enf u8v g2)], box b_2 45 [.one (.int .i64 0), .one (.int .i64 0), .arr 216 (enf u8v (fun _ => (0 : UInt8))), .arr 6 (enf u8v (fun _ => (0 : UInt8)))], box b_3 45 [.one (.int .i64 r_2), .one (.int .i64 r_3), .arr 216 (enf u8v out2), .arr 6 (enf u8v r_5)]] rfl ?_
                refine TL.ixa j1 (1 + (i1.toNat * 6 + j1.toNat)) h3 Try.underlying32 Try.sizeOf5 rfl rfl rfl rfl (by omega) ?_
                refine TL.done ?_
                exact TC.nrm () [] ⟨rfl, trivial⟩ [0, 0, 0] rfl
              · intro b0_ b1_ b8_ b9_ b10_ b11_ b12_ b13_ b14_ b15_ b16_ b17_ b18_ g3
                refine TL.asL [box b_1 37 [.one (.int .i64 g1), .arr 36 (enf u8v g2)], box b_2 45 [.one (.int .i64 0), .one (.int .i64 0), .arr 216 (enf u8v (fun _ => (0 : UInt8))), .arr 6 (enf u8v (fun _ => (0 : UInt8)))], box b_3 45 [.one (.int .i64 r_2), .one (.int .i64 r_3), .arr 216 (enf u8v out2), .arr 6 (enf u8v r_5)]] rfl ?_
                refine TL.loadA (i1.toNat * 6 + j1.toNat) 1 (Src.box 0 rfl) Try.isAgg5 rfl (by omega) (v := u8v (g2 (i1.toNat * 6 + j1.toNat))) rfl (st := 1) rfl (by omega) rfl rfl rfl ?_
                refine TL.done ?_
                exact TC.nrm () [] ⟨rfl, trivial⟩ [0, 0, 0] rfl
              · intro b0_ b1_ b2_ b3_ b4_ b5_ b6_ b7_ b9_ b12_ b16_ b17_ b18_ g3
                refine TL.move rfl rfl (v := SV.v s1) rfl ?_
                refine TL.done ?_
                exact TC.nrm () [] ⟨rfl, trivial⟩ [0, 0, 0] rfl
              · intro b0_ b1_ b2_ b3_ b4_ b5_ b6_ b7_ b8_ b12_ b16_ b17_ b18_ g3
                refine TL.move rfl rfl (v := .int .i64 i1) rfl ?_
                refine TL.done ?_
                exact TC.nrm () [] ⟨rfl, trivial⟩ [0, 0, 0] rfl
              · intro b0_ b1_ b2_ b3_ b4_ b5_ b6_ b7_ b12_ b16_ b17_ b18_ g3
                refine TL.asL [box b_1 37 [.one (.int .i64 g1), .arr 36 (enf u8v g2)], box b_2 45 [.one (.int .i64 0), .one (.int .i64 0), .arr 216 (enf u8v (fun _ => (0 : UInt8))), .arr 6 (enf u8v (fun _ => (0 : UInt8)))], box b_3 45 [.one (.int .i64 r_2), .one (.int .i64 r_3), .arr 216 (enf u8v out2), .arr 6 (enf u8v r_5)]] rfl ?_
                refine TL.ixsM i1 i1.toNat (RdM.old h1) h4 Try.underlying53 Try.sizeOf22 rfl rfl rfl rfl (by omega) ?_
                refine TL.done ?_
                exact TC.nrm () [] ⟨rfl, trivial⟩ [0, 0, 0] rfl
              · intro b0_ b1_ b2_ b3_ b4_ b5_ b6_ b7_ b12_ b16_ b17_ b18_ g3
                refine TL.asL [box b_1 37 [.one (.int .i64 g1), .arr 36 (enf u8v g2)], box b_2 45 [.one (.int .i64 0), .one (.int .i64 0), .arr 216 (enf u8v (fun _ => (0 : UInt8))), .arr 6 (enf u8v (fun _ => (0 : UInt8)))], box b_3 45 [.one (.int .i64 r_2), .one (.int .i64 r_3), .arr 216 (enf u8v out2), .arr 6 (enf u8v r_5)]] rfl ?_
                refine TL.loadM2 (RdM.old h1) Try.isAgg22 i1 h4 (by omega) rfl rfl rfl ?_
                refine TL.done ?_
                exact TC.nrm () [] ⟨rfl, trivial⟩ [0, 0, 0] rfl
              · intro b0_ b1_ b2_ b3_ b4_ b5_ b6_ b7_ b8_ b9_ b10_ b11_ b16_ b17_ b18_ g3
                refine TL.move rfl rfl (v := .int .i64 j1) rfl ?_
                refine TL.done ?_
                exact TC.nrm () [] ⟨rfl, trivial⟩ [0, 0, 0] rfl
              · intro b0_ b1_ b2_ b3_ b4_ b5_ b6_ b7_ b16_ b17_ b18_ g3
                refine TL.asL [box b_1 37 [.one (.int .i64 g1), .arr 36 (enf u8v g2)], box b_2 45 [.one (.int .i64 0), .one (.int .i64 0), .arr 216 (enf u8v (fun _ => (0 : UInt8))), .arr 6 (enf u8v (fun _ => (0 : UInt8)))], box b_3 45 [.one (.int .i64 r_2), .one (.int .i64 r_3), .arr 216 (enf u8v out2), .arr 6 (enf u8v r_5)]] rfl ?_
                refine TL.ixs j1 j1.toNat (RdM.inn (RdM.old h1) h4) h5 Try.underlying22 Try.sizeOf2 rfl rfl rfl rfl (by omega) ?_
                refine TL.done ?_
                exact TC.nrm () [] ⟨rfl, trivial⟩ [0, 0, 0] rfl
              · intro b0_ b1_ b2_ b3_ b4_ b5_ b6_ b7_ b16_ b17_ b18_ g3
                refine TL.asL [box b_1 37 [.one (.int .i64 g1), .arr 36 (enf u8v g2)], box b_2 45 [.one (.int .i64 0), .one (.int .i64 0), .arr 216 (enf u8v (fun _ => (0 : UInt8))), .arr 6 (enf u8v (fun _ => (0 : UInt8)))], box b_3 45 [.one (.int .i64 r_2), .one (.int .i64 r_3), .arr 216 (enf u8v out2), .arr 6 (enf u8v r_5)]] rfl ?_
                refine TL.loadE (RdM.inn (RdM.old h1) h4) Try.isAgg2 j1.toNat 0 (gt_spec h5) (v := .int .i64 (gt (gt table_1 i1) j1)) rfl (by simp only [show Ei.sz = 1 from rfl]; omega) rfl rfl rfl ?_
                refine TL.done ?_
                exact TC.nrm () [] ⟨rfl, trivial⟩ [0, 0, 0] rfl
              · intro b0_ b1_ b2_ b3_ b4_ b5_ b6_ b7_ b16_ b17_ b18_ g3
                refine TL.conv .i64 .u8 (gt (gt table_1 i1) j1) _ rfl rfl rfl Try.underlying2 Try.underlying5 (v := u8v (UInt8.ofInt (gt (gt table_1 i1) j1))) (conv_i64_u8 _) ?_
                refine TL.done ?_
                exact TC.nrm () [] ⟨rfl, trivial⟩ [0, 0, 0] rfl
              · intro b0_ b1_ b2_ b3_ b4_ b5_ b6_ b7_ b8_ b9_ b10_ b11_ b12_ b13_ b14_ b15_ g3
                refine TL.asL [box b_1 37 [.one (.int .i64 g1), .arr 36 (enf u8v g2)], box b_2 45 [.one (.int .i64 0), .one (.int .i64 0), .arr 216 (enf u8v (fun _ => (0 : UInt8))), .arr 6 (enf u8v (fun _ => (0 : UInt8)))], box b_3 45 [.one (.int .i64 r_2), .one (.int .i64 r_3), .arr 216 (enf u8v out2), .arr 6 (enf u8v r_5)]] rfl ?_
                refine TL.fa Try.underlying45 rfl Try.sizeOf42 rfl 2 rfl rfl rfl rfl ?_
                refine TL.done ?_
                exact TC.nrm () [] ⟨rfl, trivial⟩ [0, 0, 0] rfl
              · intro b1_ b2_ b3_ b4_ b5_ b6_ b7_ b8_ b9_ b10_ b11_ b12_ b13_ b14_ b15_ g3
                refine TL.asL [box b_1 37 [.one (.int .i64 g1), .arr 36 (enf u8v g2)], box b_2 45 [.one (.int .i64 0), .one (.int .i64 0), .arr 216 (enf u8v (fun _ => (0 : UInt8))), .arr 6 (enf u8v (fun _ => (0 : UInt8)))], box b_3 45 [.one (.int .i64 r_2), .one (.int .i64 r_3), .arr 216 (enf u8v out2), .arr 6 (enf u8v r_5)]] rfl ?_
                refine TL.ixa i1 (2 + i1.toNat * 36) h2 Try.underlying42 Try.sizeOf33 rfl rfl rfl rfl (by omega) ?_
                refine TL.done ?_
                exact TC.nrm () [] ⟨rfl, trivial⟩ [0, 0, 0] rfl
              · intro b2_ b3_ b4_ b5_ b6_ b7_ b8_ b9_ b10_ b11_ b12_ b13_ b14_ b15_ g3
                refine TL.asL [box b_1 37 [.one (.int .i64 g1), .arr 36 (enf u8v g2)], box b_2 45 [.one (.int .i64 0), .one (.int .i64 0), .arr 216 (enf u8v (fun _ => (0 : UInt8))), .arr 6 (enf u8v (fun _ => (0 : UInt8)))], box b_3 45 [.one (.int .i64 r_2), .one (.int .i64 r_3), .arr 216 (enf u8v out2), .arr 6 (enf u8v r_5)]] rfl ?_
                refine TL.ixa j1 (2 + (i1.toNat * 36 + j1.toNat * 6)) h3 Try.underlying33 Try.sizeOf32 rfl rfl rfl rfl (by omega) ?_
                refine TL.done ?_
                exact TC.nrm () [] ⟨rfl, trivial⟩ [0, 0, 0] rfl
              · intro g3
                refine TL.asL [box b_1 37 [.one (.int .i64 g1), .arr 36 (enf u8v g2)], box b_2 45 [.one (.int .i64 0), .one (.int .i64 0), .arr 216 (enf u8v (fun _ => (0 : UInt8))), .arr 6 (enf u8v (fun _ => (0 : UInt8)))], box b_3 45 [.one (.int .i64 r_2), .one (.int .i64 r_3), .arr 216 (enf u8v out2), .arr 6 (enf u8v r_5)]] rfl ?_
                refine TL.ixa ((g2 (i1.toNat * 6 + j1.toNat)).toNat : Int) (2 + (i1.toNat * 36 + j1.toNat * 6 + (g2 (i1.toNat * 6 + j1.toNat)).toNat)) h6 Try.underlying32 Try.sizeOf5 rfl rfl rfl rfl (by omega) ?_
                refine TL.done ?_
                exact TC.nrm () [] ⟨rfl, trivial⟩ [0, 0, 0] rfl
              · intro g3
                refine TL.asL [box b_1 37 [.one (.int .i64 g1), .arr 36 (enf u8v g2)], box b_2 45 [.one (.int .i64 0), .one (.int .i64 0), .arr 216 (enf u8v (fun _ => (0 : UInt8))), .arr 6 (enf u8v (fun _ => (0 : UInt8)))], box b_3 45 [.one (.int .i64 r_2), .one (.int .i64 r_3), .arr 216 (enf u8v out2), .arr 6 (enf u8v r_5)]] rfl ?_
                refine TL.stA (e := u8v) (z := (UInt8.ofInt (gt (gt table_1 i1) j1))) 2 2 (i1.toNat * 36 + j1.toNat * 6 + (g2 (i1.toNat * 6 + j1.toNat)).toNat) rfl Try.sizeOf5 rfl (by omega) (s := 2) rfl (by omega) rfl rfl rfl rfl rfl ?_
                refine TL.done ?_
                exact TC.nrm () [] trivial [0, 0, 0] rfl
            · intro g3
              refine TC.asL [box b_1 37 [.one (.int .i64 g1), .arr 36 (enf u8v g2)], box b_2 45 [.one (.int .i64 0), .one (.int .i64 0), .arr 216 (enf u8v (fun _ => (0 : UInt8))), .arr 6 (enf u8v (fun _ => (0 : UInt8)))], box b_3 45 [.one (.int .i64 r_2), .one (.int .i64 r_3), .arr 216 (enf u8v (upd out2 (i1.toNat * 36 + j1.toNat * 6 + (g2 (i1.toNat * 6 + j1.toNat)).toNat) (UInt8.ofInt (gt (gt table_1 i1) j1)))), .arr 6 (enf u8v r_5)]] rfl ?_
              refine TC.region ?_
              refine TL.move rfl rfl (v := .int .i64 j1) rfl ?_
              refine TL.bin .i64 j1 1 rfl rfl rfl rfl (v := .int .i64 (w64 (j1 + 1))) rfl ?_
              refine TL.assign rfl rfl (v := .int .i64 (w64 (j1 + 1))) rfl ?_
              refine TL.done ?_
              exact TC.next1 (((upd out2 (i1.toNat * 36 + j1.toNat * 6 + (g2 (i1.toNat * 6 + j1.toNat)).toNat) (UInt8.ofInt (gt (gt table_1 i1) j1))), (w64 (j1 + 1)))) (()) ⟨rfl, rfl, rfl, rfl, rfl, rfl, trivial⟩ [0, 0, 0] rfl
          · exact TC.brk1 ((out2, j1)) (()) ⟨rfl, rfl, rfl, rfl, rfl, rfl, trivial⟩ [0, 0, 0] rfl
        · rintro ⟨out2, j1⟩ _
          refine TC.region ?_
          refine TL.move rfl rfl (v := .int .i64 i1) rfl ?_
          refine TL.bin .i64 i1 1 rfl rfl rfl rfl (v := .int .i64 (w64 (i1 + 1))) rfl ?_
          refine TL.assign rfl rfl (v := .int .i64 (w64 (i1 + 1))) rfl ?_
          refine TL.done ?_
          exact TC.next1 ((out2, (w64 (i1 + 1)))) (()) ⟨rfl, rfl, rfl, rfl, rfl, trivial⟩ [0, 0, 0] rfl
      · exact TC.brk1 ((out1, i1)) (()) ⟨rfl, rfl, rfl, rfl, rfl, trivial⟩ [0, 0, 0] rfl
    · rintro ⟨out1, i1⟩ _
      refine TC.seq ?_
      refine TC.region ?_
      refine TL.loadM 0 4 (Src.box 2 rfl) Try.isAgg45 Try.sizeOf45 (mid := [.one (.int .i64 r_2), .one (.int .i64 r_3), .arr 216 (enf u8v out1), .arr 6 (enf u8v r_5)]) rfl rfl rfl rfl rfl rfl ?_
      refine TL.stM (news := [.one (.int .i64 r_2), .one (.int .i64 r_3), .arr 216 (enf u8v out1), .arr 6 (enf u8v r_5)]) 1 0 4 rfl Try.sizeOf45 (ones_one rfl (ones_one rfl (ones_arr (fun _ => rfl) (ones_arr (fun _ => rfl) ones_nil)))) rfl rfl rfl rfl rfl rfl ?_
      refine TL.assign rfl rfl (v := .int .i64 0) rfl ?_
      refine TL.done ?_
      exact TC.retF (Fin.body (fin2 (.inr rfl) rfl (.cellN rfl (Src.box 1 rfl) Try.isAgg45 Try.sizeOf45 rfl) (.tmp rfl) [] rfl ⟨rfl, rfl⟩))

end Go.Proofs.Ytcombgcjgdkbiaa.G

/- impl.Group).times, as a pure function. -/
set_option linter.unusedVariables false
namespace Go.Proofs.Ytcombgcjgdkbiaa.G
open Go Go.Sx Go.Proofs

def impl_Group_times.f (g1 : Int) (g2 : Nat → UInt8) (i1 : Int) (j1 : Int) : Option Int := chk i1 6 (chk j1 6 (some ((g2 (i1.toNat * 6 + j1.toNat)).toNat : Int)))

def impl_Group_times.R (r : Int) (v : Value) (L : List Asn) : Prop := v = .int .i64 r ∧ L = []

set_option maxRecDepth 100000 in
set_option maxHeartbeats 4000000 in
theorem impl_Group_times.calls (w : World) (b_1 : Nat) (g1 : Int) (g2 : Nat → UInt8) (i1 : Int) (j1 : Int) (h1 : At (hp w) b_1 [.one (.int .i64 g1), .arr 36 (enf u8v g2)]) :
    ∀ r, impl_Group_times.f g1 g2 i1 j1 = some r → Calls Try.prog 66 #[bp b_1 0, .int .i64 i1, .int .i64 j1] w (Ret w (impl_Group_times.R r)) := by

  refine calls_T (n := 16) (Γ := [(0, bp b_1 0), (1, .int .i64 i1), (2, .int .i64 j1)]) (R := impl_Group_times.R) Try.func66 rfl rfl (Nat.le_of_ble_eq_true rfl) ⟨rfl, rfl, rfl, trivial⟩ ?_
  unfold impl_Group_times.f
  refine TC.seq ?_
  refine TC.region ?_
  refine TL.assign rfl rfl (v := .int .i64 0) rfl ?_
  refine TL.done ?_
  refine TC.seq ?_
  refine TC.region ?_
  refine TL.move rfl rfl (v := bp b_1 0) rfl ?_
  refine TL.move rfl rfl (v := .int .i64 i1) rfl ?_
  refine TL.move rfl rfl (v := .int .i64 j1) rfl ?_
  refine TL.nilCheck rfl rfl rfl ?_
  refine TL.fa Try.underlying37 rfl Try.sizeOf33 rfl 1 rfl rfl rfl rfl ?_
  refine TL.chk fun h2 => ?_
  refine TL.ixa i1 (1 + i1.toNat * 6) h2 Try.underlying33 Try.sizeOf32 rfl rfl rfl rfl (by omega) ?_
  refine TL.chk fun h3 => ?_
  refine TL.ixa j1 (1 + (i1.toNat * 6 + j1.toNat)) h3 Try.underlying32 Try.sizeOf5 rfl rfl rfl rfl (by omega) ?_
  refine TL.loadA (i1.toNat * 6 + j1.toNat) 1 (Src.at h1) Try.isAgg5 rfl (by omega) (v := u8v (g2 (i1.toNat * 6 + j1.toNat))) rfl (st := 1) rfl (by omega) rfl rfl rfl ?_
  refine TL.conv .u8 .i64 ((g2 (i1.toNat * 6 + j1.toNat)).toNat : Int) _ rfl rfl rfl Try.underlying5 Try.underlying3 (v := .int .i64 ((g2 (i1.toNat * 6 + j1.toNat)).toNat : Int)) (conv_u8_i64 _) ?_
  refine TL.assign rfl rfl (v := .int .i64 ((g2 (i1.toNat * 6 + j1.toNat)).toNat : Int)) rfl ?_
  refine TL.done ?_
  exact TC.retF (Fin.body (fin1 (.inr rfl) rfl (.tmp rfl) [] rfl ⟨rfl, rfl⟩))

end Go.Proofs.Ytcombgcjgdkbiaa.G

/- impl.Group).n, as a pure function. -/
set_option linter.unusedVariables false
namespace Go.Proofs.Ytcombgcjgdkbiaa.G
open Go Go.Sx Go.Proofs

def impl_Group_n.f (g1 : Int) (g2 : Nat → UInt8) : Option Int := some g1

def impl_Group_n.R (r : Int) (v : Value) (L : List Asn) : Prop := v = .int .i64 r ∧ L = []

set_option maxRecDepth 100000 in
set_option maxHeartbeats 4000000 in
theorem impl_Group_n.calls (w : World) (b_1 : Nat) (g1 : Int) (g2 : Nat → UInt8) (h1 : At (hp w) b_1 [.one (.int .i64 g1), .arr 36 (enf u8v g2)]) :
    ∀ r, impl_Group_n.f g1 g2 = some r → Calls Try.prog 65 #[bp b_1 0] w (Ret w (impl_Group_n.R r)) := by

  refine calls_T (n := 7) (Γ := [(0, bp b_1 0)]) (R := impl_Group_n.R) Try.func65 rfl rfl (Nat.le_of_ble_eq_true rfl) ⟨rfl, trivial⟩ ?_
  unfold impl_Group_n.f
  refine TC.seq ?_
  refine TC.region ?_
  refine TL.assign rfl rfl (v := .int .i64 0) rfl ?_
  refine TL.done ?_
  refine TC.seq ?_
  refine TC.region ?_
  refine TL.move rfl rfl (v := bp b_1 0) rfl ?_
  refine TL.nilCheck rfl rfl rfl ?_
  refine TL.fa Try.underlying37 rfl Try.sizeOf2 rfl 0 rfl rfl rfl rfl ?_
  refine TL.load1 0 (Src.at h1) Try.isAgg2 rfl rfl rfl rfl rfl ?_
  refine TL.assign rfl rfl (v := .int .i64 g1) rfl ?_
  refine TL.done ?_
  exact TC.retF (Fin.body (fin1 (.inr rfl) rfl (.tmp rfl) [] rfl ⟨rfl, rfl⟩))

end Go.Proofs.Ytcombgcjgdkbiaa.G

/- impl.built, as a pure function. -/
set_option linter.unusedVariables false
namespace Go.Proofs.Ytcombgcjgdkbiaa.G
open Go Go.Sx Go.Proofs

def impl_built.b0 (n_1 : Int) (product1 : Int → Int → Option Int) (x1 : Int) : (Nat → UInt8) × Int → Option (LB ((Nat → UInt8) × Int)) := fun p => match p with | (a_2, x2) => (bif (decide (x2 < n_1)) then (product1 x1 x2).bind (fun r_1 => ((bif (decide (r_1 ≥ 0)) then chk x1 6 (chk x2 6 (chk r_1 6 (some (upd a_2 (x1.toNat * 36 + x2.toNat * 6 + r_1.toNat) (1 : UInt8))))) else some a_2)).bind (fun a_3 => some (.next (a_3, (w64 (x2 + 1)))))) else some (.brk (a_2, x2)))

def impl_built.b1 (n_1 : Int) (product1 : Int → Int → Option Int) : (Nat → UInt8) × Int → Option (LB ((Nat → UInt8) × Int)) := fun p => match p with | (a_1, x1) => (bif (decide (x1 < n_1)) then (loop1 (impl_built.b0 n_1 product1 x1) (a_1, 0)).bind (fun p => match p with | (a_2, x2) => some (.next (a_2, (w64 (x1 + 1))))) else some (.brk (a_1, x1)))

def impl_built.f (p1 : Int) (n_1 : Int) (form1 : Nat → UInt8) (product1 : Int → Int → Option Int) : Option (Int × Int × (Nat → UInt8) × (Nat → UInt8)) := (loop1 (impl_built.b1 n_1 product1) ((fun _ => (0 : UInt8)), 0)).bind (fun p => match p with | (a_1, x1) => some (p1, n_1, a_1, form1))

def impl_built.R (r : Int × Int × (Nat → UInt8) × (Nat → UInt8)) (v : Value) (L : List Asn) : Prop := v = sval [.one (.int .i64 r.1), .one (.int .i64 r.2.1), .arr 216 (enf u8v r.2.2.1), .arr 6 (enf u8v r.2.2.2)] ∧ L = []

set_option maxRecDepth 100000 in
set_option maxHeartbeats 4000000 in
theorem impl_built.calls (w : World) (p1 : Int) (n_1 : Int) (form1 : Nat → UInt8) (f1 : Nat) (fst1 : List Value) (cap1 : List Value) (product1 : Int → Int → Option Int) (hc1 : ∀ (args_ : Array Value) (w_ : World), (callFunc f1 args_).run Try.prog w_ = .ok (.enter f1 args_) w_) (hf1 : ∀ w_, Hle (hp w) (hp w_) → ∀ (x0_ : Int) (x1_ : Int), ∀ r_, product1 x0_ x1_ = some r_ → Calls Try.prog f1 (fst1 ++ ([.int .i64 x0_, .int .i64 x1_] : List Value) ++ cap1).toArray w_ (Ret w_ (fun (v_ : Value) (L_ : List Asn) => v_ = .int .i64 r_ ∧ L_ = []))) :
    ∀ r, impl_built.f p1 n_1 form1 product1 = some r → Calls Try.prog 79 #[.int .i64 p1, .int .i64 n_1, sval [.arr 6 (enf u8v form1)], .func (.func f1) fst1.toArray cap1.toArray] w (Ret w (impl_built.R r)) := by

  refine calls_T (n := 41) (Γ := [(0, .int .i64 p1), (1, .int .i64 n_1), (2, sval [.arr 6 (enf u8v form1)]), (3, .func (.func f1) fst1.toArray cap1.toArray)]) (R := impl_built.R) Try.func79 rfl rfl (Nat.le_of_ble_eq_true rfl) ⟨rfl, rfl, rfl, rfl, trivial⟩ ?_
  unfold impl_built.f
  refine TC.seq ?_
  refine TC.region ?_
  refine TL.box [.arr 6 (enf u8v form1)] rfl rfl rfl rfl fun b_1 => ?_
  refine TL.alloc [.one (.int .i64 0), .one (.int .i64 0), .arr 216 (enf u8v (fun _ => (0 : UInt8))), .arr 6 (enf u8v (fun _ => (0 : UInt8)))] rfl rfl Try.zeroValue45 rfl fun b_2 => ?_
  refine TL.done ?_
  refine TC.seq ?_
  refine TC.region ?_
  refine TL.move rfl rfl (v := .int .i64 p1) rfl ?_
  refine TL.move rfl rfl (v := .int .i64 n_1) rfl ?_
  refine TL.loadM 0 1 (Src.box 1 rfl) Try.isAgg43 Try.sizeOf43 (mid := [.arr 6 (enf u8v form1)]) rfl rfl rfl rfl rfl rfl ?_
  refine TL.buildS (segs0 := [.one (.int .i64 0), .one (.int .i64 0), .arr 216 (enf u8v (fun _ => (0 : UInt8))), .arr 6 (enf u8v (fun _ => (0 : UInt8)))]) (segs := [.one (.int .i64 p1), .one (.int .i64 n_1), .arr 216 (enf u8v (fun _ => (0 : UInt8))), .arr 6 (enf u8v form1)]) [1, 1, 216, 6] Try.underlying45 ⟨Try.sizeOf2, Try.sizeOf2, Try.sizeOf42, Try.sizeOf43, trivial⟩ Try.zeroValue45 rfl [(0, .int .i64 p1), (1, .int .i64 n_1), (3, sval [.arr 6 (enf u8v form1)])] rfl (fun pl hpl => by subst hpl; exact fill_one 0 rfl rfl rfl rfl (fill_one 1 rfl rfl rfl rfl (fill_mid (news := [.arr 6 (enf u8v form1)]) 3 1 rfl rfl rfl rfl (rfl)))) rfl rfl ?_
  refine TL.alloc [.one (.int .i64 0), .one (.int .i64 0), .arr 216 (enf u8v (fun _ => (0 : UInt8))), .arr 6 (enf u8v (fun _ => (0 : UInt8)))] rfl rfl Try.zeroValue45 rfl fun b_3 => ?_
  refine TL.stM (news := [.one (.int .i64 p1), .one (.int .i64 n_1), .arr 216 (enf u8v (fun _ => (0 : UInt8))), .arr 6 (enf u8v form1)]) 0 0 4 rfl Try.sizeOf45 (ones_one rfl (ones_one rfl (ones_arr (fun _ => rfl) (ones_arr (fun _ => rfl) ones_nil)))) rfl rfl rfl rfl rfl rfl ?_
  refine TL.done ?_
  refine TC.seq ?_
  refine TC.seq ?_
  refine TC.region ?_
  refine TL.move rfl rfl (v := .int .i64 n_1) rfl ?_
  refine TL.move rfl rfl (v := .int .i64 0) rfl ?_
  refine TL.done ?_
  refine TC.loop1 (σ := (Nat → UInt8) × Int) (γ := Unit) (Γ' := (fun p q => match p, q with | (a_1, x1), _ => [(1, .int .i64 n_1), (3, .func (.func f1) fst1.toArray cap1.toArray), (8, bp b_2 0), (9, bp b_3 0), (17, .int .i64 n_1), (18, .int .i64 x1)])) (L' := (fun p q => match p, q with | (a_1, x1), _ => [box b_2 45 [.one (.int .i64 0), .one (.int .i64 0), .arr 216 (enf u8v (fun _ => (0 : UInt8))), .arr 6 (enf u8v (fun _ => (0 : UInt8)))], box b_3 45 [.one (.int .i64 p1), .one (.int .i64 n_1), .arr 216 (enf u8v a_1), .arr 6 (enf u8v form1)]])) (Γb := (fun p q => match p, q with | (a_1, x1), _ => [(1, .int .i64 n_1), (3, .func (.func f1) fst1.toArray cap1.toArray), (8, bp b_2 0), (9, bp b_3 0), (17, .int .i64 n_1), (18, .int .i64 x1)])) (Lb := (fun p q => match p, q with | (a_1, x1), _ => [box b_2 45 [.one (.int .i64 0), .one (.int .i64 0), .arr 216 (enf u8v (fun _ => (0 : UInt8))), .arr 6 (enf u8v (fun _ => (0 : UInt8)))], box b_3 45 [.one (.int .i64 p1), .one (.int .i64 n_1), .arr 216 (enf u8v a_1), .arr 6 (enf u8v form1)]])) (((fun _ => (0 : UInt8)), 0)) (()) ⟨rfl, rfl, rfl, rfl, rfl, rfl, trivial⟩ [1, 0] rfl ?_ ?_
  · rintro ⟨a_1, x1⟩ _
    refine TC.seq ?_
    refine TC.region ?_
    refine TL.bin .i64 x1 n_1 rfl rfl rfl rfl (v := .bool (decide (x1 < n_1))) rfl ?_
    refine TL.done ?_
    refine TC.seq ?_
    refine TC.cond (b := (decide (x1 < n_1))) rfl (fun c1 => ?_) (fun c2 => ?_)
    · refine TC.skip ?_
      refine TC.seq ?_
      refine TC.block (NoEx.loop1 rfl) ?_
      refine TC.seq ?_
      refine TC.region ?_
      refine TL.move rfl rfl (v := .int .i64 x1) rfl ?_
      refine TL.assign rfl rfl (v := .int .i64 x1) rfl ?_
      refine TL.done ?_
      refine TC.seq ?_
      refine TC.region ?_
      refine TL.move rfl rfl (v := .int .i64 n_1) rfl ?_
      refine TL.move rfl rfl (v := .int .i64 0) rfl ?_
      refine TL.done ?_
      refine TC.loop1 (σ := (Nat → UInt8) × Int) (γ := Unit) (Γ' := (fun p q => match p, q with | (a_2, x2), _ => [(1, .int .i64 n_1), (3, .func (.func f1) fst1.toArray cap1.toArray), (8, bp b_2 0), (9, bp b_3 0), (10, .int .i64 x1), (17, .int .i64 n_1), (18, .int .i64 x1), (21, .int .i64 n_1), (22, .int .i64 x2)])) (L' := (fun p q => match p, q with | (a_2, x2), _ => [box b_2 45 [.one (.int .i64 0), .one (.int .i64 0), .arr 216 (enf u8v (fun _ => (0 : UInt8))), .arr 6 (enf u8v (fun _ => (0 : UInt8)))], box b_3 45 [.one (.int .i64 p1), .one (.int .i64 n_1), .arr 216 (enf u8v a_2), .arr 6 (enf u8v form1)]])) (Γb := (fun p q => match p, q with | (a_2, x2), _ => [(1, .int .i64 n_1), (3, .func (.func f1) fst1.toArray cap1.toArray), (8, bp b_2 0), (9, bp b_3 0), (10, .int .i64 x1), (17, .int .i64 n_1), (18, .int .i64 x1), (21, .int .i64 n_1), (22, .int .i64 x2)])) (Lb := (fun p q => match p, q with | (a_2, x2), _ => [box b_2 45 [.one (.int .i64 0), .one (.int .i64 0), .arr 216 (enf u8v (fun _ => (0 : UInt8))), .arr 6 (enf u8v (fun _ => (0 : UInt8)))], box b_3 45 [.one (.int .i64 p1), .one (.int .i64 n_1), .arr 216 (enf u8v a_2), .arr 6 (enf u8v form1)]])) ((a_1, 0)) (()) ⟨rfl, rfl, rfl, rfl, rfl, rfl, rfl, rfl, rfl, trivial⟩ [0, 0] rfl ?_ ?_
      · rintro ⟨a_2, x2⟩ _
        refine TC.seq ?_
        refine TC.region ?_
        refine TL.bin .i64 x2 n_1 rfl rfl rfl rfl (v := .bool (decide (x2 < n_1))) rfl ?_
        refine TL.done ?_
        refine TC.seq ?_
        refine TC.cond (b := (decide (x2 < n_1))) rfl (fun c3 => ?_) (fun c4 => ?_)
        · refine TC.skip ?_
          refine TC.seq ?_
          refine TC.block (NoEx.loop1 rfl) ?_
          refine TC.seq ?_
          refine TC.region ?_
          refine TL.move rfl rfl (v := .int .i64 x2) rfl ?_
          refine TL.assign rfl rfl (v := .int .i64 x2) rfl ?_
          refine TL.done ?_
          refine TC.seq ?_
          refine TC.region ?_
          refine TL.move rfl rfl (v := .func (.func f1) fst1.toArray cap1.toArray) rfl ?_
          refine TL.move rfl rfl (v := .int .i64 x1) rfl ?_
          refine TL.move rfl rfl (v := .int .i64 x2) rfl ?_
          refine TL.callv (R := (fun r_ => (fun (v_ : Value) (L_ : List Asn) => v_ = .int .i64 r_ ∧ L_ = []))) (vs := [.int .i64 x1, .int .i64 x2]) hc1 rfl rfl rfl rfl (fun w hS => hf1 w hS.iw x1 x2) ?_
          rintro r_1 _ _ ⟨rfl, rfl⟩
          refine TL.assign rfl rfl (v := .int .i64 r_1) rfl ?_
          refine TL.done ?_
          refine TC.seq ?_
          refine TC.region ?_
          refine TL.move rfl rfl (v := .int .i64 r_1) rfl ?_
          refine TL.bin .i64 r_1 0 rfl rfl rfl rfl (v := .bool (decide (r_1 ≥ 0))) rfl ?_
          refine TL.done ?_
          refine TC.join1 (σ := (Nat → UInt8)) (γ := Unit) (Γ' := (fun a_3 _ => [(1, .int .i64 n_1), (3, .func (.func f1) fst1.toArray cap1.toArray), (8, bp b_2 0), (9, bp b_3 0), (10, .int .i64 x1), (17, .int .i64 n_1), (18, .int .i64 x1), (21, .int .i64 n_1), (22, .int .i64 x2)])) (L' := (fun a_3 _ => [box b_2 45 [.one (.int .i64 0), .one (.int .i64 0), .arr 216 (enf u8v (fun _ => (0 : UInt8))), .arr 6 (enf u8v (fun _ => (0 : UInt8)))], box b_3 45 [.one (.int .i64 p1), .one (.int .i64 n_1), .arr 216 (enf u8v a_3), .arr 6 (enf u8v form1)]])) ?_ ?_
          · refine TC.cond (b := (decide (r_1 ≥ 0))) rfl (fun c5 => ?_) (fun c6 => ?_)
            · refine TC.region ?_
              refine TL.move rfl rfl (v := .int .i64 x1) rfl ?_
              refine TL.move rfl rfl (v := .int .i64 x2) rfl ?_
              refine TL.move rfl rfl (v := .int .i64 r_1) rfl ?_
              refine TL.fa Try.underlying45 rfl Try.sizeOf42 rfl 2 rfl rfl rfl rfl ?_
              refine TL.chk fun h1 => ?_
              refine TL.ixa x1 (2 + x1.toNat * 36) h1 Try.underlying42 Try.sizeOf33 rfl rfl rfl rfl (by omega) ?_
              refine TL.chk fun h2 => ?_
              refine TL.ixa x2 (2 + (x1.toNat * 36 + x2.toNat * 6)) h2 Try.underlying33 Try.sizeOf32 rfl rfl rfl rfl (by omega) ?_
              refine TL.chk fun h3 => ?_
              refine TL.ixa r_1 (2 + (x1.toNat * 36 + x2.toNat * 6 + r_1.toNat)) h3 Try.underlying32 Try.sizeOf5 rfl rfl rfl rfl (by omega) ?_
              refine TL.stA (e := u8v) (z := (1 : UInt8)) 1 2 (x1.toNat * 36 + x2.toNat * 6 + r_1.toNat) rfl Try.sizeOf5 rfl (by omega) (s := 2) rfl (by omega) rfl rfl rfl rfl rfl ?_
              refine TL.done ?_
              exact TC.nrm ((upd a_2 (x1.toNat * 36 + x2.toNat * 6 + r_1.toNat) (1 : UInt8))) (()) ⟨rfl, rfl, rfl, rfl, rfl, rfl, rfl, rfl, rfl, trivial⟩ [0, 0] rfl
            · refine TC.skip ?_
              exact TC.nrm (a_2) (()) ⟨rfl, rfl, rfl, rfl, rfl, rfl, rfl, rfl, rfl, trivial⟩ [0, 0] rfl
          · rintro a_3 _
            refine TC.region ?_
            refine TL.bin .i64 x2 1 rfl rfl rfl rfl (v := .int .i64 (w64 (x2 + 1))) rfl ?_
            refine TL.move rfl rfl (v := .int .i64 (w64 (x2 + 1))) rfl ?_
            refine TL.done ?_
            exact TC.next1 ((a_3, (w64 (x2 + 1)))) (()) ⟨rfl, rfl, rfl, rfl, rfl, rfl, rfl, rfl, rfl, trivial⟩ [0, 0] rfl
        · exact TC.brk1 ((a_2, x2)) (()) ⟨rfl, rfl, rfl, rfl, rfl, rfl, rfl, rfl, rfl, trivial⟩ [0, 0] rfl
      · rintro ⟨a_2, x2⟩ _
        refine TC.region ?_
        refine TL.bin .i64 x1 1 rfl rfl rfl rfl (v := .int .i64 (w64 (x1 + 1))) rfl ?_
        refine TL.move rfl rfl (v := .int .i64 (w64 (x1 + 1))) rfl ?_
        refine TL.done ?_
        exact TC.next1 ((a_2, (w64 (x1 + 1)))) (()) ⟨rfl, rfl, rfl, rfl, rfl, rfl, trivial⟩ [0, 0] rfl
    · exact TC.brk1 ((a_1, x1)) (()) ⟨rfl, rfl, rfl, rfl, rfl, rfl, trivial⟩ [0, 0] rfl
  · rintro ⟨a_1, x1⟩ _
    refine TC.seq ?_
    refine TC.region ?_
    refine TL.loadM 0 4 (Src.box 1 rfl) Try.isAgg45 Try.sizeOf45 (mid := [.one (.int .i64 p1), .one (.int .i64 n_1), .arr 216 (enf u8v a_1), .arr 6 (enf u8v form1)]) rfl rfl rfl rfl rfl rfl ?_
    refine TL.stM (news := [.one (.int .i64 p1), .one (.int .i64 n_1), .arr 216 (enf u8v a_1), .arr 6 (enf u8v form1)]) 0 0 4 rfl Try.sizeOf45 (ones_one rfl (ones_one rfl (ones_arr (fun _ => rfl) (ones_arr (fun _ => rfl) ones_nil)))) rfl rfl rfl rfl rfl rfl ?_
    refine TL.done ?_
    exact TC.retF (Fin.body (fin1 (.inr rfl) rfl (.cellN rfl (Src.box 0 rfl) Try.isAgg45 Try.sizeOf45 rfl) [] rfl ⟨rfl, rfl⟩))

end Go.Proofs.Ytcombgcjgdkbiaa.G

/- impl.Group).algebra, as a pure function. -/
set_option linter.unusedVariables false
namespace Go.Proofs.Ytcombgcjgdkbiaa.G
open Go Go.Sx Go.Proofs

def impl_Group_algebra.f (g1 : Int) (g2 : Nat → UInt8) (p1 : Int) : Option (Int × Int × (Nat → UInt8) × (Nat → UInt8)) := (G.impl_Group_n.f g1 g2).bind (fun r_1 => (G.impl_built.f p1 r_1 (upd (fun _ => (0 : UInt8)) 0 (1 : UInt8)) (fun x0_ x1_ => G.impl_Group_times.f g1 g2 x0_ x1_)).bind (fun p => match p with | (r_2, r_3, r_4, r_5) => some (r_2, r_3, r_4, r_5)))

def impl_Group_algebra.R (r : Int × Int × (Nat → UInt8) × (Nat → UInt8)) (v : Value) (L : List Asn) : Prop := v = sval [.one (.int .i64 r.1), .one (.int .i64 r.2.1), .arr 216 (enf u8v r.2.2.1), .arr 6 (enf u8v r.2.2.2)] ∧ L = []

set_option maxRecDepth 100000 in
set_option maxHeartbeats 4000000 in
theorem impl_Group_algebra.calls (w : World) (b_1 : Nat) (g1 : Int) (g2 : Nat → UInt8) (p1 : Int) (h1 : At (hp w) b_1 [.one (.int .i64 g1), .arr 36 (enf u8v g2)]) :
    ∀ r, impl_Group_algebra.f g1 g2 p1 = some r → Calls Try.prog 98 #[bp b_1 0, .int .i64 p1] w (Ret w (impl_Group_algebra.R r)) := by

  refine calls_T (n := 12) (Γ := [(0, bp b_1 0), (1, .int .i64 p1)]) (R := impl_Group_algebra.R) Try.func98 rfl rfl (Nat.le_of_ble_eq_true rfl) ⟨rfl, rfl, trivial⟩ ?_
  unfold impl_Group_algebra.f
  refine TC.seq ?_
  refine TC.region ?_
  refine TL.alloc [.one (.int .i64 0), .one (.int .i64 0), .arr 216 (enf u8v (fun _ => (0 : UInt8))), .arr 6 (enf u8v (fun _ => (0 : UInt8)))] rfl rfl Try.zeroValue45 rfl fun b_2 => ?_
  refine TL.done ?_
  refine TC.seq ?_
  refine TC.region ?_
  refine TL.move rfl rfl (v := .int .i64 p1) rfl ?_
  refine TL.move rfl rfl (v := bp b_1 0) rfl ?_
  refine TL.call (R := G.impl_Group_n.R) Try.call65 rfl rfl rfl (fun w hS => G.impl_Group_n.calls w b_1 g1 g2 ((Src.at h1) w hS)) ?_
  rintro r_1 _ _ ⟨rfl, rfl⟩
  refine TL.buildA (segs0 := [.arr 6 (enf u8v (fun _ => (0 : UInt8)))]) (segs := [.arr 6 (enf u8v (upd (fun _ => (0 : UInt8)) 0 (1 : UInt8)))]) Try.underlying43 Try.sizeOf5 Try.zeroValue43 rfl [(0, u8v (1 : UInt8))] rfl (fill_arr (e := u8v) (z := (1 : UInt8)) (q := 0) (s := 0) 0 rfl rfl rfl rfl rfl rfl (rfl)) rfl rfl ?_
  refine TL.move rfl rfl (v := bp b_1 0) rfl ?_
  refine TL.makeFunc rfl rfl (us := [bp b_1 0]) (vs := []) rfl rfl ?_
  refine TL.call (R := G.impl_built.R) Try.call79 rfl rfl rfl (fun w hS => G.impl_built.calls w p1 r_1 (upd (fun _ => (0 : UInt8)) 0 (1 : UInt8)) 66 [bp b_1 0] [] (fun x0_ x1_ => G.impl_Group_times.f g1 g2 x0_ x1_) Try.call66 (fun w_ hle_ x0_ x1_ r_ hr_ => G.impl_Group_times.calls w_ b_1 g1 g2 x0_ x1_ (((Src.at h1) w hS).mono hle_) r_ hr_)) ?_
  rintro ⟨r_2, r_3, r_4, r_5⟩ _ _ ⟨rfl, rfl⟩
  refine TL.stM (news := [.one (.int .i64 r_2), .one (.int .i64 r_3), .arr 216 (enf u8v r_4), .arr 6 (enf u8v r_5)]) 0 0 4 rfl Try.sizeOf45 (ones_one rfl (ones_one rfl (ones_arr (fun _ => rfl) (ones_arr (fun _ => rfl) ones_nil)))) rfl rfl rfl rfl rfl rfl ?_
  refine TL.done ?_
  exact TC.retF (Fin.body (fin1 (.inr rfl) rfl (.cellN rfl (Src.box 0 rfl) Try.isAgg45 Try.sizeOf45 rfl) [] rfl ⟨rfl, rfl⟩))

end Go.Proofs.Ytcombgcjgdkbiaa.G

/- impl.in, as a pure function. -/
set_option linter.unusedVariables false
namespace Go.Proofs.Ytcombgcjgdkbiaa.G
open Go Go.Sx Go.Proofs

def impl_in.f (n_1 : Int) (low1 : Int) (high1 : Int) : Option Bool := some ((decide (n_1 ≥ low1)) && (decide (n_1 ≤ high1)))

def impl_in.R (r : Bool) (v : Value) (L : List Asn) : Prop := v = .bool r ∧ L = []

set_option maxRecDepth 100000 in
set_option maxHeartbeats 4000000 in
theorem impl_in.calls (w : World) (n_1 : Int) (low1 : Int) (high1 : Int) :
    ∀ r, impl_in.f n_1 low1 high1 = some r → Calls Try.prog 57 #[.int .i64 n_1, .int .i64 low1, .int .i64 high1] w (Ret w (impl_in.R r)) := by

  refine calls_T (n := 15) (Γ := [(0, .int .i64 n_1), (1, .int .i64 low1), (2, .int .i64 high1)]) (R := impl_in.R) Try.func57 rfl rfl (Nat.le_of_ble_eq_true rfl) ⟨rfl, rfl, rfl, trivial⟩ ?_
  unfold impl_in.f
  refine TC.seq ?_
  refine TC.region ?_
  refine TL.assign rfl rfl (v := .bool false) rfl ?_
  refine TL.done ?_
  refine TC.seq ?_
  refine TC.region ?_
  refine TL.move rfl rfl (v := .int .i64 n_1) rfl ?_
  refine TL.move rfl rfl (v := .int .i64 low1) rfl ?_
  refine TL.bin .i64 n_1 low1 rfl rfl rfl rfl (v := .bool (decide (n_1 ≥ low1))) rfl ?_
  refine TL.move rfl rfl (v := .bool (decide (n_1 ≥ low1))) rfl ?_
  refine TL.cutU 4 [(14, .bool ((decide (n_1 ≥ low1)) && (decide (n_1 ≤ high1)))), (0, .int .i64 n_1), (1, .int .i64 low1), (2, .int .i64 high1), (6, .bool false), (7, .int .i64 n_1), (8, .int .i64 low1), (9, .bool (decide (n_1 ≥ low1))), (10, .bool (decide (n_1 ≥ low1)))] [] ?_ ?_
  · refine TL.cases (t := 10) (b := (decide (n_1 ≥ low1))) rfl (fun c1 => ?_) (fun c2 => ?_)
    · refine TL.move rfl rfl (v := .int .i64 n_1) rfl ?_
      refine TL.move rfl rfl (v := .int .i64 high1) rfl ?_
      refine TL.bin .i64 n_1 high1 rfl rfl rfl rfl (v := .bool (decide (n_1 ≤ high1))) rfl ?_
      refine TL.pick rfl rfl (b := true) rfl (r := .bool (decide (n_1 ≤ high1))) rfl ?_
      refine TL.done ?_
      exact TC.nrm () () ⟨(by rw [c1]; rfl), rfl, rfl, rfl, rfl, rfl, rfl, rfl, (by rw [c1]; rfl), trivial⟩ [] rfl
    · refine TL.skip rfl rfl (by decide) ?_
      refine TL.skip rfl rfl (by decide) ?_
      refine TL.skip rfl rfl (by decide) ?_
      refine TL.pick rfl rfl (b := false) rfl (r := .bool false) rfl ?_
      refine TL.done ?_
      exact TC.nrm () () ⟨(by rw [c2]; rfl), rfl, rfl, rfl, rfl, rfl, rfl, rfl, (by rw [c2]; rfl), trivial⟩ [] rfl
  · refine TL.assign rfl rfl (v := .bool ((decide (n_1 ≥ low1)) && (decide (n_1 ≤ high1)))) rfl ?_
    refine TL.done ?_
    exact TC.retF (Fin.body (fin1 (.inr rfl) rfl (.tmp rfl) [] rfl ⟨rfl, rfl⟩))

end Go.Proofs.Ytcombgcjgdkbiaa.G

/- impl.Group).inverse, as a pure function. -/
set_option linter.unusedVariables false
namespace Go.Proofs.Ytcombgcjgdkbiaa.G
open Go Go.Sx Go.Proofs

def impl_Group_inverse.b0 (r_1 : Int) (g1 : Int) (g2 : Nat → UInt8) (i1 : Int) : Int → Option (LR Int Int) := fun x1 => (bif (decide (x1 < r_1)) then (G.impl_Group_times.f g1 g2 i1 x1).bind (fun r_2 => (bif (r_2 == 0) then (G.impl_Group_times.f g1 g2 x1 i1).bind (fun r_3 => some (r_3 == 0)) else some false).bind (fun b_2 => (bif b_2 then some (.ret (x1)) else some (.next (w64 (x1 + 1)))))) else some (.brk x1))

def impl_Group_inverse.f (g1 : Int) (g2 : Nat → UInt8) (i1 : Int) : Option Int := (G.impl_Group_n.f g1 g2).bind (fun r_1 => (loop (impl_Group_inverse.b0 r_1 g1 g2 i1) 0).bind (ln (fun x1 => some (-1))))

def impl_Group_inverse.R (r : Int) (v : Value) (L : List Asn) : Prop := v = .int .i64 r ∧ L = []

set_option maxRecDepth 100000 in
set_option maxHeartbeats 4000000 in
theorem impl_Group_inverse.calls (w : World) (b_1 : Nat) (g1 : Int) (g2 : Nat → UInt8) (i1 : Int) (h1 : At (hp w) b_1 [.one (.int .i64 g1), .arr 36 (enf u8v g2)]) :
    ∀ r, impl_Group_inverse.f g1 g2 i1 = some r → Calls Try.prog 72 #[bp b_1 0, .int .i64 i1] w (Ret w (impl_Group_inverse.R r)) := by

  refine calls_T (n := 25) (Γ := [(0, bp b_1 0), (1, .int .i64 i1)]) (R := impl_Group_inverse.R) Try.func72 rfl rfl (Nat.le_of_ble_eq_true rfl) ⟨rfl, rfl, trivial⟩ ?_
  unfold impl_Group_inverse.f
  refine TC.seq ?_
  refine TC.region ?_
  refine TL.assign rfl rfl (v := .int .i64 0) rfl ?_
  refine TL.done ?_
  refine TC.seq ?_
  refine TC.seq ?_
  refine TC.region ?_
  refine TL.move rfl rfl (v := bp b_1 0) rfl ?_
  refine TL.call (R := G.impl_Group_n.R) Try.call65 rfl rfl rfl (fun w hS => G.impl_Group_n.calls w b_1 g1 g2 ((Src.at h1) w hS)) ?_
  rintro r_1 _ _ ⟨rfl, rfl⟩
  refine TL.move rfl rfl (v := .int .i64 0) rfl ?_
  refine TL.done ?_
  refine TC.loopK (σ := Int) (γ := Unit) (Γ' := (fun x1 _ => [(0, bp b_1 0), (1, .int .i64 i1), (7, .int .i64 r_1), (8, .int .i64 x1)])) (L' := (fun x1 _ => [])) (Γb := (fun x1 _ => [(0, bp b_1 0), (1, .int .i64 i1), (7, .int .i64 r_1), (8, .int .i64 x1)])) (Lb := (fun x1 _ => [])) (0) (()) ⟨rfl, rfl, rfl, rfl, trivial⟩ [] rfl ?_ ?_
  · rintro x1 _
    refine TC.seq ?_
    refine TC.region ?_
    refine TL.bin .i64 x1 r_1 rfl rfl rfl rfl (v := .bool (decide (x1 < r_1))) rfl ?_
    refine TL.done ?_
    refine TC.seq ?_
    refine TC.cond (b := (decide (x1 < r_1))) rfl (fun c1 => ?_) (fun c2 => ?_)
    · refine TC.skip ?_
      refine TC.seq ?_
      refine TC.block (NoEx.loop rfl NoEx.body) ?_
      refine TC.seq ?_
      refine TC.region ?_
      refine TL.move rfl rfl (v := .int .i64 x1) rfl ?_
      refine TL.assign rfl rfl (v := .int .i64 x1) rfl ?_
      refine TL.done ?_
      refine TC.seq ?_
      refine TC.region ?_
      refine TL.move rfl rfl (v := bp b_1 0) rfl ?_
      refine TL.move rfl rfl (v := .int .i64 i1) rfl ?_
      refine TL.move rfl rfl (v := .int .i64 x1) rfl ?_
      refine TL.call (R := G.impl_Group_times.R) Try.call66 rfl rfl rfl (fun w hS => G.impl_Group_times.calls w b_1 g1 g2 i1 x1 ((Src.at h1) w hS)) ?_
      rintro r_2 _ _ ⟨rfl, rfl⟩
      refine TL.bin .i64 r_2 0 rfl rfl rfl rfl (v := .bool (r_2 == 0)) rfl ?_
      refine TL.move rfl rfl (v := .bool (r_2 == 0)) rfl ?_
      refine TL.cutJ (σ := Bool) (γ := Unit) (Γ' := fun b_2 _ => [(22, .bool b_2), (0, bp b_1 0), (1, .int .i64 i1), (7, .int .i64 r_1), (8, .int .i64 x1), (9, .bool (decide (x1 < r_1))), (10, .int .i64 x1), (5, .int .i64 x1), (11, bp b_1 0), (12, .int .i64 i1), (13, .int .i64 x1), (14, .int .i64 r_2), (15, .bool (r_2 == 0)), (16, .bool (r_2 == 0))]) (L' := fun _ _ => []) 6 ?_ ?_
      · refine TL.ifb (t := 16) (b := (r_2 == 0)) rfl (fun c3 => ?_) (fun c4 => ?_)
        · refine TL.move rfl rfl (v := bp b_1 0) rfl ?_
          refine TL.move rfl rfl (v := .int .i64 x1) rfl ?_
          refine TL.move rfl rfl (v := .int .i64 i1) rfl ?_
          refine TL.call (R := G.impl_Group_times.R) Try.call66 rfl rfl rfl (fun w hS => G.impl_Group_times.calls w b_1 g1 g2 x1 i1 ((Src.at h1) w hS)) ?_
          rintro r_3 _ _ ⟨rfl, rfl⟩
          refine TL.bin .i64 r_3 0 rfl rfl rfl rfl (v := .bool (r_3 == 0)) rfl ?_
          refine TL.pick rfl rfl (b := true) rfl (r := .bool (r_3 == 0)) rfl ?_
          refine TL.done ?_
          exact TC.nrm ((r_3 == 0)) () ⟨rfl, rfl, rfl, rfl, rfl, rfl, rfl, rfl, rfl, rfl, rfl, rfl, rfl, (by rw [c3]; rfl), trivial⟩ [] rfl
        · refine TL.skip rfl rfl (by decide) ?_
          refine TL.skip rfl rfl (by decide) ?_
          refine TL.skip rfl rfl (by decide) ?_
          refine TL.skip rfl rfl (by decide) ?_
          refine TL.skip rfl rfl (by decide) ?_
          refine TL.pick rfl rfl (b := false) rfl (r := .bool false) rfl ?_
          refine TL.done ?_
          exact TC.nrm (false) () ⟨rfl, rfl, rfl, rfl, rfl, rfl, rfl, rfl, rfl, rfl, rfl, rfl, rfl, (by rw [c4]; rfl), trivial⟩ [] rfl
      · rintro b_2 _
        refine TL.done ?_
        refine TC.cond (b := b_2) rfl (fun c5 => ?_) (fun c6 => ?_)
        · refine TC.seq ?_
          refine TC.region ?_
          refine TL.move rfl rfl (v := .int .i64 x1) rfl ?_
          refine TL.assign rfl rfl (v := .int .i64 x1) rfl ?_
          refine TL.done ?_
          exact TC.retF (Fin.loop Far.ret (Fin.body (fin1 (.inr rfl) rfl (.tmp rfl) [] rfl ⟨rfl, rfl⟩)))
        · refine TC.skip ?_
          refine TC.region ?_
          refine TL.bin .i64 x1 1 rfl rfl rfl rfl (v := .int .i64 (w64 (x1 + 1))) rfl ?_
          refine TL.move rfl rfl (v := .int .i64 (w64 (x1 + 1))) rfl ?_
          refine TL.done ?_
          exact TC.next ((w64 (x1 + 1))) (()) ⟨rfl, rfl, rfl, rfl, trivial⟩ [] rfl
    · exact TC.brk (x1) (()) ⟨rfl, rfl, rfl, rfl, trivial⟩ [] rfl
  · rintro x1 _
    refine TC.seq ?_
    refine TC.region ?_
    refine TL.assign rfl rfl (v := .int .i64 (-1)) rfl ?_
    refine TL.done ?_
    exact TC.retF (Fin.body (fin1 (.inr rfl) rfl (.tmp rfl) [] rfl ⟨rfl, rfl⟩))

end Go.Proofs.Ytcombgcjgdkbiaa.G

/- impl.Group).entriesOk, as a pure function. -/
set_option linter.unusedVariables false
namespace Go.Proofs.Ytcombgcjgdkbiaa.G
open Go Go.Sx Go.Proofs

def impl_Group_entriesOk.b0 (g1 : Int) (g2 : Nat → UInt8) (x1 : Int) : Int → Option (LR Int (LR Int Bool)) := fun x2 => (bif (decide (x2 < 6)) then chk x2 6 ((G.impl_Group_n.f g1 g2).bind (fun r_1 => (bif (decide (x1 < r_1)) then (G.impl_Group_n.f g1 g2).bind (fun r_2 => some (decide (x2 < r_2))) else some false).bind (fun b_3 => (bif ((b_3 && (decide ((((sub g2 (x1.toNat * 6)) x2.toNat).toNat : Int) ≥ g1))) || ((!b_3) && ((((sub g2 (x1.toNat * 6)) x2.toNat).toNat : Int) != ((0 : UInt8).toNat : Int)))) then some (.ret (.ret (false))) else some (.next (w64 (x2 + 1))))))) else some (.brk x2))

def impl_Group_entriesOk.b1 (g1 : Int) (g2 : Nat → UInt8) : Int → Option (LR Int Bool) := fun x1 => (bif (decide (x1 < 6)) then chk x1 6 ((loop (impl_Group_entriesOk.b0 g1 g2 x1) 0).bind (ln (fun x2 => some (.next (w64 (x1 + 1)))))) else some (.brk x1))

def impl_Group_entriesOk.f (g1 : Int) (g2 : Nat → UInt8) : Option Bool := (loop (impl_Group_entriesOk.b1 g1 g2) 0).bind (ln (fun x1 => some true))

def impl_Group_entriesOk.R (r : Bool) (v : Value) (L : List Asn) : Prop := v = .bool r ∧ L = []

set_option maxRecDepth 100000 in
set_option maxHeartbeats 4000000 in
theorem impl_Group_entriesOk.calls (w : World) (b_1 : Nat) (g1 : Int) (g2 : Nat → UInt8) (h1 : At (hp w) b_1 [.one (.int .i64 g1), .arr 36 (enf u8v g2)]) :
    ∀ r, impl_Group_entriesOk.f g1 g2 = some r → Calls Try.prog 114 #[bp b_1 0] w (Ret w (impl_Group_entriesOk.R r)) := by

  refine calls_T (n := 51) (Γ := [(0, bp b_1 0)]) (R := impl_Group_entriesOk.R) Try.func114 rfl rfl (Nat.le_of_ble_eq_true rfl) ⟨rfl, trivial⟩ ?_
  unfold impl_Group_entriesOk.f
  refine TC.seq ?_
  refine TC.region ?_
  refine TL.assign rfl rfl (v := .bool false) rfl ?_
  refine TL.done ?_
  refine TC.seq ?_
  refine TC.seq ?_
  refine TC.region ?_
  refine TL.move rfl rfl (v := bp b_1 0) rfl ?_
  refine TL.nilCheck rfl rfl rfl ?_
  refine TL.fa Try.underlying37 rfl Try.sizeOf33 rfl 1 rfl rfl rfl rfl ?_
  refine TL.loadM 1 1 (Src.at h1) Try.isAgg33 Try.sizeOf33 (mid := [.arr 36 (enf u8v g2)]) rfl rfl rfl rfl rfl rfl ?_
  refine TL.move rfl rfl (v := .int .i64 0) rfl ?_
  refine TL.done ?_
  refine TC.loopK (σ := Int) (γ := Unit) (Γ' := (fun x1 _ => [(0, bp b_1 0), (11, sval [.arr 36 (enf u8v g2)]), (12, .int .i64 x1)])) (L' := (fun x1 _ => [])) (Γb := (fun x1 _ => [(0, bp b_1 0), (11, sval [.arr 36 (enf u8v g2)]), (12, .int .i64 x1)])) (Lb := (fun x1 _ => [])) (0) (()) ⟨rfl, rfl, rfl, trivial⟩ [] rfl ?_ ?_
  · rintro x1 _
    refine TC.seq ?_
    refine TC.region ?_
    refine TL.bin .i64 x1 6 rfl rfl rfl rfl (v := .bool (decide (x1 < 6))) rfl ?_
    refine TL.done ?_
    refine TC.seq ?_
    refine TC.cond (b := (decide (x1 < 6))) rfl (fun c1 => ?_) (fun c2 => ?_)
    · refine TC.skip ?_
      refine TC.seq ?_
      refine TC.block (NoEx.loop rfl NoEx.body) ?_
      refine TC.seq ?_
      refine TC.region ?_
      refine TL.move rfl rfl (v := .int .i64 x1) rfl ?_
      refine TL.chk fun h2 => ?_
      refine TL.ixvN x1 h2 Try.underlying33 Try.isAgg32 Try.sizeOf32 rfl (v := sval [.arr 6 (enf u8v (sub g2 (x1.toNat * 6)))]) rfl rfl rfl rfl rfl ?_
      refine TL.alloc [.arr 6 (enf u8v (fun _ => (0 : UInt8)))] rfl rfl Try.zeroValue32 rfl fun b_2 => ?_
      refine TL.assign rfl rfl (v := .int .i64 x1) rfl ?_
      refine TL.stM (news := [.arr 6 (enf u8v (sub g2 (x1.toNat * 6)))]) 0 0 1 rfl Try.sizeOf32 (ones_arr (fun _ => rfl) ones_nil) rfl rfl rfl rfl rfl rfl ?_
      refine TL.done ?_
      refine TC.seq ?_
      refine TC.region ?_
      refine TL.loadM 0 1 (Src.box 0 rfl) Try.isAgg32 Try.sizeOf32 (mid := [.arr 6 (enf u8v (sub g2 (x1.toNat * 6)))]) rfl rfl rfl rfl rfl rfl ?_
      refine TL.move rfl rfl (v := .int .i64 0) rfl ?_
      refine TL.done ?_
      refine TC.loopK (σ := Int) (γ := Unit) (Γ' := (fun x2 _ => [(0, bp b_1 0), (3, .int .i64 x1), (11, sval [.arr 36 (enf u8v g2)]), (12, .int .i64 x1), (16, sval [.arr 6 (enf u8v (sub g2 (x1.toNat * 6)))]), (17, .int .i64 x2)])) (L' := (fun x2 _ => [])) (Γb := (fun x2 _ => [(0, bp b_1 0), (3, .int .i64 x1), (11, sval [.arr 36 (enf u8v g2)]), (12, .int .i64 x1), (16, sval [.arr 6 (enf u8v (sub g2 (x1.toNat * 6)))]), (17, .int .i64 x2)])) (Lb := (fun x2 _ => [])) (0) (()) ⟨rfl, rfl, rfl, rfl, rfl, rfl, trivial⟩ [] rfl ?_ ?_
      · rintro x2 _
        refine TC.seq ?_
        refine TC.region ?_
        refine TL.bin .i64 x2 6 rfl rfl rfl rfl (v := .bool (decide (x2 < 6))) rfl ?_
        refine TL.done ?_
        refine TC.seq ?_
        refine TC.cond (b := (decide (x2 < 6))) rfl (fun c3 => ?_) (fun c4 => ?_)
        · refine TC.skip ?_
          refine TC.seq ?_
          refine TC.block (NoEx.loop rfl (NoEx.loop rfl NoEx.body)) ?_
          refine TC.seq ?_
          refine TC.region ?_
          refine TL.move rfl rfl (v := .int .i64 x2) rfl ?_
          refine TL.chk fun h3 => ?_
          refine TL.ixv1 x2 h3 Try.underlying32 Try.isAgg5 Try.sizeOf5 (v := u8v ((sub g2 (x1.toNat * 6)) x2.toNat)) rfl rfl rfl rfl rfl ?_
          refine TL.assign rfl rfl (v := .int .i64 x2) rfl ?_
          refine TL.assign rfl rfl (v := u8v ((sub g2 (x1.toNat * 6)) x2.toNat)) rfl ?_
          refine TL.done ?_
          refine TC.seq ?_
          refine TC.region ?_
          refine TL.move rfl rfl (v := .int .i64 x1) rfl ?_
          refine TL.move rfl rfl (v := bp b_1 0) rfl ?_
          refine TL.call (R := G.impl_Group_n.R) Try.call65 rfl rfl rfl (fun w hS => G.impl_Group_n.calls w b_1 g1 g2 ((Src.at h1) w hS)) ?_
          rintro r_1 _ _ ⟨rfl, rfl⟩
          refine TL.bin .i64 x1 r_1 rfl rfl rfl rfl (v := .bool (decide (x1 < r_1))) rfl ?_
          refine TL.move rfl rfl (v := .bool (decide (x1 < r_1))) rfl ?_
          refine TL.cutJ (σ := Bool) (γ := Unit) (Γ' := fun b_3 _ => [(30, .bool b_3), (0, bp b_1 0), (3, .int .i64 x1), (11, sval [.arr 36 (enf u8v g2)]), (12, .int .i64 x1), (16, sval [.arr 6 (enf u8v (sub g2 (x1.toNat * 6)))]), (17, .int .i64 x2), (18, .bool (decide (x2 < 6))), (19, .int .i64 x2), (20, u8v ((sub g2 (x1.toNat * 6)) x2.toNat)), (5, .int .i64 x2), (6, u8v ((sub g2 (x1.toNat * 6)) x2.toNat)), (21, .int .i64 x1), (22, bp b_1 0), (23, .int .i64 r_1), (24, .bool (decide (x1 < r_1))), (25, .bool (decide (x1 < r_1)))]) (L' := fun _ _ => []) 5 ?_ ?_
          · refine TL.ifb (t := 25) (b := (decide (x1 < r_1))) rfl (fun c5 => ?_) (fun c6 => ?_)
            · refine TL.move rfl rfl (v := .int .i64 x2) rfl ?_
              refine TL.move rfl rfl (v := bp b_1 0) rfl ?_
              refine TL.call (R := G.impl_Group_n.R) Try.call65 rfl rfl rfl (fun w hS => G.impl_Group_n.calls w b_1 g1 g2 ((Src.at h1) w hS)) ?_
              rintro r_2 _ _ ⟨rfl, rfl⟩
              refine TL.bin .i64 x2 r_2 rfl rfl rfl rfl (v := .bool (decide (x2 < r_2))) rfl ?_
              refine TL.pick rfl rfl (b := true) rfl (r := .bool (decide (x2 < r_2))) rfl ?_
              refine TL.done ?_
              exact TC.nrm ((decide (x2 < r_2))) () ⟨rfl, rfl, rfl, rfl, rfl, rfl, rfl, rfl, rfl, rfl, rfl, rfl, rfl, rfl, rfl, rfl, (by rw [c5]; rfl), trivial⟩ [] rfl
            · refine TL.skip rfl rfl (by decide) ?_
              refine TL.skip rfl rfl (by decide) ?_
              refine TL.skip rfl rfl (by decide) ?_
              refine TL.skip rfl rfl (by decide) ?_
              refine TL.pick rfl rfl (b := false) rfl (r := .bool false) rfl ?_
              refine TL.done ?_
              exact TC.nrm (false) () ⟨rfl, rfl, rfl, rfl, rfl, rfl, rfl, rfl, rfl, rfl, rfl, rfl, rfl, rfl, rfl, rfl, (by rw [c6]; rfl), trivial⟩ [] rfl
          · rintro b_3 _
            refine TL.assign rfl rfl (v := .bool b_3) rfl ?_
            refine TL.done ?_
            refine TC.seq ?_
            refine TC.region ?_
            refine TL.move rfl rfl (v := .bool b_3) rfl ?_
            refine TL.move rfl rfl (v := .bool b_3) rfl ?_
            refine TL.cutU 8 [(40, .bool (b_3 && (decide ((((sub g2 (x1.toNat * 6)) x2.toNat).toNat : Int) ≥ g1)))), (0, bp b_1 0), (3, .int .i64 x1), (11, sval [.arr 36 (enf u8v g2)]), (12, .int .i64 x1), (16, sval [.arr 6 (enf u8v (sub g2 (x1.toNat * 6)))]), (17, .int .i64 x2), (18, .bool (decide (x2 < 6))), (19, .int .i64 x2), (20, u8v ((sub g2 (x1.toNat * 6)) x2.toNat)), (5, .int .i64 x2), (6, u8v ((sub g2 (x1.toNat * 6)) x2.toNat)), (21, .int .i64 x1), (22, bp b_1 0), (23, .int .i64 r_1), (24, .bool (decide (x1 < r_1))), (25, .bool (decide (x1 < r_1))), (30, .bool b_3), (7, .bool b_3), (31, .bool b_3), (32, .bool b_3)] [] ?_ ?_
            · refine TL.cases (t := 32) (b := b_3) rfl (fun c7 => ?_) (fun c8 => ?_)
              · refine TL.move rfl rfl (v := u8v ((sub g2 (x1.toNat * 6)) x2.toNat)) rfl ?_
                refine TL.conv .u8 .i64 (((sub g2 (x1.toNat * 6)) x2.toNat).toNat : Int) _ rfl rfl rfl Try.underlying5 Try.underlying2 (v := .int .i64 (((sub g2 (x1.toNat * 6)) x2.toNat).toNat : Int)) (conv_u8_i64 _) ?_
                refine TL.move rfl rfl (v := bp b_1 0) rfl ?_
                refine TL.nilCheck rfl rfl rfl ?_
                refine TL.fa Try.underlying37 rfl Try.sizeOf2 rfl 0 rfl rfl rfl rfl ?_
                refine TL.load1 0 (Src.at h1) Try.isAgg2 rfl rfl rfl rfl rfl ?_
                refine TL.bin .i64 (((sub g2 (x1.toNat * 6)) x2.toNat).toNat : Int) g1 rfl rfl rfl rfl (v := .bool (decide ((((sub g2 (x1.toNat * 6)) x2.toNat).toNat : Int) ≥ g1))) rfl ?_
                refine TL.pick rfl rfl (b := true) rfl (r := .bool (decide ((((sub g2 (x1.toNat * 6)) x2.toNat).toNat : Int) ≥ g1))) rfl ?_
                refine TL.done ?_
                exact TC.nrm () () ⟨(by rw [c7]; rfl), rfl, rfl, rfl, rfl, rfl, rfl, rfl, rfl, rfl, rfl, rfl, rfl, rfl, rfl, rfl, rfl, rfl, rfl, rfl, (by rw [c7]; rfl), trivial⟩ [] rfl
              · refine TL.skip rfl rfl (by decide) ?_
                refine TL.skip rfl rfl (by decide) ?_
                refine TL.skip rfl rfl (by decide) ?_
                refine TL.skip rfl rfl (by decide) ?_
                refine TL.skip rfl rfl (by decide) ?_
                refine TL.skip rfl rfl (by decide) ?_
                refine TL.skip rfl rfl (by decide) ?_
                refine TL.pick rfl rfl (b := false) rfl (r := .bool false) rfl ?_
                refine TL.done ?_
                exact TC.nrm () () ⟨(by rw [c8]; rfl), rfl, rfl, rfl, rfl, rfl, rfl, rfl, rfl, rfl, rfl, rfl, rfl, rfl, rfl, rfl, rfl, rfl, rfl, rfl, (by rw [c8]; rfl), trivial⟩ [] rfl
            · refine TL.move rfl rfl (v := .bool (b_3 && (decide ((((sub g2 (x1.toNat * 6)) x2.toNat).toNat : Int) ≥ g1)))) rfl ?_
              refine TL.cutU 7 [(48, .bool ((b_3 && (decide ((((sub g2 (x1.toNat * 6)) x2.toNat).toNat : Int) ≥ g1))) || ((!b_3) && ((((sub g2 (x1.toNat * 6)) x2.toNat).toNat : Int) != ((0 : UInt8).toNat : Int))))), (0, bp b_1 0), (3, .int .i64 x1), (11, sval [.arr 36 (enf u8v g2)]), (12, .int .i64 x1), (16, sval [.arr 6 (enf u8v (sub g2 (x1.toNat * 6)))]), (17, .int .i64 x2), (18, .bool (decide (x2 < 6))), (19, .int .i64 x2), (20, u8v ((sub g2 (x1.toNat * 6)) x2.toNat)), (5, .int .i64 x2), (6, u8v ((sub g2 (x1.toNat * 6)) x2.toNat)), (21, .int .i64 x1), (22, bp b_1 0), (23, .int .i64 r_1), (24, .bool (decide (x1 < r_1))), (25, .bool (decide (x1 < r_1))), (30, .bool b_3), (7, .bool b_3), (31, .bool b_3), (32, .bool b_3), (40, .bool (b_3 && (decide ((((sub g2 (x1.toNat * 6)) x2.toNat).toNat : Int) ≥ g1)))), (41, .bool (b_3 && (decide ((((sub g2 (x1.toNat * 6)) x2.toNat).toNat : Int) ≥ g1))))] [] ?_ ?_
              · refine TL.cases (t := 41) (b := (b_3 && (decide ((((sub g2 (x1.toNat * 6)) x2.toNat).toNat : Int) ≥ g1)))) rfl (fun c9 => ?_) (fun c10 => ?_)
                · refine TL.skip rfl rfl (by decide) ?_
                  refine TL.skip rfl rfl (by decide) ?_
                  refine TL.skip rfl rfl (by decide) ?_
                  refine TL.skip rfl rfl (by decide) ?_
                  refine TL.skip rfl rfl (by decide) ?_
                  refine TL.skip rfl rfl (by decide) ?_
                  refine TL.pick rfl rfl (b := true) rfl (r := .bool true) rfl ?_
                  refine TL.done ?_
                  exact TC.nrm () () ⟨(by rw [c9]; rfl), rfl, rfl, rfl, rfl, rfl, rfl, rfl, rfl, rfl, rfl, rfl, rfl, rfl, rfl, rfl, rfl, rfl, rfl, rfl, rfl, rfl, (by rw [c9]; rfl), trivial⟩ [] rfl
                · refine TL.move rfl rfl (v := .bool b_3) rfl ?_
                  refine TL.not b_3 rfl rfl rfl ?_
                  refine TL.move rfl rfl (v := .bool (!b_3)) rfl ?_
                  refine TL.cutU 3 [(47, .bool ((!b_3) && ((((sub g2 (x1.toNat * 6)) x2.toNat).toNat : Int) != ((0 : UInt8).toNat : Int)))), (0, bp b_1 0), (3, .int .i64 x1), (11, sval [.arr 36 (enf u8v g2)]), (12, .int .i64 x1), (16, sval [.arr 6 (enf u8v (sub g2 (x1.toNat * 6)))]), (17, .int .i64 x2), (18, .bool (decide (x2 < 6))), (19, .int .i64 x2), (20, u8v ((sub g2 (x1.toNat * 6)) x2.toNat)), (5, .int .i64 x2), (6, u8v ((sub g2 (x1.toNat * 6)) x2.toNat)), (21, .int .i64 x1), (22, bp b_1 0), (23, .int .i64 r_1), (24, .bool (decide (x1 < r_1))), (25, .bool (decide (x1 < r_1))), (30, .bool b_3), (7, .bool b_3), (31, .bool b_3), (32, .bool b_3), (40, .bool (b_3 && (decide ((((sub g2 (x1.toNat * 6)) x2.toNat).toNat : Int) ≥ g1)))), (41, .bool false), (42, .bool b_3), (43, .bool (!b_3)), (44, .bool (!b_3))] [] ?_ ?_
                  · refine TL.cases (t := 44) (b := (!b_3)) rfl (fun c11 => ?_) (fun c12 => ?_)
                    · refine TL.move rfl rfl (v := u8v ((sub g2 (x1.toNat * 6)) x2.toNat)) rfl ?_
                      refine TL.bin .u8 (((sub g2 (x1.toNat * 6)) x2.toNat).toNat : Int) ((0 : UInt8).toNat : Int) rfl rfl rfl rfl (v := .bool ((((sub g2 (x1.toNat * 6)) x2.toNat).toNat : Int) != ((0 : UInt8).toNat : Int))) rfl ?_
                      refine TL.pick rfl rfl (b := true) rfl (r := .bool ((((sub g2 (x1.toNat * 6)) x2.toNat).toNat : Int) != ((0 : UInt8).toNat : Int))) rfl ?_
                      refine TL.done ?_
                      exact TC.nrm () () ⟨(by rw [c11]; rfl), rfl, rfl, rfl, rfl, rfl, rfl, rfl, rfl, rfl, rfl, rfl, rfl, rfl, rfl, rfl, rfl, rfl, rfl, rfl, rfl, rfl, rfl, rfl, rfl, (by rw [c11]; rfl), trivial⟩ [] rfl
                    · refine TL.skip rfl rfl (by decide) ?_
                      refine TL.skip rfl rfl (by decide) ?_
                      refine TL.pick rfl rfl (b := false) rfl (r := .bool false) rfl ?_
                      refine TL.done ?_
                      exact TC.nrm () () ⟨(by rw [c12]; rfl), rfl, rfl, rfl, rfl, rfl, rfl, rfl, rfl, rfl, rfl, rfl, rfl, rfl, rfl, rfl, rfl, rfl, rfl, rfl, rfl, rfl, rfl, rfl, rfl, (by rw [c12]; rfl), trivial⟩ [] rfl
                  · refine TL.pick rfl rfl (b := false) rfl (r := .bool ((!b_3) && ((((sub g2 (x1.toNat * 6)) x2.toNat).toNat : Int) != ((0 : UInt8).toNat : Int)))) rfl ?_
                    refine TL.done ?_
                    exact TC.nrm () () ⟨(by rw [c10]; rfl), rfl, rfl, rfl, rfl, rfl, rfl, rfl, rfl, rfl, rfl, rfl, rfl, rfl, rfl, rfl, rfl, rfl, rfl, rfl, rfl, rfl, (by rw [c10]; rfl), trivial⟩ [] rfl
              · refine TL.done ?_
                refine TC.cond (b := ((b_3 && (decide ((((sub g2 (x1.toNat * 6)) x2.toNat).toNat : Int) ≥ g1))) || ((!b_3) && ((((sub g2 (x1.toNat * 6)) x2.toNat).toNat : Int) != ((0 : UInt8).toNat : Int))))) rfl (fun c13 => ?_) (fun c14 => ?_)
                · refine TC.seq ?_
                  refine TC.region ?_
                  refine TL.assign rfl rfl (v := .bool false) rfl ?_
                  refine TL.done ?_
                  exact TC.retF (Fin.loop Far.ret (Fin.loop Far.ret (Fin.body (fin1 (.inr rfl) rfl (.tmp rfl) [] rfl ⟨rfl, rfl⟩))))
                · refine TC.skip ?_
                  refine TC.region ?_
                  refine TL.bin .i64 x2 1 rfl rfl rfl rfl (v := .int .i64 (w64 (x2 + 1))) rfl ?_
                  refine TL.move rfl rfl (v := .int .i64 (w64 (x2 + 1))) rfl ?_
                  refine TL.done ?_
                  exact TC.next ((w64 (x2 + 1))) (()) ⟨rfl, rfl, rfl, rfl, rfl, rfl, trivial⟩ [] rfl
        · exact TC.brk (x2) (()) ⟨rfl, rfl, rfl, rfl, rfl, rfl, trivial⟩ [] rfl
      · rintro x2 _
        refine TC.region ?_
        refine TL.bin .i64 x1 1 rfl rfl rfl rfl (v := .int .i64 (w64 (x1 + 1))) rfl ?_
        refine TL.move rfl rfl (v := .int .i64 (w64 (x1 + 1))) rfl ?_
        refine TL.done ?_
        exact TC.next ((w64 (x1 + 1))) (()) ⟨rfl, rfl, rfl, trivial⟩ [] rfl
    · exact TC.brk (x1) (()) ⟨rfl, rfl, rfl, trivial⟩ [] rfl
  · rintro x1 _
    refine TC.seq ?_
    refine TC.region ?_
    refine TL.assign rfl rfl (v := .bool true) rfl ?_
    refine TL.done ?_
    exact TC.retF (Fin.body (fin1 (.inr rfl) rfl (.tmp rfl) [] rfl ⟨rfl, rfl⟩))

end Go.Proofs.Ytcombgcjgdkbiaa.G

/- impl.IsGroup, as a pure function. -/
set_option linter.unusedVariables false
namespace Go.Proofs.Ytcombgcjgdkbiaa.G
open Go Go.Sx Go.Proofs

def impl_IsGroup.b0 (r_8 : Int) (g1 : Int) (g2 : Nat → UInt8) (x1 : Int) (x2 : Int) : Int → Option (LR Int (LR Int (LR Int Bool))) := fun x3 => (bif (decide (x3 < r_8)) then (G.impl_Group_times.f g1 g2 x1 x2).bind (fun r_9 => (G.impl_Group_times.f g1 g2 r_9 x3).bind (fun r_10 => (G.impl_Group_times.f g1 g2 x2 x3).bind (fun r_11 => (G.impl_Group_times.f g1 g2 x1 r_11).bind (fun r_12 => (bif (r_10 != r_12) then some (.ret (.ret (.ret (false)))) else some (.next (w64 (x3 + 1)))))))) else some (.brk x3))

def impl_IsGroup.b1 (r_7 : Int) (g1 : Int) (g2 : Nat → UInt8) (x1 : Int) : Int → Option (LR Int (LR Int Bool)) := fun x2 => (bif (decide (x2 < r_7)) then (G.impl_Group_n.f g1 g2).bind (fun r_8 => (loop (impl_IsGroup.b0 r_8 g1 g2 x1 x2) 0).bind (ln (fun x3 => some (.next (w64 (x2 + 1)))))) else some (.brk x2))

def impl_IsGroup.b2 (r_3 : Int) (g1 : Int) (g2 : Nat → UInt8) : Int → Option (LR Int Bool) := fun x1 => (bif (decide (x1 < r_3)) then (G.impl_Group_times.f g1 g2 0 x1).bind (fun r_4 => (bif (r_4 != x1) then some true else (G.impl_Group_times.f g1 g2 x1 0).bind (fun r_5 => some (r_5 != x1))).bind (fun b_3 => (bif b_3 then some true else (G.impl_Group_inverse.f g1 g2 x1).bind (fun r_6 => some (decide (r_6 < 0)))).bind (fun b_4 => (bif b_4 then some (.ret (false)) else (G.impl_Group_n.f g1 g2).bind (fun r_7 => (loop (impl_IsGroup.b1 r_7 g1 g2 x1) 0).bind (ln (fun x2 => some (.next (w64 (x1 + 1)))))))))) else some (.brk x1))

def impl_IsGroup.f (g1 : Int) (g2 : Nat → UInt8) : Option Bool := (G.impl_in.f g1 1 6).bind (fun r_1 => (bif (!r_1) then some true else (G.impl_Group_entriesOk.f g1 g2).bind (fun r_2 => some (!r_2))).bind (fun b_2 => (bif b_2 then some false else (G.impl_Group_n.f g1 g2).bind (fun r_3 => (loop (impl_IsGroup.b2 r_3 g1 g2) 0).bind (ln (fun x1 => some true))))))

def impl_IsGroup.R (r : Bool) (v : Value) (L : List Asn) : Prop := v = .bool r ∧ L = []

set_option maxRecDepth 100000 in
set_option maxHeartbeats 4000000 in
theorem impl_IsGroup.calls (w : World) (g1 : Int) (g2 : Nat → UInt8) :
    ∀ r, impl_IsGroup.f g1 g2 = some r → Calls Try.prog 64 #[sval [.one (.int .i64 g1), .arr 36 (enf u8v g2)]] w (Ret w (impl_IsGroup.R r)) := by

  refine calls_T (n := 55) (Γ := [(0, sval [.one (.int .i64 g1), .arr 36 (enf u8v g2)])]) (R := impl_IsGroup.R) Try.func64 rfl rfl (Nat.le_of_ble_eq_true rfl) ⟨rfl, trivial⟩ ?_
  unfold impl_IsGroup.f
  refine TC.seq ?_
  refine TC.region ?_
  refine TL.box [.one (.int .i64 g1), .arr 36 (enf u8v g2)] rfl rfl rfl rfl fun b_1 => ?_
  refine TL.assign rfl rfl (v := .bool false) rfl ?_
  refine TL.done ?_
  refine TC.seq ?_
  refine TC.seq ?_
  refine TC.region ?_
  refine TL.fa Try.underlying37 rfl Try.sizeOf2 rfl 0 rfl rfl rfl rfl ?_
  refine TL.load1 0 (Src.box 0 rfl) Try.isAgg2 rfl rfl rfl rfl rfl ?_
  refine TL.call (R := G.impl_in.R) Try.call57 rfl rfl rfl (fun w hS => G.impl_in.calls w g1 1 6) ?_
  rintro r_1 _ _ ⟨rfl, rfl⟩
  refine TL.not r_1 rfl rfl rfl ?_
  refine TL.move rfl rfl (v := .bool (!r_1)) rfl ?_
  refine TL.cutJ (σ := Bool) (γ := Unit) (Γ' := fun b_2 _ => [(13, .bool b_2), (0, sval [.one (.int .i64 g1), .arr 36 (enf u8v g2)]), (1, bp b_1 0), (2, .bool false), (6, bp b_1 0), (7, .int .i64 g1), (8, .bool r_1), (9, .bool (!r_1)), (10, .bool (!r_1))]) (L' := fun _ _ => [box b_1 37 [.one (.int .i64 g1), .arr 36 (enf u8v g2)]]) 3 ?_ ?_
  · refine TL.ifb (t := 10) (b := (!r_1)) rfl (fun c1 => ?_) (fun c2 => ?_)
    · refine TL.skip rfl rfl (by decide) ?_
      refine TL.skip rfl rfl (by decide) ?_
      refine TL.pick rfl rfl (b := true) rfl (r := .bool true) rfl ?_
      refine TL.done ?_
      exact TC.nrm (true) () ⟨rfl, rfl, rfl, rfl, rfl, rfl, rfl, rfl, (by rw [c1]; rfl), trivial⟩ [0] rfl
    · refine TL.call (R := G.impl_Group_entriesOk.R) Try.call114 rfl rfl rfl (fun w hS => G.impl_Group_entriesOk.calls w b_1 g1 g2 ((Src.box 0 rfl) w hS)) ?_
      rintro r_2 _ _ ⟨rfl, rfl⟩
      refine TL.not r_2 rfl rfl rfl ?_
      refine TL.pick rfl rfl (b := false) rfl (r := .bool (!r_2)) rfl ?_
      refine TL.done ?_
      exact TC.nrm ((!r_2)) () ⟨rfl, rfl, rfl, rfl, rfl, rfl, rfl, rfl, (by rw [c2]; rfl), trivial⟩ [0] rfl
  · rintro b_2 _
    refine TL.done ?_
    refine TC.cond (b := b_2) rfl (fun c3 => ?_) (fun c4 => ?_)
    · refine TC.seq ?_
      refine TC.region ?_
      refine TL.assign rfl rfl (v := .bool false) rfl ?_
      refine TL.done ?_
      exact TC.retF (Fin.body (fin1 (.inr rfl) rfl (.tmp rfl) [] rfl ⟨rfl, rfl⟩))
    · refine TC.skip ?_
      refine TC.seq ?_
      refine TC.seq ?_
      refine TC.region ?_
      refine TL.call (R := G.impl_Group_n.R) Try.call65 rfl rfl rfl (fun w hS => G.impl_Group_n.calls w b_1 g1 g2 ((Src.box 0 rfl) w hS)) ?_
      rintro r_3 _ _ ⟨rfl, rfl⟩
      refine TL.move rfl rfl (v := .int .i64 0) rfl ?_
      refine TL.done ?_
      refine TC.loopK (σ := Int) (γ := Unit) (Γ' := (fun x1 _ => [(1, bp b_1 0), (14, .int .i64 r_3), (15, .int .i64 x1)])) (L' := (fun x1 _ => [box b_1 37 [.one (.int .i64 g1), .arr 36 (enf u8v g2)]])) (Γb := (fun x1 _ => [(1, bp b_1 0), (14, .int .i64 r_3), (15, .int .i64 x1)])) (Lb := (fun x1 _ => [box b_1 37 [.one (.int .i64 g1), .arr 36 (enf u8v g2)]])) (0) (()) ⟨rfl, rfl, rfl, trivial⟩ [0] rfl ?_ ?_
      · rintro x1 _
        refine TC.seq ?_
        refine TC.region ?_
        refine TL.bin .i64 x1 r_3 rfl rfl rfl rfl (v := .bool (decide (x1 < r_3))) rfl ?_
        refine TL.done ?_
        refine TC.seq ?_
        refine TC.cond (b := (decide (x1 < r_3))) rfl (fun c5 => ?_) (fun c6 => ?_)
        · refine TC.skip ?_
          refine TC.seq ?_
          refine TC.block (NoEx.loop rfl NoEx.body) ?_
          refine TC.seq ?_
          refine TC.region ?_
          refine TL.move rfl rfl (v := .int .i64 x1) rfl ?_
          refine TL.assign rfl rfl (v := .int .i64 x1) rfl ?_
          refine TL.done ?_
          refine TC.seq ?_
          refine TC.seq ?_
          refine TC.region ?_
          refine TL.move rfl rfl (v := .int .i64 x1) rfl ?_
          refine TL.call (R := G.impl_Group_times.R) Try.call66 rfl rfl rfl (fun w hS => G.impl_Group_times.calls w b_1 g1 g2 0 x1 ((Src.box 0 rfl) w hS)) ?_
          rintro r_4 _ _ ⟨rfl, rfl⟩
          refine TL.move rfl rfl (v := .int .i64 x1) rfl ?_
          refine TL.bin .i64 r_4 x1 rfl rfl rfl rfl (v := .bool (r_4 != x1)) rfl ?_
          refine TL.move rfl rfl (v := .bool (r_4 != x1)) rfl ?_
          refine TL.cutJ (σ := Bool) (γ := Unit) (Γ' := fun b_3 _ => [(27, .bool b_3), (1, bp b_1 0), (14, .int .i64 r_3), (15, .int .i64 x1), (16, .bool (decide (x1 < r_3))), (17, .int .i64 x1), (3, .int .i64 x1), (18, .int .i64 x1), (19, .int .i64 r_4), (20, .int .i64 x1), (21, .bool (r_4 != x1)), (22, .bool (r_4 != x1))]) (L' := fun _ _ => [box b_1 37 [.one (.int .i64 g1), .arr 36 (enf u8v g2)]]) 5 ?_ ?_
          · refine TL.ifb (t := 22) (b := (r_4 != x1)) rfl (fun c7 => ?_) (fun c8 => ?_)
            · refine TL.skip rfl rfl (by decide) ?_
              refine TL.skip rfl rfl (by decide) ?_
              refine TL.skip rfl rfl (by decide) ?_
              refine TL.skip rfl rfl (by decide) ?_
              refine TL.pick rfl rfl (b := true) rfl (r := .bool true) rfl ?_
              refine TL.done ?_
              exact TC.nrm (true) () ⟨rfl, rfl, rfl, rfl, rfl, rfl, rfl, rfl, rfl, rfl, rfl, (by rw [c7]; rfl), trivial⟩ [0] rfl
            · refine TL.move rfl rfl (v := .int .i64 x1) rfl ?_
              refine TL.call (R := G.impl_Group_times.R) Try.call66 rfl rfl rfl (fun w hS => G.impl_Group_times.calls w b_1 g1 g2 x1 0 ((Src.box 0 rfl) w hS)) ?_
              rintro r_5 _ _ ⟨rfl, rfl⟩
              refine TL.move rfl rfl (v := .int .i64 x1) rfl ?_
              refine TL.bin .i64 r_5 x1 rfl rfl rfl rfl (v := .bool (r_5 != x1)) rfl ?_
              refine TL.pick rfl rfl (b := false) rfl (r := .bool (r_5 != x1)) rfl ?_
              refine TL.done ?_
              exact TC.nrm ((r_5 != x1)) () ⟨rfl, rfl, rfl, rfl, rfl, rfl, rfl, rfl, rfl, rfl, rfl, (by rw [c8]; rfl), trivial⟩ [0] rfl
          · rintro b_3 _
            refine TL.move rfl rfl (v := .bool b_3) rfl ?_
            refine TL.cutJ (σ := Bool) (γ := Unit) (Γ' := fun b_4 _ => [(32, .bool b_4), (1, bp b_1 0), (14, .int .i64 r_3), (15, .int .i64 x1), (16, .bool (decide (x1 < r_3))), (17, .int .i64 x1), (3, .int .i64 x1), (18, .int .i64 x1), (19, .int .i64 r_4), (20, .int .i64 x1), (21, .bool (r_4 != x1)), (22, .bool (r_4 != x1)), (27, .bool b_3), (28, .bool b_3)]) (L' := fun _ _ => [box b_1 37 [.one (.int .i64 g1), .arr 36 (enf u8v g2)]]) 4 ?_ ?_
            · refine TL.ifb (t := 28) (b := b_3) rfl (fun c9 => ?_) (fun c10 => ?_)
              · refine TL.skip rfl rfl (by decide) ?_
                refine TL.skip rfl rfl (by decide) ?_
                refine TL.skip rfl rfl (by decide) ?_
                refine TL.pick rfl rfl (b := true) rfl (r := .bool true) rfl ?_
                refine TL.done ?_
                exact TC.nrm (true) () ⟨rfl, rfl, rfl, rfl, rfl, rfl, rfl, rfl, rfl, rfl, rfl, rfl, rfl, (by rw [c9]; rfl), trivial⟩ [0] rfl
              · refine TL.move rfl rfl (v := .int .i64 x1) rfl ?_
                refine TL.call (R := G.impl_Group_inverse.R) Try.call72 rfl rfl rfl (fun w hS => G.impl_Group_inverse.calls w b_1 g1 g2 x1 ((Src.box 0 rfl) w hS)) ?_
                rintro r_6 _ _ ⟨rfl, rfl⟩
                refine TL.bin .i64 r_6 0 rfl rfl rfl rfl (v := .bool (decide (r_6 < 0))) rfl ?_
                refine TL.pick rfl rfl (b := false) rfl (r := .bool (decide (r_6 < 0))) rfl ?_
                refine TL.done ?_
                exact TC.nrm ((decide (r_6 < 0))) () ⟨rfl, rfl, rfl, rfl, rfl, rfl, rfl, rfl, rfl, rfl, rfl, rfl, rfl, (by rw [c10]; rfl), trivial⟩ [0] rfl
            · rintro b_4 _
              refine TL.done ?_
              refine TC.cond (b := b_4) rfl (fun c11 => ?_) (fun c12 => ?_)
              · refine TC.seq ?_
                refine TC.region ?_
                refine TL.assign rfl rfl (v := .bool false) rfl ?_
                refine TL.done ?_
                exact TC.retF (Fin.loop Far.ret (Fin.body (fin1 (.inr rfl) rfl (.tmp rfl) [] rfl ⟨rfl, rfl⟩)))
              · refine TC.skip ?_
                refine TC.seq ?_
                refine TC.region ?_
                refine TL.call (R := G.impl_Group_n.R) Try.call65 rfl rfl rfl (fun w hS => G.impl_Group_n.calls w b_1 g1 g2 ((Src.box 0 rfl) w hS)) ?_
                rintro r_7 _ _ ⟨rfl, rfl⟩
                refine TL.move rfl rfl (v := .int .i64 0) rfl ?_
                refine TL.done ?_
                refine TC.loopK (σ := Int) (γ := Unit) (Γ' := (fun x2 _ => [(1, bp b_1 0), (3, .int .i64 x1), (14, .int .i64 r_3), (15, .int .i64 x1), (33, .int .i64 r_7), (34, .int .i64 x2)])) (L' := (fun x2 _ => [box b_1 37 [.one (.int .i64 g1), .arr 36 (enf u8v g2)]])) (Γb := (fun x2 _ => [(1, bp b_1 0), (3, .int .i64 x1), (14, .int .i64 r_3), (15, .int .i64 x1), (33, .int .i64 r_7), (34, .int .i64 x2)])) (Lb := (fun x2 _ => [box b_1 37 [.one (.int .i64 g1), .arr 36 (enf u8v g2)]])) (0) (()) ⟨rfl, rfl, rfl, rfl, rfl, rfl, trivial⟩ [0] rfl ?_ ?_
                · rintro x2 _
                  refine TC.seq ?_
                  refine TC.region ?_
                  refine TL.bin .i64 x2 r_7 rfl rfl rfl rfl (v := .bool (decide (x2 < r_7))) rfl ?_
                  refine TL.done ?_
                  refine TC.seq ?_
                  refine TC.cond (b := (decide (x2 < r_7))) rfl (fun c13 => ?_) (fun c14 => ?_)
                  · refine TC.skip ?_
                    refine TC.seq ?_
                    refine TC.block (NoEx.loop rfl (NoEx.loop rfl NoEx.body)) ?_
                    refine TC.seq ?_
                    refine TC.region ?_
                    refine TL.move rfl rfl (v := .int .i64 x2) rfl ?_
                    refine TL.assign rfl rfl (v := .int .i64 x2) rfl ?_
                    refine TL.done ?_
                    refine TC.seq ?_
                    refine TC.region ?_
                    refine TL.call (R := G.impl_Group_n.R) Try.call65 rfl rfl rfl (fun w hS => G.impl_Group_n.calls w b_1 g1 g2 ((Src.box 0 rfl) w hS)) ?_
                    rintro r_8 _ _ ⟨rfl, rfl⟩
                    refine TL.move rfl rfl (v := .int .i64 0) rfl ?_
                    refine TL.done ?_
                    refine TC.loopK (σ := Int) (γ := Unit) (Γ' := (fun x3 _ => [(1, bp b_1 0), (3, .int .i64 x1), (4, .int .i64 x2), (14, .int .i64 r_3), (15, .int .i64 x1), (33, .int .i64 r_7), (34, .int .i64 x2), (37, .int .i64 r_8), (38, .int .i64 x3)])) (L' := (fun x3 _ => [box b_1 37 [.one (.int .i64 g1), .arr 36 (enf u8v g2)]])) (Γb := (fun x3 _ => [(1, bp b_1 0), (3, .int .i64 x1), (4, .int .i64 x2), (14, .int .i64 r_3), (15, .int .i64 x1), (33, .int .i64 r_7), (34, .int .i64 x2), (37, .int .i64 r_8), (38, .int .i64 x3)])) (Lb := (fun x3 _ => [box b_1 37 [.one (.int .i64 g1), .arr 36 (enf u8v g2)]])) (0) (()) ⟨rfl, rfl, rfl, rfl, rfl, rfl, rfl, rfl, rfl, trivial⟩ [0] rfl ?_ ?_
                    · rintro x3 _
                      refine TC.seq ?_
                      refine TC.region ?_
                      refine TL.bin .i64 x3 r_8 rfl rfl rfl rfl (v := .bool (decide (x3 < r_8))) rfl ?_
                      refine TL.done ?_
                      refine TC.seq ?_
                      refine TC.cond (b := (decide (x3 < r_8))) rfl (fun c15 => ?_) (fun c16 => ?_)
                      · refine TC.skip ?_
                        refine TC.seq ?_
                        refine TC.block (NoEx.loop rfl (NoEx.loop rfl (NoEx.loop rfl NoEx.body))) ?_
                        refine TC.seq ?_
                        refine TC.region ?_
                        refine TL.move rfl rfl (v := .int .i64 x3) rfl ?_
                        refine TL.assign rfl rfl (v := .int .i64 x3) rfl ?_
                        refine TL.done ?_
                        refine TC.seq ?_
                        refine TC.region ?_
                        refine TL.move rfl rfl (v := .int .i64 x1) rfl ?_
                        refine TL.move rfl rfl (v := .int .i64 x2) rfl ?_
                        refine TL.call (R := G.impl_Group_times.R) Try.call66 rfl rfl rfl (fun w hS => G.impl_Group_times.calls w b_1 g1 g2 x1 x2 ((Src.box 0 rfl) w hS)) ?_
                        rintro r_9 _ _ ⟨rfl, rfl⟩
                        refine TL.move rfl rfl (v := .int .i64 x3) rfl ?_
                        refine TL.call (R := G.impl_Group_times.R) Try.call66 rfl rfl rfl (fun w hS => G.impl_Group_times.calls w b_1 g1 g2 r_9 x3 ((Src.box 0 rfl) w hS)) ?_
                        rintro r_10 _ _ ⟨rfl, rfl⟩
                        refine TL.move rfl rfl (v := .int .i64 x1) rfl ?_
                        refine TL.move rfl rfl (v := .int .i64 x2) rfl ?_
                        refine TL.move rfl rfl (v := .int .i64 x3) rfl ?_
                        refine TL.call (R := G.impl_Group_times.R) Try.call66 rfl rfl rfl (fun w hS => G.impl_Group_times.calls w b_1 g1 g2 x2 x3 ((Src.box 0 rfl) w hS)) ?_
                        rintro r_11 _ _ ⟨rfl, rfl⟩
                        refine TL.call (R := G.impl_Group_times.R) Try.call66 rfl rfl rfl (fun w hS => G.impl_Group_times.calls w b_1 g1 g2 x1 r_11 ((Src.box 0 rfl) w hS)) ?_
                        rintro r_12 _ _ ⟨rfl, rfl⟩
                        refine TL.bin .i64 r_10 r_12 rfl rfl rfl rfl (v := .bool (r_10 != r_12)) rfl ?_
                        refine TL.done ?_
                        refine TC.cond (b := (r_10 != r_12)) rfl (fun c17 => ?_) (fun c18 => ?_)
                        · refine TC.seq ?_
                          refine TC.region ?_
                          refine TL.assign rfl rfl (v := .bool false) rfl ?_
                          refine TL.done ?_
                          exact TC.retF (Fin.loop Far.ret (Fin.loop Far.ret (Fin.loop Far.ret (Fin.body (fin1 (.inr rfl) rfl (.tmp rfl) [] rfl ⟨rfl, rfl⟩)))))
                        · refine TC.skip ?_
                          refine TC.region ?_
                          refine TL.bin .i64 x3 1 rfl rfl rfl rfl (v := .int .i64 (w64 (x3 + 1))) rfl ?_
                          refine TL.move rfl rfl (v := .int .i64 (w64 (x3 + 1))) rfl ?_
                          refine TL.done ?_
                          exact TC.next ((w64 (x3 + 1))) (()) ⟨rfl, rfl, rfl, rfl, rfl, rfl, rfl, rfl, rfl, trivial⟩ [0] rfl
                      · exact TC.brk (x3) (()) ⟨rfl, rfl, rfl, rfl, rfl, rfl, rfl, rfl, rfl, trivial⟩ [0] rfl
                    · rintro x3 _
                      refine TC.region ?_
                      refine TL.bin .i64 x2 1 rfl rfl rfl rfl (v := .int .i64 (w64 (x2 + 1))) rfl ?_
                      refine TL.move rfl rfl (v := .int .i64 (w64 (x2 + 1))) rfl ?_
                      refine TL.done ?_
                      exact TC.next ((w64 (x2 + 1))) (()) ⟨rfl, rfl, rfl, rfl, rfl, rfl, trivial⟩ [0] rfl
                  · exact TC.brk (x2) (()) ⟨rfl, rfl, rfl, rfl, rfl, rfl, trivial⟩ [0] rfl
                · rintro x2 _
                  refine TC.region ?_
                  refine TL.bin .i64 x1 1 rfl rfl rfl rfl (v := .int .i64 (w64 (x1 + 1))) rfl ?_
                  refine TL.move rfl rfl (v := .int .i64 (w64 (x1 + 1))) rfl ?_
                  refine TL.done ?_
                  exact TC.next ((w64 (x1 + 1))) (()) ⟨rfl, rfl, rfl, trivial⟩ [0] rfl
        · exact TC.brk (x1) (()) ⟨rfl, rfl, rfl, trivial⟩ [0] rfl
      · rintro x1 _
        refine TC.seq ?_
        refine TC.region ?_
        refine TL.assign rfl rfl (v := .bool true) rfl ?_
        refine TL.done ?_
        exact TC.retF (Fin.body (fin1 (.inr rfl) rfl (.tmp rfl) [] rfl ⟨rfl, rfl⟩))

end Go.Proofs.Ytcombgcjgdkbiaa.G

/- slices.Index[[]int64,int64], as a pure function. -/
set_option linter.unusedVariables false
namespace Go.Proofs.Ytcombgcjgdkbiaa.G
open Go Go.Sx Go.Proofs

def slices_Index_int64_int64.b0 (s1 : List Int) (v_1 : Int) : Int → Option (LR Int Int) := fun x1 => (bif (decide (x1 < (s1.length : Int))) then chk x1 s1.length ((bif (v_1 == (gt s1 x1)) then some (.ret (x1)) else some (.next (w64 (x1 + 1))))) else some (.brk x1))

def slices_Index_int64_int64.f (s1 : List Int) (v_1 : Int) : Option Int := (loop (slices_Index_int64_int64.b0 s1 v_1) 0).bind (ln (fun x1 => some (-1)))

def slices_Index_int64_int64.R (r : Int) (v : Value) (L : List Asn) : Prop := v = .int .i64 r ∧ L = []

set_option maxRecDepth 100000 in
set_option maxHeartbeats 4000000 in
theorem slices_Index_int64_int64.calls (w : World) (s2 : SV) (s1 : List Int) (v_1 : Int) (h1 : Reads Ei (hp w) s2 s1) :
    ∀ r, slices_Index_int64_int64.f s1 v_1 = some r → Calls Try.prog 126 #[SV.v s2, .int .i64 v_1] w (Ret w (slices_Index_int64_int64.R r)) := by

  refine calls_T (n := 19) (Γ := [(0, SV.v s2), (1, .int .i64 v_1)]) (R := slices_Index_int64_int64.R) Try.func126 rfl rfl (Nat.le_of_ble_eq_true rfl) ⟨rfl, rfl, trivial⟩ ?_
  unfold slices_Index_int64_int64.f
  refine TC.seq ?_
  refine TC.region ?_
  refine TL.assign rfl rfl (v := .int .i64 0) rfl ?_
  refine TL.done ?_
  refine TC.seq ?_
  refine TC.seq ?_
  refine TC.region ?_
  refine TL.move rfl rfl (v := SV.v s2) rfl ?_
  refine TL.len (Rd.old h1) Try.underlying22 rfl rfl rfl ?_
  refine TL.move rfl rfl (v := .int .i64 0) rfl ?_
  refine TL.done ?_
  refine TC.loopK (σ := Int) (γ := Unit) (Γ' := (fun x1 _ => [(0, SV.v s2), (1, .int .i64 v_1), (7, .int .i64 (s1.length : Int)), (8, .int .i64 x1)])) (L' := (fun x1 _ => [])) (Γb := (fun x1 _ => [(0, SV.v s2), (1, .int .i64 v_1), (7, .int .i64 (s1.length : Int)), (8, .int .i64 x1)])) (Lb := (fun x1 _ => [])) (0) (()) ⟨rfl, rfl, rfl, rfl, trivial⟩ [] rfl ?_ ?_
  · rintro x1 _
    refine TC.seq ?_
    refine TC.region ?_
    refine TL.bin .i64 x1 (s1.length : Int) rfl rfl rfl rfl (v := .bool (decide (x1 < (s1.length : Int)))) rfl ?_
    refine TL.done ?_
    refine TC.seq ?_
    refine TC.cond (b := (decide (x1 < (s1.length : Int)))) rfl (fun c1 => ?_) (fun c2 => ?_)
    · refine TC.skip ?_
      refine TC.seq ?_
      refine TC.block (NoEx.loop rfl NoEx.body) ?_
      refine TC.seq ?_
      refine TC.region ?_
      refine TL.move rfl rfl (v := .int .i64 x1) rfl ?_
      refine TL.assign rfl rfl (v := .int .i64 x1) rfl ?_
      refine TL.done ?_
      refine TC.seq ?_
      refine TC.region ?_
      refine TL.move rfl rfl (v := .int .i64 v_1) rfl ?_
      refine TL.move rfl rfl (v := SV.v s2) rfl ?_
      refine TL.move rfl rfl (v := .int .i64 x1) rfl ?_
      refine TL.chk fun h2 => ?_
      refine TL.ixs x1 x1.toNat (Rd.old h1) h2 Try.underlying22 Try.sizeOf2 rfl rfl rfl rfl (by omega) ?_
      refine TL.loadE (Rd.old h1) Try.isAgg2 x1.toNat 0 (gt_spec h2) (v := .int .i64 (gt s1 x1)) rfl (by simp only [show Ei.sz = 1 from rfl]; omega) rfl rfl rfl ?_
      refine TL.bin .i64 v_1 (gt s1 x1) rfl rfl rfl rfl (v := .bool (v_1 == (gt s1 x1))) rfl ?_
      refine TL.done ?_
      refine TC.cond (b := (v_1 == (gt s1 x1))) rfl (fun c3 => ?_) (fun c4 => ?_)
      · refine TC.seq ?_
        refine TC.region ?_
        refine TL.move rfl rfl (v := .int .i64 x1) rfl ?_
        refine TL.assign rfl rfl (v := .int .i64 x1) rfl ?_
        refine TL.done ?_
        exact TC.retF (Fin.loop Far.ret (Fin.body (fin1 (.inr rfl) rfl (.tmp rfl) [] rfl ⟨rfl, rfl⟩)))
      · refine TC.skip ?_
        refine TC.region ?_
        refine TL.bin .i64 x1 1 rfl rfl rfl rfl (v := .int .i64 (w64 (x1 + 1))) rfl ?_
        refine TL.move rfl rfl (v := .int .i64 (w64 (x1 + 1))) rfl ?_
        refine TL.done ?_
        exact TC.next ((w64 (x1 + 1))) (()) ⟨rfl, rfl, rfl, rfl, trivial⟩ [] rfl
    · exact TC.brk (x1) (()) ⟨rfl, rfl, rfl, rfl, trivial⟩ [] rfl
  · rintro x1 _
    refine TC.seq ?_
    refine TC.region ?_
    refine TL.assign rfl rfl (v := .int .i64 (-1)) rfl ?_
    refine TL.done ?_
    exact TC.retF (Fin.body (fin1 (.inr rfl) rfl (.tmp rfl) [] rfl ⟨rfl, rfl⟩))

end Go.Proofs.Ytcombgcjgdkbiaa.G

/- slices.Contains[[]int64,int64], as a pure function. -/
set_option linter.unusedVariables false
namespace Go.Proofs.Ytcombgcjgdkbiaa.G
open Go Go.Sx Go.Proofs

def slices_Contains_int64_int64.f (s1 : List Int) (v_1 : Int) : Option Bool := (G.slices_Index_int64_int64.f s1 v_1).bind (fun r_1 => some (decide (r_1 ≥ 0)))

def slices_Contains_int64_int64.R (r : Bool) (v : Value) (L : List Asn) : Prop := v = .bool r ∧ L = []

set_option maxRecDepth 100000 in
set_option maxHeartbeats 4000000 in
theorem slices_Contains_int64_int64.calls (w : World) (s2 : SV) (s1 : List Int) (v_1 : Int) (h1 : Reads Ei (hp w) s2 s1) :
    ∀ r, slices_Contains_int64_int64.f s1 v_1 = some r → Calls Try.prog 117 #[SV.v s2, .int .i64 v_1] w (Ret w (slices_Contains_int64_int64.R r)) := by

  refine calls_T (n := 9) (Γ := [(0, SV.v s2), (1, .int .i64 v_1)]) (R := slices_Contains_int64_int64.R) Try.func117 rfl rfl (Nat.le_of_ble_eq_true rfl) ⟨rfl, rfl, trivial⟩ ?_
  unfold slices_Contains_int64_int64.f
  refine TC.seq ?_
  refine TC.region ?_
  refine TL.assign rfl rfl (v := .bool false) rfl ?_
  refine TL.done ?_
  refine TC.seq ?_
  refine TC.region ?_
  refine TL.move rfl rfl (v := SV.v s2) rfl ?_
  refine TL.move rfl rfl (v := .int .i64 v_1) rfl ?_
  refine TL.call (R := G.slices_Index_int64_int64.R) Try.call126 rfl rfl rfl (fun w hS => G.slices_Index_int64_int64.calls w s2 s1 v_1 ((Rd.old h1) w hS)) ?_
  rintro r_1 _ _ ⟨rfl, rfl⟩
  refine TL.bin .i64 r_1 0 rfl rfl rfl rfl (v := .bool (decide (r_1 ≥ 0))) rfl ?_
  refine TL.assign rfl rfl (v := .bool (decide (r_1 ≥ 0))) rfl ?_
  refine TL.done ?_
  exact TC.retF (Fin.body (fin1 (.inr rfl) rfl (.tmp rfl) [] rfl ⟨rfl, rfl⟩))

end Go.Proofs.Ytcombgcjgdkbiaa.G

/- impl.isPrime, as a pure function. -/
set_option linter.unusedVariables false
namespace Go.Proofs.Ytcombgcjgdkbiaa.G
open Go Go.Sx Go.Proofs

def impl_isPrime.f (p1 : Int) : Option Bool := (G.slices_Contains_int64_int64.f ([2, 3, 5, 7, 11, 13] : List Int) p1).bind (fun r_1 => some r_1)

def impl_isPrime.R (r : Bool) (v : Value) (L : List Asn) : Prop := v = .bool r ∧ L = []

set_option maxRecDepth 100000 in
set_option maxHeartbeats 4000000 in
theorem impl_isPrime.calls (w : World) (p1 : Int) :
    ∀ r, impl_isPrime.f p1 = some r → Calls Try.prog 76 #[.int .i64 p1] w (Ret w (impl_isPrime.R r)) := by

  refine calls_T (n := 6) (Γ := [(0, .int .i64 p1)]) (R := impl_isPrime.R) Try.func76 rfl rfl (Nat.le_of_ble_eq_true rfl) ⟨rfl, trivial⟩ ?_
  unfold impl_isPrime.f
  refine TC.seq ?_
  refine TC.region ?_
  refine TL.assign rfl rfl (v := .bool false) rfl ?_
  refine TL.done ?_
  refine TC.seq ?_
  refine TC.region ?_
  refine TL.blit Ei ([2, 3, 5, 7, 11, 13] : List Int) Try.underlying22 Try.sizeOf2 Try.zeroValue2 rfl rfl rfl [(0, .int .i64 2), (1, .int .i64 3), (2, .int .i64 5), (3, .int .i64 7), (4, .int .i64 11), (5, .int .i64 13)] rfl ⟨rfl, rfl, rfl, rfl, rfl, rfl, rfl, rfl, rfl, rfl, rfl, rfl, trivial⟩ rfl rfl fun s1 => ?_
  refine TL.move rfl rfl (v := .int .i64 p1) rfl ?_
  refine TL.call (R := G.slices_Contains_int64_int64.R) Try.call117 rfl rfl rfl (fun w hS => G.slices_Contains_int64_int64.calls w s1 ([2, 3, 5, 7, 11, 13] : List Int) p1 ((Rd.row 0 rfl) w hS)) ?_
  rintro r_1 _ _ ⟨rfl, rfl⟩
  refine TL.assign rfl rfl (v := .bool r_1) rfl ?_
  refine TL.done ?_
  exact TC.retF (Fin.body (fin1 (.inr rfl) rfl (.tmp rfl) [] rfl ⟨rfl, rfl⟩))

end Go.Proofs.Ytcombgcjgdkbiaa.G

/- impl.primed, as a pure function. -/
set_option linter.unusedVariables false
namespace Go.Proofs.Ytcombgcjgdkbiaa.G
open Go Go.Sx Go.Proofs

def impl_primed.f (p1 : Int) (g1 : Int) (g2 : Nat → UInt8) : Option Int := (G.impl_IsGroup.f g1 g2).bind (fun r_1 => (bif (!r_1) then some 1 else (G.impl_isPrime.f p1).bind (fun r_2 => (bif (!r_2) then some 2 else some 0))))

def impl_primed.R (r : Int) (v : Value) (L : List Asn) : Prop := v = .int .i64 r ∧ L = []

set_option maxRecDepth 100000 in
set_option maxHeartbeats 4000000 in
theorem impl_primed.calls (w : World) (p1 : Int) (g1 : Int) (g2 : Nat → UInt8) :
    ∀ r, impl_primed.f p1 g1 g2 = some r → Calls Try.prog 97 #[.int .i64 p1, sval [.one (.int .i64 g1), .arr 36 (enf u8v g2)]] w (Ret w (impl_primed.R r)) := by

  refine calls_T (n := 13) (Γ := [(0, .int .i64 p1), (1, sval [.one (.int .i64 g1), .arr 36 (enf u8v g2)])]) (R := impl_primed.R) Try.func97 rfl rfl (Nat.le_of_ble_eq_true rfl) ⟨rfl, rfl, trivial⟩ ?_
  unfold impl_primed.f
  refine TC.seq ?_
  refine TC.region ?_
  refine TL.box [.one (.int .i64 g1), .arr 36 (enf u8v g2)] rfl rfl rfl rfl fun b_1 => ?_
  refine TL.assign rfl rfl (v := .int .i64 0) rfl ?_
  refine TL.done ?_
  refine TC.seq ?_
  refine TC.block NoEx.body ?_
  refine TC.seq ?_
  refine TC.region ?_
  refine TL.loadM 0 2 (Src.box 0 rfl) Try.isAgg37 Try.sizeOf37 (mid := [.one (.int .i64 g1), .arr 36 (enf u8v g2)]) rfl rfl rfl rfl rfl rfl ?_
  refine TL.call (R := G.impl_IsGroup.R) Try.call64 rfl rfl rfl (fun w hS => G.impl_IsGroup.calls w g1 g2) ?_
  rintro r_1 _ _ ⟨rfl, rfl⟩
  refine TL.not r_1 rfl rfl rfl ?_
  refine TL.assign rfl rfl (v := .bool (!r_1)) rfl ?_
  refine TL.done ?_
  refine TC.cond (b := (!r_1)) rfl (fun c1 => ?_) (fun c2 => ?_)
  · refine TC.seq ?_
    refine TC.region ?_
    refine TL.assign rfl rfl (v := .int .i64 1) rfl ?_
    refine TL.done ?_
    exact TC.retF (Fin.body (fin1 (.inr rfl) rfl (.tmp rfl) [] rfl ⟨rfl, rfl⟩))
  · refine TC.seq ?_
    refine TC.region ?_
    refine TL.move rfl rfl (v := .int .i64 p1) rfl ?_
    refine TL.call (R := G.impl_isPrime.R) Try.call76 rfl rfl rfl (fun w hS => G.impl_isPrime.calls w p1) ?_
    rintro r_2 _ _ ⟨rfl, rfl⟩
    refine TL.not r_2 rfl rfl rfl ?_
    refine TL.assign rfl rfl (v := .bool (!r_2)) rfl ?_
    refine TL.done ?_
    refine TC.cond (b := (!r_2)) rfl (fun c3 => ?_) (fun c4 => ?_)
    · refine TC.seq ?_
      refine TC.region ?_
      refine TL.assign rfl rfl (v := .int .i64 2) rfl ?_
      refine TL.done ?_
      exact TC.retF (Fin.body (fin1 (.inr rfl) rfl (.tmp rfl) [] rfl ⟨rfl, rfl⟩))
    · refine TC.skip ?_
      refine TC.seq ?_
      refine TC.region ?_
      refine TL.assign rfl rfl (v := .int .i64 0) rfl ?_
      refine TL.done ?_
      exact TC.retF (Fin.body (fin1 (.inr rfl) rfl (.tmp rfl) [] rfl ⟨rfl, rfl⟩))

end Go.Proofs.Ytcombgcjgdkbiaa.G

/- slices.IndexFunc[[][]int64,[]int64], as a pure function. -/
set_option linter.unusedVariables false
namespace Go.Proofs.Ytcombgcjgdkbiaa.G
open Go Go.Sx Go.Proofs

def slices_IndexFunc_int64_int64_133.b0 (s1 : List (List Int)) (f2 : (List Int) → Option Bool) : Int → Option (LR Int Int) := fun x1 => (bif (decide (x1 < (s1.length : Int))) then chk x1 s1.length ((f2 (gt s1 x1)).bind (fun r_1 => (bif r_1 then some (.ret (x1)) else some (.next (w64 (x1 + 1)))))) else some (.brk x1))

def slices_IndexFunc_int64_int64_133.f (s1 : List (List Int)) (f2 : (List Int) → Option Bool) : Option Int := (loop (slices_IndexFunc_int64_int64_133.b0 s1 f2) 0).bind (ln (fun x1 => some (-1)))

def slices_IndexFunc_int64_int64_133.R (r : Int) (v : Value) (L : List Asn) : Prop := v = .int .i64 r ∧ L = []

set_option maxRecDepth 100000 in
set_option maxHeartbeats 4000000 in
theorem slices_IndexFunc_int64_int64_133.calls (w : World) (s2 : SV) (ss1 : List SV) (s1 : List (List Int)) (f1 : Nat) (fst1 : List Value) (cap1 : List Value) (f2 : (List Int) → Option Bool) (h1 : ReadsM Ei (hp w) s2 ss1 s1) (hc1 : ∀ (args_ : Array Value) (w_ : World), (callFunc f1 args_).run Try.prog w_ = .ok (.enter f1 args_) w_) (hf1 : ∀ w_, Hle (hp w) (hp w_) → ∀ (s1_ : SV) (x0_ : List Int), Reads Ei (hp w_) s1_ x0_ → ∀ r_, f2 x0_ = some r_ → Calls Try.prog f1 (fst1 ++ ([SV.v s1_] : List Value) ++ cap1).toArray w_ (Ret w_ (fun (v_ : Value) (L_ : List Asn) => v_ = .bool r_ ∧ L_ = []))) :
    ∀ r, slices_IndexFunc_int64_int64_133.f s1 f2 = some r → Calls Try.prog 133 #[SV.v s2, .func (.func f1) fst1.toArray cap1.toArray] w (Ret w (slices_IndexFunc_int64_int64_133.R r)) := by

  refine calls_T (n := 19) (Γ := [(0, SV.v s2), (1, .func (.func f1) fst1.toArray cap1.toArray)]) (R := slices_IndexFunc_int64_int64_133.R) Try.func133 rfl rfl (Nat.le_of_ble_eq_true rfl) ⟨rfl, rfl, trivial⟩ ?_
  unfold slices_IndexFunc_int64_int64_133.f
  refine TC.seq ?_
  refine TC.region ?_
  refine TL.assign rfl rfl (v := .int .i64 0) rfl ?_
  refine TL.done ?_
  refine TC.seq ?_
  refine TC.seq ?_
  refine TC.region ?_
  refine TL.move rfl rfl (v := SV.v s2) rfl ?_
  refine TL.lenM (RdM.old h1) Try.underlying53 rfl rfl rfl ?_
  refine TL.move rfl rfl (v := .int .i64 0) rfl ?_
  refine TL.done ?_
  refine TC.loopK (σ := Int) (γ := Unit) (Γ' := (fun x1 _ => [(0, SV.v s2), (1, .func (.func f1) fst1.toArray cap1.toArray), (7, .int .i64 (s1.length : Int)), (8, .int .i64 x1)])) (L' := (fun x1 _ => [])) (Γb := (fun x1 _ => [(0, SV.v s2), (1, .func (.func f1) fst1.toArray cap1.toArray), (7, .int .i64 (s1.length : Int)), (8, .int .i64 x1)])) (Lb := (fun x1 _ => [])) (0) (()) ⟨rfl, rfl, rfl, rfl, trivial⟩ [] rfl ?_ ?_
  · rintro x1 _
    refine TC.seq ?_
    refine TC.region ?_
    refine TL.bin .i64 x1 (s1.length : Int) rfl rfl rfl rfl (v := .bool (decide (x1 < (s1.length : Int)))) rfl ?_
    refine TL.done ?_
    refine TC.seq ?_
    refine TC.cond (b := (decide (x1 < (s1.length : Int)))) rfl (fun c1 => ?_) (fun c2 => ?_)
    · refine TC.skip ?_
      refine TC.seq ?_
      refine TC.block (NoEx.loop rfl NoEx.body) ?_
      refine TC.seq ?_
      refine TC.region ?_
      refine TL.move rfl rfl (v := .int .i64 x1) rfl ?_
      refine TL.assign rfl rfl (v := .int .i64 x1) rfl ?_
      refine TL.done ?_
      refine TC.seq ?_
      refine TC.region ?_
      refine TL.move rfl rfl (v := .func (.func f1) fst1.toArray cap1.toArray) rfl ?_
      refine TL.move rfl rfl (v := SV.v s2) rfl ?_
      refine TL.move rfl rfl (v := .int .i64 x1) rfl ?_
      refine TL.chk fun h2 => ?_
      refine TL.ixsM x1 x1.toNat (RdM.old h1) h2 Try.underlying53 Try.sizeOf22 rfl rfl rfl rfl (by omega) ?_
      refine TL.loadM2 (RdM.old h1) Try.isAgg22 x1 h2 (by omega) rfl rfl rfl ?_
      refine TL.callv (R := (fun r_ => (fun (v_ : Value) (L_ : List Asn) => v_ = .bool r_ ∧ L_ = []))) (vs := [SV.v (gt ss1 x1)]) hc1 rfl rfl rfl rfl (fun w hS => hf1 w hS.iw (gt ss1 x1) (gt s1 x1) ((RdM.inn (RdM.old h1) h2) w hS)) ?_
      rintro r_1 _ _ ⟨rfl, rfl⟩
      refine TL.done ?_
      refine TC.cond (b := r_1) rfl (fun c3 => ?_) (fun c4 => ?_)
      · refine TC.seq ?_
        refine TC.region ?_
        refine TL.move rfl rfl (v := .int .i64 x1) rfl ?_
        refine TL.assign rfl rfl (v := .int .i64 x1) rfl ?_
        refine TL.done ?_
        exact TC.retF (Fin.loop Far.ret (Fin.body (fin1 (.inr rfl) rfl (.tmp rfl) [] rfl ⟨rfl, rfl⟩)))
      · refine TC.skip ?_
        refine TC.region ?_
        refine TL.bin .i64 x1 1 rfl rfl rfl rfl (v := .int .i64 (w64 (x1 + 1))) rfl ?_
        refine TL.move rfl rfl (v := .int .i64 (w64 (x1 + 1))) rfl ?_
        refine TL.done ?_
        exact TC.next ((w64 (x1 + 1))) (()) ⟨rfl, rfl, rfl, rfl, trivial⟩ [] rfl
    · exact TC.brk (x1) (()) ⟨rfl, rfl, rfl, rfl, trivial⟩ [] rfl
  · rintro x1 _
    refine TC.seq ?_
    refine TC.region ?_
    refine TL.assign rfl rfl (v := .int .i64 (-1)) rfl ?_
    refine TL.done ?_
    exact TC.retF (Fin.body (fin1 (.inr rfl) rfl (.tmp rfl) [] rfl ⟨rfl, rfl⟩))

end Go.Proofs.Ytcombgcjgdkbiaa.G
