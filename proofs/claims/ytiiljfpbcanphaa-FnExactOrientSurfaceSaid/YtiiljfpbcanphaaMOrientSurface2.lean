/- Functions of the program, as pure functions. -/
import Derived.Test.YtiiljfpbcanphaaMOrientSurface1
import Derived.Test.YtiiljfpbcanphaaProg
/- spec.l07Touch, as a pure function. -/
set_option linter.unusedVariables false
namespace Go.Proofs.Ytiiljfpbcanphaa.G
open Go Go.Sx Go.Proofs

def spec_l07Touch.b0 (i1 : Int) (t1 : List Int) (u1 : List Int) : Bool × Bool × Int → Option (LB (Bool × Bool × Int)) := fun p => match p with | (touch2, same2, k_1) => (bif (decide (k_1 < 3)) then chk i1 t1.length ((G.spec_l07Edge.f (gt t1 i1)).bind (fun r_1 => chk k_1 u1.length ((G.spec_l07Edge.f (gt u1 k_1)).bind (fun r_2 => ((bif (r_1 == r_2) then (bif same2 then some (true, true) else some (true, ((gt t1 i1) == (gt u1 k_1)))) else some (touch2, same2))).bind (fun p => match p with | (touch3, same3) => some (.next (touch3, same3, (w64 (k_1 + 1))))))))) else some (.brk (touch2, same2, k_1)))

def spec_l07Touch.b1 (t1 : List Int) (u1 : List Int) : Bool × Bool × Int → Option (LB (Bool × Bool × Int)) := fun p => match p with | (touch1, same1, i1) => (bif (decide (i1 < 3)) then (loop1 (spec_l07Touch.b0 i1 t1 u1) (touch1, same1, 0)).bind (fun p => match p with | (touch2, same2, k_1) => some (.next (touch2, same2, (w64 (i1 + 1))))) else some (.brk (touch1, same1, i1)))

def spec_l07Touch.f (t1 : List Int) (u1 : List Int) : Option (Bool × Bool) := (loop1 (spec_l07Touch.b1 t1 u1) (false, false, 0)).bind (fun p => match p with | (touch1, same1, i1) => some (touch1, same1))

def spec_l07Touch.R (r : Bool × Bool) (v : Value) (L : List Asn) : Prop := v = .tuple #[.bool r.1, .bool r.2] ∧ L = []

set_option maxRecDepth 100000 in
set_option maxHeartbeats 4000000 in
theorem spec_l07Touch.calls (w : World) (s1 : SV) (t1 : List Int) (s2 : SV) (u1 : List Int) (h1 : Reads Ei (hp w) s1 t1) (h2 : Reads Ei (hp w) s2 u1) :
    ∀ r, spec_l07Touch.f t1 u1 = some r → Calls Try.prog 148 #[SV.v s1, SV.v s2] w (Ret w (spec_l07Touch.R r)) := by

  refine calls_T (n := 43) (Γ := [(0, SV.v s1), (1, SV.v s2)]) (R := spec_l07Touch.R) Try.func148 rfl rfl (Nat.le_of_ble_eq_true rfl) ⟨rfl, rfl, trivial⟩ ?_
  unfold spec_l07Touch.f
  refine TC.seq ?_
  refine TC.region ?_
  refine TL.assign rfl rfl (v := .bool false) rfl ?_
  refine TL.assign rfl rfl (v := .bool false) rfl ?_
  refine TL.done ?_
  refine TC.seq ?_
  refine TC.region ?_
  refine TL.assign rfl rfl (v := .bool false) rfl ?_
  refine TL.assign rfl rfl (v := .bool false) rfl ?_
  refine TL.done ?_
  refine TC.seq ?_
  refine TC.seq ?_
  refine TC.region ?_
  refine TL.assign rfl rfl (v := .int .i64 0) rfl ?_
  refine TL.done ?_
  refine TC.loop1 (σ := Bool × Bool × Int) (γ := Unit) (Γ' := (fun p q => match p, q with | (touch1, same1, i1), _ => [(0, SV.v s1), (1, SV.v s2), (6, .bool touch1), (7, .bool same1), (8, .int .i64 i1)])) (L' := (fun p q => match p, q with | (touch1, same1, i1), _ => [])) (Γb := (fun p q => match p, q with | (touch1, same1, i1), _ => [(0, SV.v s1), (1, SV.v s2), (6, .bool touch1), (7, .bool same1), (8, .int .i64 i1)])) (Lb := (fun p q => match p, q with | (touch1, same1, i1), _ => [])) ((false, false, 0)) (()) ⟨rfl, rfl, rfl, rfl, rfl, trivial⟩ [] rfl ?_ ?_
  · rintro ⟨touch1, same1, i1⟩ _
    refine TC.seq ?_
    refine TC.seq ?_
    refine TC.region ?_
    refine TL.move rfl rfl (v := .int .i64 i1) rfl ?_
    refine TL.bin .i64 i1 3 rfl rfl rfl rfl (v := .bool (decide (i1 < 3))) rfl ?_
    refine TL.done ?_
    refine TC.cond (b := (decide (i1 < 3))) rfl (fun c1 => ?_) (fun c2 => ?_)
    · refine TC.skip ?_
      refine TC.seq ?_
      refine TC.block (NoEx.loop1 rfl) ?_
      refine TC.seq ?_
      refine TC.region ?_
      refine TL.assign rfl rfl (v := .int .i64 0) rfl ?_
      refine TL.done ?_
      refine TC.loop1 (σ := Bool × Bool × Int) (γ := Unit) (Γ' := (fun p q => match p, q with | (touch2, same2, k_1), _ => [(0, SV.v s1), (1, SV.v s2), (6, .bool touch2), (7, .bool same2), (8, .int .i64 i1), (9, .int .i64 k_1)])) (L' := (fun p q => match p, q with | (touch2, same2, k_1), _ => [])) (Γb := (fun p q => match p, q with | (touch2, same2, k_1), _ => [(0, SV.v s1), (1, SV.v s2), (6, .bool touch2), (7, .bool same2), (8, .int .i64 i1), (9, .int .i64 k_1)])) (Lb := (fun p q => match p, q with | (touch2, same2, k_1), _ => [])) ((touch1, same1, 0)) (()) ⟨rfl, rfl, rfl, rfl, rfl, rfl, trivial⟩ [] rfl ?_ ?_
      · rintro ⟨touch2, same2, k_1⟩ _
        refine TC.seq ?_
        refine TC.seq ?_
        refine TC.region ?_
        refine TL.move rfl rfl (v := .int .i64 k_1) rfl ?_
        refine TL.bin .i64 k_1 3 rfl rfl rfl rfl (v := .bool (decide (k_1 < 3))) rfl ?_
        refine TL.done ?_
        refine TC.cond (b := (decide (k_1 < 3))) rfl (fun c3 => ?_) (fun c4 => ?_)
        · refine TC.skip ?_
          refine TC.seq ?_
          refine TC.block (NoEx.loop1 rfl) ?_
          refine TC.seq ?_
          refine TC.wk (Γ' := [(0, SV.v s1), (1, SV.v s2), (6, .bool touch2), (7, .bool same2), (8, .int .i64 i1), (9, .int .i64 k_1), (14, .int .i64 k_1), (15, .bool (decide (k_1 < 3)))]) ⟨rfl, rfl, rfl, rfl, rfl, rfl, rfl, rfl, trivial⟩ ?_
          refine TC.chk fun h3 => ?_
          refine TC.bindE fun r_1 hr1 => ?_
          refine TC.chk fun h4 => ?_
          refine TC.bindE fun r_2 hr2 => ?_
          refine TC.draw [SV.v s1, .int .i64 i1, ep s1 i1.toNat, .int .i64 (gt t1 i1), .int .i64 r_1, SV.v s2, .int .i64 k_1, ep s2 k_1.toNat, .int .i64 (gt u1 k_1), .int .i64 r_2, .bool (r_1 == r_2)] 11 [] (by kernel_rfl) rfl rfl rfl rfl ?_ ?_
          · refine ⟨?_, ?_, ?_, ?_, ?_, ?_, ?_, ?_, ?_, ?_, ?_, trivial⟩
            · refine TL.move rfl rfl (v := SV.v s1) rfl ?_
              refine TL.done ?_
              exact TC.nrm () () ⟨rfl, trivial⟩ [] (by kernel_rfl)
            · refine TL.move rfl rfl (v := .int .i64 i1) rfl ?_
              refine TL.done ?_
              exact TC.nrm () () ⟨rfl, trivial⟩ [] (by kernel_rfl)
            · refine TL.ixs i1 i1.toNat (Rd.old h1) h3 Try.underlying22 Try.sizeOf2 rfl rfl rfl rfl (by omega) ?_
              refine TL.done ?_
              exact TC.nrm () () ⟨rfl, trivial⟩ [] (by kernel_rfl)
            · refine TL.loadE (Rd.old h1) Try.isAgg2 i1.toNat 0 (gt_spec h3) (v := .int .i64 (gt t1 i1)) rfl (by simp only [show Ei.sz = 1 from rfl] <;> omega) rfl rfl rfl ?_
              refine TL.done ?_
              exact TC.nrm () () ⟨rfl, trivial⟩ [] (by kernel_rfl)
            · refine TL.callH (R := G.spec_l07Edge.R) hr1 Try.call179 rfl rfl rfl (fun w hS => G.spec_l07Edge.calls w (gt t1 i1)) ?_
              rintro _ _ ⟨rfl, rfl⟩
              refine TL.done ?_
              exact TC.nrm () () ⟨rfl, trivial⟩ [] (by kernel_rfl)
            · refine TL.move rfl rfl (v := SV.v s2) rfl ?_
              refine TL.done ?_
              exact TC.nrm () () ⟨rfl, trivial⟩ [] (by kernel_rfl)
            · refine TL.move rfl rfl (v := .int .i64 k_1) rfl ?_
              refine TL.done ?_
              exact TC.nrm () () ⟨rfl, trivial⟩ [] (by kernel_rfl)
            · refine TL.ixs k_1 k_1.toNat (Rd.old h2) h4 Try.underlying22 Try.sizeOf2 rfl rfl rfl rfl (by omega) ?_
              refine TL.done ?_
              exact TC.nrm () () ⟨rfl, trivial⟩ [] (by kernel_rfl)
            · refine TL.loadE (Rd.old h2) Try.isAgg2 k_1.toNat 0 (gt_spec h4) (v := .int .i64 (gt u1 k_1)) rfl (by simp only [show Ei.sz = 1 from rfl] <;> omega) rfl rfl rfl ?_
              refine TL.done ?_
              exact TC.nrm () () ⟨rfl, trivial⟩ [] (by kernel_rfl)
            · refine TL.callH (R := G.spec_l07Edge.R) hr2 Try.call179 rfl rfl rfl (fun w hS => G.spec_l07Edge.calls w (gt u1 k_1)) ?_
              rintro _ _ ⟨rfl, rfl⟩
              refine TL.done ?_
              exact TC.nrm () () ⟨rfl, trivial⟩ [] (by kernel_rfl)
            · refine TL.bin .i64 r_1 r_2 rfl rfl rfl rfl (v := .bool (r_1 == r_2)) rfl ?_
              refine TL.done ?_
              exact TC.nrm () () ⟨rfl, trivial⟩ [] (by kernel_rfl)
          · refine TC.join1 (σ := Bool × Bool) (γ := Unit) (Γ' := (fun p q => match p, q with | (touch3, same3), _ => [(0, SV.v s1), (1, SV.v s2), (6, .bool touch3), (7, .bool same3), (8, .int .i64 i1), (9, .int .i64 k_1)])) (L' := (fun p q => match p, q with | (touch3, same3), _ => [])) ?_ ?_
            · refine TC.cond (b := (r_1 == r_2)) rfl (fun c5 => ?_) (fun c6 => ?_)
              · refine TC.seq ?_
                refine TC.region ?_
                refine TL.assign rfl rfl (v := .bool true) rfl ?_
                refine TL.done ?_
                refine TC.ifB same2 (fun c7 => ?_) (fun c7 => ?_)
                · refine TC.wk (Γ' := [(0, SV.v s1), (1, SV.v s2), (6, .bool true), (8, .int .i64 i1), (9, .int .i64 k_1), (14, .int .i64 k_1), (15, .bool (decide (k_1 < 3))), (18, SV.v s1), (19, .int .i64 i1), (20, ep s1 i1.toNat), (21, .int .i64 (gt t1 i1)), (22, .int .i64 r_1), (23, SV.v s2), (24, .int .i64 k_1), (25, ep s2 k_1.toNat), (26, .int .i64 (gt u1 k_1)), (27, .int .i64 r_2), (28, .bool (r_1 == r_2)), (7, .bool same2)]) ⟨rfl, rfl, rfl, rfl, rfl, rfl, rfl, rfl, rfl, rfl, rfl, rfl, rfl, rfl, rfl, rfl, rfl, rfl, rfl, trivial⟩ ?_
                  refine TC.drawG [(0, SV.v s1), (1, SV.v s2), (6, .bool true), (8, .int .i64 i1), (9, .int .i64 k_1), (14, .int .i64 k_1), (15, .bool (decide (k_1 < 3))), (18, SV.v s1), (19, .int .i64 i1), (20, ep s1 i1.toNat), (21, .int .i64 (gt t1 i1)), (22, .int .i64 r_1), (23, SV.v s2), (24, .int .i64 k_1), (25, ep s2 k_1.toNat), (26, .int .i64 (gt u1 k_1)), (27, .int .i64 r_2), (28, .bool (r_1 == r_2))] [(7, .bool same2, 12)] ⟨rfl, rfl, rfl, rfl, rfl, rfl, rfl, rfl, rfl, rfl, rfl, rfl, rfl, rfl, rfl, rfl, rfl, rfl, trivial⟩ ⟨rfl, trivial⟩ (fun l_ g2 => []) (fun g2 => [.bool true, .bool true, undef, undef, undef, undef, undef, undef, undef, undef, undef, .bool true, .bool true]) [[], [0], [0, 1], [0, 1], [0, 1, 2, 3], [0, 1, 2, 3, 4], [0, 1], [0, 1], [0, 1, 6, 7], [0, 1, 6, 7, 8], [0, 1, 2, 3, 4, 5, 6, 7, 8, 9], [0, 1, 2, 3, 4, 5, 6, 7, 8, 9, 10], [0, 1, 2, 3, 4, 5, 6, 7, 8, 9, 10, 11]] [[some false, some false, some false, some false, some false, some false, some false, some false, some false, some false, some false, some false, some false], [some true, some false, some false, some false, some false, some false, some false, some false, some false, some false, some false, some false, some false], [some true, some true, some false, none, some false, some false, none, none, none, none, some false, some false, some false], [some true, some true, none, some false, some false, some false, none, none, none, none, some false, some false, some false], [some true, some true, some true, some true, some false, some false, none, none, none, none, some false, some false, some false], [some true, some true, some true, some true, some true, some false, none, none, none, none, some false, some false, some false], [some true, some true, none, none, none, none, some false, none, some false, some false, some false, some false, some false], [some true, some true, none, none, none, none, none, some false, some false, some false, some false, some false, some false], [some true, some true, none, none, none, none, some true, some true, some false, some false, some false, some false, some false], [some true, some true, none, none, none, none, some true, some true, some true, some false, some false, some false, some false], [some true, some true, some true, some true, some true, some true, some true, some true, some true, some true, some false, some false, some false], [some true, some true, some true, some true, some true, some true, some true, some true, some true, some true, some true, some false, some false], [some true, some true, some true, some true, some true, some true, some true, some true, some true, some true, some true, some true, some false]] (by kernel_rfl) (fun _ => rfl) rfl rfl rfl rfl rfl (fun _ _ => ⟨⟨⟨⟨⟨⟨⟨⟨⟨⟨⟨⟨⟨trivial, rfl⟩, rfl⟩, rfl⟩, rfl⟩, rfl⟩, rfl⟩, rfl⟩, rfl⟩, rfl⟩, rfl⟩, rfl⟩, rfl⟩, rfl⟩) 0 [] (fun _ => by kernel_rfl) ?_ ?_
                  · refine ⟨rfl, ?_, rfl, ?_, rfl, ?_, rfl, ?_, rfl, ?_, rfl, ?_, rfl, ?_, rfl, ?_, rfl, ?_, rfl, ?_, rfl, ?_, rfl, ?_, rfl, ?_, trivial⟩
                    · intro g2
                      refine TL.move rfl rfl (v := .bool same2) rfl ?_
                      refine TL.done ?_
                      exact TC.nrm () [] ⟨(by rw [c7]; rfl), trivial⟩ [] (by kernel_rfl)
                    · intro g2
                      refine TL.move rfl rfl (v := .bool true) rfl ?_
                      refine TL.done ?_
                      exact TC.nrm () [] ⟨rfl, trivial⟩ [] (by kernel_rfl)
                    · intro b3_ b6_ b7_ b8_ b9_ g2
                      refine TL.skip rfl rfl (by decide) ?_
                      refine TL.done ?_
                      exact TC.nrm () [] ⟨rfl, trivial⟩ [] (by kernel_rfl)
                    · intro b2_ b6_ b7_ b8_ b9_ g2
                      refine TL.skip rfl rfl (by decide) ?_
                      refine TL.done ?_
                      exact TC.nrm () [] ⟨rfl, trivial⟩ [] (by kernel_rfl)
                    · intro b6_ b7_ b8_ b9_ g2
                      refine TL.asL [] (by kernel_rfl) ?_
                      refine TL.skip rfl rfl (by decide) ?_
                      refine TL.done ?_
                      exact TC.nrm () [] ⟨rfl, trivial⟩ [] (by kernel_rfl)
                    · intro b6_ b7_ b8_ b9_ g2
                      refine TL.asL [] (by kernel_rfl) ?_
                      refine TL.skip rfl rfl (by decide) ?_
                      refine TL.done ?_
                      exact TC.nrm () [] ⟨rfl, trivial⟩ [] (by kernel_rfl)
                    · intro b2_ b3_ b4_ b5_ b7_ g2
                      refine TL.skip rfl rfl (by decide) ?_
                      refine TL.done ?_
                      exact TC.nrm () [] ⟨rfl, trivial⟩ [] (by kernel_rfl)
                    · intro b2_ b3_ b4_ b5_ b6_ g2
                      refine TL.skip rfl rfl (by decide) ?_
                      refine TL.done ?_
                      exact TC.nrm () [] ⟨rfl, trivial⟩ [] (by kernel_rfl)
                    · intro b2_ b3_ b4_ b5_ g2
                      refine TL.asL [] (by kernel_rfl) ?_
                      refine TL.skip rfl rfl (by decide) ?_
                      refine TL.done ?_
                      exact TC.nrm () [] ⟨rfl, trivial⟩ [] (by kernel_rfl)
                    · intro b2_ b3_ b4_ b5_ g2
                      refine TL.asL [] (by kernel_rfl) ?_
                      refine TL.skip rfl rfl (by decide) ?_
                      refine TL.done ?_
                      exact TC.nrm () [] ⟨rfl, trivial⟩ [] (by kernel_rfl)
                    · intro g2
                      refine TL.skip rfl rfl (by decide) ?_
                      refine TL.done ?_
                      exact TC.nrm () [] ⟨rfl, trivial⟩ [] (by kernel_rfl)
                    · intro g2
                      refine TL.pick rfl rfl (b := true) rfl (r := .bool true) rfl ?_
                      refine TL.done ?_
                      exact TC.nrm () [] ⟨rfl, trivial⟩ [] (by kernel_rfl)
                    · intro g2
                      refine TL.assign rfl rfl (v := .bool true) rfl ?_
                      refine TL.done ?_
                      exact TC.nrm () [] ⟨rfl, trivial⟩ [] (by kernel_rfl)
                  · intro g2
                    refine TC.asL [] (by kernel_rfl) ?_
                    exact TC.nrm ((true, true)) (()) ⟨rfl, rfl, rfl, rfl, rfl, rfl, trivial⟩ [] rfl
                · refine TC.wk (Γ' := [(0, SV.v s1), (1, SV.v s2), (6, .bool true), (8, .int .i64 i1), (9, .int .i64 k_1), (14, .int .i64 k_1), (15, .bool (decide (k_1 < 3))), (18, SV.v s1), (19, .int .i64 i1), (20, ep s1 i1.toNat), (21, .int .i64 (gt t1 i1)), (22, .int .i64 r_1), (23, SV.v s2), (24, .int .i64 k_1), (25, ep s2 k_1.toNat), (26, .int .i64 (gt u1 k_1)), (27, .int .i64 r_2), (28, .bool (r_1 == r_2)), (7, .bool same2)]) ⟨rfl, rfl, rfl, rfl, rfl, rfl, rfl, rfl, rfl, rfl, rfl, rfl, rfl, rfl, rfl, rfl, rfl, rfl, rfl, trivial⟩ ?_
                  refine TC.drawG [(0, SV.v s1), (1, SV.v s2), (6, .bool true), (8, .int .i64 i1), (9, .int .i64 k_1), (14, .int .i64 k_1), (15, .bool (decide (k_1 < 3))), (18, SV.v s1), (19, .int .i64 i1), (20, ep s1 i1.toNat), (21, .int .i64 (gt t1 i1)), (22, .int .i64 r_1), (23, SV.v s2), (24, .int .i64 k_1), (25, ep s2 k_1.toNat), (26, .int .i64 (gt u1 k_1)), (27, .int .i64 r_2), (28, .bool (r_1 == r_2))] [(7, .bool same2, 12)] ⟨rfl, rfl, rfl, rfl, rfl, rfl, rfl, rfl, rfl, rfl, rfl, rfl, rfl, rfl, rfl, rfl, rfl, rfl, trivial⟩ ⟨rfl, trivial⟩ (fun l_ g3 => []) (fun g3 => [.bool false, .bool false, SV.v s1, .int .i64 i1, ep s1 i1.toNat, .int .i64 (gt t1 i1), SV.v s2, .int .i64 k_1, ep s2 k_1.toNat, .int .i64 (gt u1 k_1), .bool ((gt t1 i1) == (gt u1 k_1)), .bool ((gt t1 i1) == (gt u1 k_1)), .bool ((gt t1 i1) == (gt u1 k_1))]) [[], [0], [0, 1], [0, 1], [0, 1, 2, 3], [0, 1, 2, 3, 4], [0, 1], [0, 1], [0, 1, 6, 7], [0, 1, 6, 7, 8], [0, 1, 2, 3, 4, 5, 6, 7, 8, 9], [0, 1, 2, 3, 4, 5, 6, 7, 8, 9, 10], [0, 1, 2, 3, 4, 5, 6, 7, 8, 9, 10, 11]] [[some false, some false, some false, some false, some false, some false, some false, some false, some false, some false, some false, some false, some false], [some true, some false, some false, some false, some false, some false, some false, some false, some false, some false, some false, some false, some false], [some true, some true, some false, none, some false, some false, none, none, none, none, some false, some false, some false], [some true, some true, none, some false, some false, some false, none, none, none, none, some false, some false, some false], [some true, some true, some true, some true, some false, some false, none, none, none, none, some false, some false, some false], [some true, some true, some true, some true, some true, some false, none, none, none, none, some false, some false, some false], [some true, some true, none, none, none, none, some false, none, some false, some false, some false, some false, some false], [some true, some true, none, none, none, none, none, some false, some false, some false, some false, some false, some false], [some true, some true, none, none, none, none, some true, some true, some false, some false, some false, some false, some false], [some true, some true, none, none, none, none, some true, some true, some true, some false, some false, some false, some false], [some true, some true, some true, some true, some true, some true, some true, some true, some true, some true, some false, some false, some false], [some true, some true, some true, some true, some true, some true, some true, some true, some true, some true, some true, some false, some false], [some true, some true, some true, some true, some true, some true, some true, some true, some true, some true, some true, some true, some false]] (by kernel_rfl) (fun _ => rfl) rfl rfl rfl rfl rfl (fun _ _ => ⟨⟨⟨⟨⟨⟨⟨⟨⟨⟨⟨⟨⟨trivial, rfl⟩, rfl⟩, rfl⟩, rfl⟩, rfl⟩, rfl⟩, rfl⟩, rfl⟩, rfl⟩, rfl⟩, rfl⟩, rfl⟩, rfl⟩) 0 [] (fun _ => by kernel_rfl) ?_ ?_
                  · refine ⟨rfl, ?_, rfl, ?_, rfl, ?_, rfl, ?_, rfl, ?_, rfl, ?_, rfl, ?_, rfl, ?_, rfl, ?_, rfl, ?_, rfl, ?_, rfl, ?_, rfl, ?_, trivial⟩
                    · intro g3
                      refine TL.move rfl rfl (v := .bool same2) rfl ?_
                      refine TL.done ?_
                      exact TC.nrm () [] ⟨(by rw [c7]; rfl), trivial⟩ [] (by kernel_rfl)
                    · intro g3
                      refine TL.move rfl rfl (v := .bool false) rfl ?_
                      refine TL.done ?_
                      exact TC.nrm () [] ⟨rfl, trivial⟩ [] (by kernel_rfl)
                    · intro b3_ b6_ b7_ b8_ b9_ g3
                      refine TL.move rfl rfl (v := SV.v s1) rfl ?_
                      refine TL.done ?_
                      exact TC.nrm () [] ⟨rfl, trivial⟩ [] (by kernel_rfl)
                    · intro b2_ b6_ b7_ b8_ b9_ g3
                      refine TL.move rfl rfl (v := .int .i64 i1) rfl ?_
                      refine TL.done ?_
                      exact TC.nrm () [] ⟨rfl, trivial⟩ [] (by kernel_rfl)
                    · intro b6_ b7_ b8_ b9_ g3
                      refine TL.asL [] (by kernel_rfl) ?_
                      refine TL.ixs i1 i1.toNat (Rd.old h1) h3 Try.underlying22 Try.sizeOf2 rfl rfl rfl rfl (by omega) ?_
                      refine TL.done ?_
                      exact TC.nrm () [] ⟨rfl, trivial⟩ [] (by kernel_rfl)
                    · intro b6_ b7_ b8_ b9_ g3
                      refine TL.asL [] (by kernel_rfl) ?_
                      refine TL.loadE (Rd.old h1) Try.isAgg2 i1.toNat 0 (gt_spec h3) (v := .int .i64 (gt t1 i1)) rfl (by simp only [show Ei.sz = 1 from rfl] <;> omega) rfl rfl rfl ?_
                      refine TL.done ?_
                      exact TC.nrm () [] ⟨rfl, trivial⟩ [] (by kernel_rfl)
                    · intro b2_ b3_ b4_ b5_ b7_ g3
                      refine TL.move rfl rfl (v := SV.v s2) rfl ?_
                      refine TL.done ?_
                      exact TC.nrm () [] ⟨rfl, trivial⟩ [] (by kernel_rfl)
                    · intro b2_ b3_ b4_ b5_ b6_ g3
                      refine TL.move rfl rfl (v := .int .i64 k_1) rfl ?_
                      refine TL.done ?_
                      exact TC.nrm () [] ⟨rfl, trivial⟩ [] (by kernel_rfl)
                    · intro b2_ b3_ b4_ b5_ g3
                      refine TL.asL [] (by kernel_rfl) ?_
                      refine TL.ixs k_1 k_1.toNat (Rd.old h2) h4 Try.underlying22 Try.sizeOf2 rfl rfl rfl rfl (by omega) ?_
                      refine TL.done ?_
                      exact TC.nrm () [] ⟨rfl, trivial⟩ [] (by kernel_rfl)
                    · intro b2_ b3_ b4_ b5_ g3
                      refine TL.asL [] (by kernel_rfl) ?_
                      refine TL.loadE (Rd.old h2) Try.isAgg2 k_1.toNat 0 (gt_spec h4) (v := .int .i64 (gt u1 k_1)) rfl (by simp only [show Ei.sz = 1 from rfl] <;> omega) rfl rfl rfl ?_
                      refine TL.done ?_
                      exact TC.nrm () [] ⟨rfl, trivial⟩ [] (by kernel_rfl)
                    · intro g3
                      refine TL.bin .i64 (gt t1 i1) (gt u1 k_1) rfl rfl rfl rfl (v := .bool ((gt t1 i1) == (gt u1 k_1))) rfl ?_
                      refine TL.done ?_
                      exact TC.nrm () [] ⟨rfl, trivial⟩ [] (by kernel_rfl)
                    · intro g3
                      refine TL.pick rfl rfl (b := false) rfl (r := .bool ((gt t1 i1) == (gt u1 k_1))) rfl ?_
                      refine TL.done ?_
                      exact TC.nrm () [] ⟨rfl, trivial⟩ [] (by kernel_rfl)
                    · intro g3
                      refine TL.assign rfl rfl (v := .bool ((gt t1 i1) == (gt u1 k_1))) rfl ?_
                      refine TL.done ?_
                      exact TC.nrm () [] ⟨rfl, trivial⟩ [] (by kernel_rfl)
                  · intro g3
                    refine TC.asL [] (by kernel_rfl) ?_
                    exact TC.nrm ((true, ((gt t1 i1) == (gt u1 k_1)))) (()) ⟨rfl, rfl, rfl, rfl, rfl, rfl, trivial⟩ [] rfl
              · refine TC.skip ?_
                exact TC.nrm ((touch2, same2)) (()) ⟨rfl, rfl, rfl, rfl, rfl, rfl, trivial⟩ [] rfl
            · rintro ⟨touch3, same3⟩ _
              refine TC.region ?_
              refine TL.move rfl rfl (v := .int .i64 k_1) rfl ?_
              refine TL.bin .i64 k_1 1 rfl rfl rfl rfl (v := .int .i64 (w64 (k_1 + 1))) rfl ?_
              refine TL.assign rfl rfl (v := .int .i64 (w64 (k_1 + 1))) rfl ?_
              refine TL.done ?_
              exact TC.next1 ((touch3, same3, (w64 (k_1 + 1)))) (()) ⟨rfl, rfl, rfl, rfl, rfl, rfl, trivial⟩ [] rfl
        · exact TC.brk1 ((touch2, same2, k_1)) (()) ⟨rfl, rfl, rfl, rfl, rfl, rfl, trivial⟩ [] rfl
      · rintro ⟨touch2, same2, k_1⟩ _
        refine TC.region ?_
        refine TL.move rfl rfl (v := .int .i64 i1) rfl ?_
        refine TL.bin .i64 i1 1 rfl rfl rfl rfl (v := .int .i64 (w64 (i1 + 1))) rfl ?_
        refine TL.assign rfl rfl (v := .int .i64 (w64 (i1 + 1))) rfl ?_
        refine TL.done ?_
        exact TC.next1 ((touch2, same2, (w64 (i1 + 1)))) (()) ⟨rfl, rfl, rfl, rfl, rfl, trivial⟩ [] rfl
    · exact TC.brk1 ((touch1, same1, i1)) (()) ⟨rfl, rfl, rfl, rfl, rfl, trivial⟩ [] rfl
  · rintro ⟨touch1, same1, i1⟩ _
    refine TC.seq ?_
    refine TC.region ?_
    refine TL.move rfl rfl (v := .bool touch1) rfl ?_
    refine TL.move rfl rfl (v := .bool same1) rfl ?_
    refine TL.assign rfl rfl (v := .bool touch1) rfl ?_
    refine TL.assign rfl rfl (v := .bool same1) rfl ?_
    refine TL.done ?_
    exact TC.retF (Fin.body (fin2 (.inr rfl) rfl (.tmp rfl) (.tmp rfl) [] rfl ⟨rfl, rfl⟩))

end Go.Proofs.Ytiiljfpbcanphaa.G

/- spec.l07Over, as a pure function. -/
set_option linter.unusedVariables false
namespace Go.Proofs.Ytiiljfpbcanphaa.G
open Go Go.Sx Go.Proofs

def spec_l07Over.f (t1 : List Int) : Option (List Int) := chk 2 t1.length (chk 1 t1.length (chk 0 t1.length (some ([(w64 (0 - (gt t1 2))), (w64 (0 - (gt t1 1))), (w64 (0 - (gt t1 0)))] : List Int))))

def spec_l07Over.R (r : List Int) (v : Value) (L : List Asn) : Prop := ∃ (s0 : SV), v = SV.v s0 ∧ L = [row Ei 2 s0 r]

set_option maxRecDepth 100000 in
set_option maxHeartbeats 4000000 in
theorem spec_l07Over.calls (w : World) (s1 : SV) (t1 : List Int) (h1 : Reads Ei (hp w) s1 t1) :
    ∀ r, spec_l07Over.f t1 = some r → Calls Try.prog 149 #[SV.v s1] w (Ret w (spec_l07Over.R r)) := by

  refine calls_T (n := 16) (Γ := [(0, SV.v s1)]) (R := spec_l07Over.R) Try.func149 rfl rfl (Nat.le_of_ble_eq_true rfl) ⟨rfl, trivial⟩ ?_
  unfold spec_l07Over.f
  refine TC.seq ?_
  refine TC.region ?_
  refine TL.assign rfl rfl (v := SV.v ⟨none, 0, 0⟩) rfl ?_
  refine TL.done ?_
  refine TC.seq ?_
  refine TC.wk (Γ' := [(0, SV.v s1)]) ⟨rfl, trivial⟩ ?_
  refine TC.chk fun h2 => ?_
  refine TC.chk fun h3 => ?_
  refine TC.chk fun h4 => ?_
  refine TC.drawG [(0, SV.v s1)] [] ⟨rfl, trivial⟩ trivial (fun l_ g1 => [(bif nb l_ 12 then row Ei 2 (gs (g1 96)) ([(w64 (0 - (gt t1 2))), (w64 (0 - (gt t1 1))), (w64 (0 - (gt t1 0)))] : List Int) else emp)]) (fun g1 => [SV.v s1, ep s1 2, .int .i64 (gt t1 2), .int .i64 (w64 (0 - (gt t1 2))), SV.v s1, ep s1 1, .int .i64 (gt t1 1), .int .i64 (w64 (0 - (gt t1 1))), SV.v s1, ep s1 0, .int .i64 (gt t1 0), .int .i64 (w64 (0 - (gt t1 0))), SV.v (gs (g1 96)), SV.v (gs (g1 96))]) [[], [0], [0, 1], [0, 1, 2], [], [4], [4, 5], [4, 5, 6], [], [8], [8, 9], [8, 9, 10], [0, 1, 2, 3, 4, 5, 6, 7, 8, 9, 10, 11], [0, 1, 2, 3, 4, 5, 6, 7, 8, 9, 10, 11, 12]] [[some false, some false, some false, some false, none, none, none, none, none, none, none, none, some false, some false], [some true, some false, some false, some false, none, none, none, none, none, none, none, none, some false, some false], [some true, some true, some false, some false, none, none, none, none, none, none, none, none, some false, some false], [some true, some true, some true, some false, none, none, none, none, none, none, none, none, some false, some false], [none, none, none, none, some false, some false, some false, some false, none, none, none, none, some false, some false], [none, none, none, none, some true, some false, some false, some false, none, none, none, none, some false, some false], [none, none, none, none, some true, some true, some false, some false, none, none, none, none, some false, some false], [none, none, none, none, some true, some true, some true, some false, none, none, none, none, some false, some false], [none, none, none, none, none, none, none, none, some false, some false, some false, some false, some false, some false], [none, none, none, none, none, none, none, none, some true, some false, some false, some false, some false, some false], [none, none, none, none, none, none, none, none, some true, some true, some false, some false, some false, some false], [none, none, none, none, none, none, none, none, some true, some true, some true, some false, some false, some false], [some true, some true, some true, some true, some true, some true, some true, some true, some true, some true, some true, some true, some false, some false], [some true, some true, some true, some true, some true, some true, some true, some true, some true, some true, some true, some true, some true, some false]] (by kernel_rfl) (fun _ => rfl) rfl rfl rfl rfl rfl (fun _ _ => ⟨⟨⟨⟨⟨⟨⟨⟨⟨⟨⟨⟨⟨⟨trivial, rfl⟩, rfl⟩, rfl⟩, rfl⟩, rfl⟩, rfl⟩, rfl⟩, rfl⟩, rfl⟩, rfl⟩, rfl⟩, rfl⟩, rfl⟩, rfl⟩) 1 [0] (fun _ => by kernel_rfl) ?_ ?_
  · refine ⟨rfl, ?_, rfl, ?_, rfl, ?_, rfl, ?_, rfl, ?_, rfl, ?_, rfl, ?_, rfl, ?_, rfl, ?_, rfl, ?_, rfl, ?_, rfl, ?_, rfl, ?_, rfl, ?_, trivial⟩
    · intro b4_ b5_ b6_ b7_ b8_ b9_ b10_ b11_ g1
      refine TL.move rfl rfl (v := SV.v s1) rfl ?_
      refine TL.done ?_
      exact TC.nrm () [] ⟨rfl, trivial⟩ [0] (by kernel_rfl)
    · intro b4_ b5_ b6_ b7_ b8_ b9_ b10_ b11_ g1
      refine TL.asL [emp] (by kernel_rfl) ?_
      refine TL.ixs 2 2 (Rd.old h1) h2 Try.underlying22 Try.sizeOf2 rfl rfl rfl rfl rfl ?_
      refine TL.done ?_
      exact TC.nrm () [] ⟨rfl, trivial⟩ [0] (by kernel_rfl)
    · intro b4_ b5_ b6_ b7_ b8_ b9_ b10_ b11_ g1
      refine TL.asL [emp] (by kernel_rfl) ?_
      refine TL.loadE (Rd.old h1) Try.isAgg2 2 0 (gt_spec h2) (v := .int .i64 (gt t1 2)) rfl rfl rfl rfl rfl ?_
      refine TL.done ?_
      exact TC.nrm () [] ⟨rfl, trivial⟩ [0] (by kernel_rfl)
    · intro b4_ b5_ b6_ b7_ b8_ b9_ b10_ b11_ g1
      refine TL.neg .i64 (gt t1 2) rfl rfl rfl ?_
      refine TL.done ?_
      exact TC.nrm () [] ⟨rfl, trivial⟩ [0] (by kernel_rfl)
    · intro b0_ b1_ b2_ b3_ b8_ b9_ b10_ b11_ g1
      refine TL.move rfl rfl (v := SV.v s1) rfl ?_
      refine TL.done ?_
      exact TC.nrm () [] ⟨rfl, trivial⟩ [0] (by kernel_rfl)
    · intro b0_ b1_ b2_ b3_ b8_ b9_ b10_ b11_ g1
      refine TL.asL [emp] (by kernel_rfl) ?_
      refine TL.ixs 1 1 (Rd.old h1) h3 Try.underlying22 Try.sizeOf2 rfl rfl rfl rfl rfl ?_
      refine TL.done ?_
      exact TC.nrm () [] ⟨rfl, trivial⟩ [0] (by kernel_rfl)
    · intro b0_ b1_ b2_ b3_ b8_ b9_ b10_ b11_ g1
      refine TL.asL [emp] (by kernel_rfl) ?_
      refine TL.loadE (Rd.old h1) Try.isAgg2 1 0 (gt_spec h3) (v := .int .i64 (gt t1 1)) rfl rfl rfl rfl rfl ?_
      refine TL.done ?_
      exact TC.nrm () [] ⟨rfl, trivial⟩ [0] (by kernel_rfl)
    · intro b0_ b1_ b2_ b3_ b8_ b9_ b10_ b11_ g1
      refine TL.neg .i64 (gt t1 1) rfl rfl rfl ?_
      refine TL.done ?_
      exact TC.nrm () [] ⟨rfl, trivial⟩ [0] (by kernel_rfl)
    · intro b0_ b1_ b2_ b3_ b4_ b5_ b6_ b7_ g1
      refine TL.move rfl rfl (v := SV.v s1) rfl ?_
      refine TL.done ?_
      exact TC.nrm () [] ⟨rfl, trivial⟩ [0] (by kernel_rfl)
    · intro b0_ b1_ b2_ b3_ b4_ b5_ b6_ b7_ g1
      refine TL.asL [emp] (by kernel_rfl) ?_
      refine TL.ixs 0 0 (Rd.old h1) h4 Try.underlying22 Try.sizeOf2 rfl rfl rfl rfl rfl ?_
      refine TL.done ?_
      exact TC.nrm () [] ⟨rfl, trivial⟩ [0] (by kernel_rfl)
    · intro b0_ b1_ b2_ b3_ b4_ b5_ b6_ b7_ g1
      refine TL.asL [emp] (by kernel_rfl) ?_
      refine TL.loadE (Rd.old h1) Try.isAgg2 0 0 (gt_spec h4) (v := .int .i64 (gt t1 0)) rfl rfl rfl rfl rfl ?_
      refine TL.done ?_
      exact TC.nrm () [] ⟨rfl, trivial⟩ [0] (by kernel_rfl)
    · intro b0_ b1_ b2_ b3_ b4_ b5_ b6_ b7_ g1
      refine TL.neg .i64 (gt t1 0) rfl rfl rfl ?_
      refine TL.done ?_
      exact TC.nrm () [] ⟨rfl, trivial⟩ [0] (by kernel_rfl)
    · intro g1
      refine TL.asL [emp] (by kernel_rfl) ?_
      refine TL.blit Ei ([(w64 (0 - (gt t1 2))), (w64 (0 - (gt t1 1))), (w64 (0 - (gt t1 0)))] : List Int) Try.underlying22 Try.sizeOf2 Try.zeroValue2 rfl rfl rfl [(0, .int .i64 (w64 (0 - (gt t1 2)))), (1, .int .i64 (w64 (0 - (gt t1 1)))), (2, .int .i64 (w64 (0 - (gt t1 0))))] rfl ⟨rfl, rfl, rfl, rfl, rfl, rfl, trivial⟩ rfl rfl fun s2 => ?_
      refine TL.done ?_
      exact TC.nrm () [[s2]] ⟨rfl, trivial⟩ [0] (by kernel_rfl)
    · intro g1
      refine TL.assign rfl rfl (v := SV.v (gs (g1 96))) rfl ?_
      refine TL.done ?_
      exact TC.nrm () [] ⟨rfl, trivial⟩ [0] (by kernel_rfl)
  · intro g1
    refine TC.asL [row Ei 2 (gs (g1 96)) ([(w64 (0 - (gt t1 2))), (w64 (0 - (gt t1 1))), (w64 (0 - (gt t1 0)))] : List Int)] (by kernel_rfl) ?_
    exact TC.retF (Fin.body (fin1 (.inr rfl) rfl (.tmp rfl) [0] rfl ⟨(gs (g1 96)), rfl, rfl⟩))

end Go.Proofs.Ytiiljfpbcanphaa.G

/- spec.l07Orient, as a pure function. -/
set_option linter.unusedVariables false
namespace Go.Proofs.Ytiiljfpbcanphaa.G
open Go Go.Sx Go.Proofs

def spec_l07Orient.b0 (x5 : Int) : (List (List Int)) × (List Bool) × Bool × Int → Option (LB ((List (List Int)) × (List Bool) × Bool × Int)) := fun p => match p with | (l11, l12, x6, x7) => (bif (decide (x7 < (l11.length : Int))) then chk x5 l12.length (some (gt l12 x5)) else some false).bind (fun b_1 => (bif b_1 then (chk x5 l11.length (chk x7 l11.length ((G.spec_l07Touch.f (gt l11 x5) (gt l11 x7)).bind (fun p => match p with | (r_2, r_3) => chk x7 l12.length ((bif ((gt l12 x7) || (!r_2)) then some (.inl (l11, l12, x6)) else ((bif r_3 then (G.spec_l07Over.f (gt l11 x7)).bind (fun r_4 => some (l11.set x7.toNat r_4)) else some l11)).bind (fun l18 => some (.inl (l18, (l12.set x7.toNat true), true))))))))).bind (jn (fun p => match p with | (l15, l16, x11) => some (.next (l15, l16, x11, (w64 (x7 + 1)))))) else some (.brk (l11, l12, x6, x7))))

def spec_l07Orient.b1 : (List (List Int)) × (List Bool) × Bool × Int → Option (LB ((List (List Int)) × (List Bool) × Bool × Int)) := fun p => match p with | (l9, l10, x4, x5) => (bif (decide (x5 < (l9.length : Int))) then (loop1 (spec_l07Orient.b0 x5) (l9, l10, x4, 0)).bind (fun p => match p with | (l11, l12, x6, x7) => some (.next (l11, l12, x6, (w64 (x5 + 1))))) else some (.brk (l9, l10, x4, x5)))

def spec_l07Orient.b2 : (List (List Int)) × (List Bool) × Bool → Option (LB ((List (List Int)) × (List Bool) × Bool)) := fun p => match p with | (l7, l8, x3) => (bif x3 then (loop1 (spec_l07Orient.b1) (l7, l8, false, 0)).bind (fun p => match p with | (l9, l10, x4, x5) => some (.next (l9, l10, x4))) else some (.brk (l7, l8, x3)))

def spec_l07Orient.b3 : (List (List Int)) × (List Bool) × Int → Option (LB ((List (List Int)) × (List Bool) × Int)) := fun p => match p with | (l1, l2, x2) => (bif (decide (x2 < (l1.length : Int))) then (chk x2 l2.length ((bif (gt l2 x2) then some (.inl (l1, l2)) else (loop1 (spec_l07Orient.b2) (l1, (l2.set x2.toNat true), true)).bind (fun p => match p with | (l7, l8, x3) => some (.inl (l7, l8)))))).bind (jn (fun p => match p with | (l5, l6) => some (.next (l5, l6, (w64 (x2 + 1)))))) else some (.brk (l1, l2, x2)))

def spec_l07Orient.f (x1 : List (List Int)) : Option ((List (List Int)) × Bool) := (G.spec_l07Copy.f x1).bind (fun r_1 => small x1.length ((loop1 (spec_l07Orient.b3) (r_1, (List.replicate (x1.length : Int).toNat (false : Bool)), 0)).bind (fun p => match p with | (l1, l2, x2) => (G.spec_l07Oriented.f l1).bind (fun r_5 => some (l1, r_5)))))

def spec_l07Orient.R (r : (List (List Int)) × Bool) (v : Value) (L : List Asn) : Prop := ∃ (s0 : SV) (ss0 : List SV), v = .tuple #[SV.v s0, .bool r.2] ∧ L = [mat Ei 2 22 s0 ss0 r.1]

set_option maxRecDepth 100000 in
set_option maxHeartbeats 4000000 in
theorem spec_l07Orient.calls (w : World) (s1 : SV) (ss1 : List SV) (x1 : List (List Int)) (h1 : ReadsM Ei (hp w) s1 ss1 x1) :
    ∀ r, spec_l07Orient.f x1 = some r → Calls Try.prog 101 #[SV.v s1] w (Ret w (spec_l07Orient.R r)) := by

  refine calls_T (n := 84) (Γ := [(0, SV.v s1)]) (R := spec_l07Orient.R) Try.func101 rfl rfl (Nat.le_of_ble_eq_true rfl) ⟨rfl, trivial⟩ ?_
  unfold spec_l07Orient.f
  refine TC.seq ?_
  refine TC.region ?_
  refine TL.assign rfl rfl (v := SV.v ⟨none, 0, 0⟩) rfl ?_
  refine TL.assign rfl rfl (v := .bool false) rfl ?_
  refine TL.done ?_
  refine TC.seq ?_
  refine TC.wk (Γ' := [(0, SV.v s1), (2, SV.v ⟨none, 0, 0⟩), (3, .bool false)]) ⟨rfl, rfl, rfl, trivial⟩ ?_
  refine TC.bindE ?_
  rintro r_1 hr1
  refine TC.small fun h2 => ?_
  refine TC.drawG [(0, SV.v s1), (2, SV.v ⟨none, 0, 0⟩), (3, .bool false)] [] ⟨rfl, rfl, rfl, trivial⟩ trivial (fun l_ g1 => [(bif nb l_ 1 then mat Ei 2 22 (gs (g1 8)) (g1 9) r_1 else emp), (bif nb l_ 4 then row Eb 4 (gs (g1 32)) (List.replicate (x1.length : Int).toNat (false : Bool)) else emp)]) (fun g1 => [SV.v s1, SV.v (gs (g1 8)), SV.v s1, .int .i64 (x1.length : Int), SV.v (gs (g1 32)), SV.v (gs (g1 8)), SV.v (gs (g1 32))]) [[], [0], [], [2], [2, 3], [0, 1], [0, 1, 2, 3, 4, 5]] [[some false, some false, none, none, none, some false, some false], [some true, some false, none, none, none, some false, some false], [none, none, some false, some false, some false, none, some false], [none, none, some true, some false, some false, none, some false], [none, none, some true, some true, some false, none, some false], [some true, some true, none, none, none, some false, some false], [some true, some true, some true, some true, some true, some true, some false]] (by kernel_rfl) (fun _ => rfl) rfl rfl rfl rfl rfl (fun _ _ => ⟨⟨⟨⟨⟨⟨⟨trivial, rfl⟩, rfl⟩, rfl⟩, rfl⟩, rfl⟩, rfl⟩, rfl⟩) 2 [0, 0] (fun _ => by kernel_rfl) ?_ ?_
  · refine ⟨rfl, ?_, rfl, ?_, rfl, ?_, rfl, ?_, rfl, ?_, rfl, ?_, rfl, ?_, trivial⟩
    · intro b2_ b3_ b4_ g1
      refine TL.move rfl rfl (v := SV.v s1) rfl ?_
      refine TL.done ?_
      exact TC.nrm () [] ⟨rfl, trivial⟩ [0, 0] (by kernel_rfl)
    · intro b2_ b3_ b4_ g1
      refine TL.asL [emp, (bif b4_ then row Eb 4 (gs (g1 32)) (List.replicate (x1.length : Int).toNat (false : Bool)) else emp)] (by kernel_rfl) ?_
      refine TL.callH (R := G.spec_l07Copy.R) hr1 Try.call147 rfl rfl rfl (fun w hS => G.spec_l07Copy.calls w s1 ss1 x1 ((RdM.old h1) w hS)) ?_
      rintro _ _ ⟨s2, ss2, rfl, rfl⟩
      refine TL.done ?_
      exact TC.nrm () [[s2], ss2] ⟨rfl, trivial⟩ [0, 1] (by kernel_rfl)
    · intro b0_ b1_ b5_ g1
      refine TL.move rfl rfl (v := SV.v s1) rfl ?_
      refine TL.done ?_
      exact TC.nrm () [] ⟨rfl, trivial⟩ [0, 0] (by kernel_rfl)
    · intro b0_ b1_ b5_ g1
      refine TL.asL [(bif b1_ then mat Ei 2 22 (gs (g1 8)) (g1 9) r_1 else emp), emp] (by kernel_rfl) ?_
      refine TL.lenM (RdM.old h1) Try.underlying32 rfl rfl rfl ?_
      refine TL.done ?_
      exact TC.nrm () [] ⟨rfl, trivial⟩ [0, 0] (by kernel_rfl)
    · intro b0_ b1_ b5_ g1
      refine TL.asL [(bif b1_ then mat Ei 2 22 (gs (g1 8)) (g1 9) r_1 else emp), emp] (by kernel_rfl) ?_
      refine TL.mkslice Eb (false : Bool) (x1.length : Int) Try.underlying90 (info_of Try.type4) (zv := (Try.t4.zero.getD (.bool false))) rfl rfl rfl (by simp [Eb, flat, Seg.cells]) (by decide) (by omega) (by omega) rfl rfl rfl rfl fun s3 => ?_
      refine TL.done ?_
      exact TC.nrm () [[s3]] ⟨rfl, trivial⟩ [1, 0] (by kernel_rfl)
    · intro b2_ b3_ b4_ g1
      refine TL.assign rfl rfl (v := SV.v (gs (g1 8))) rfl ?_
      refine TL.done ?_
      exact TC.nrm () [] ⟨rfl, trivial⟩ [0, 0] (by kernel_rfl)
    · intro g1
      refine TL.assign rfl rfl (v := SV.v (gs (g1 32))) rfl ?_
      refine TL.done ?_
      exact TC.nrm () [] ⟨rfl, trivial⟩ [0, 0] (by kernel_rfl)
  · intro g1
    refine TC.asL [mat Ei 2 22 (gs (g1 8)) (g1 9) r_1, row Eb 4 (gs (g1 32)) (List.replicate (x1.length : Int).toNat (false : Bool))] (by kernel_rfl) ?_
    refine TC.seq ?_
    refine TC.seq ?_
    refine TC.region ?_
    refine TL.assign rfl rfl (v := .int .i64 0) rfl ?_
    refine TL.done ?_
    refine TC.loop1 (σ := (List (List Int)) × (List Bool) × Int) (γ := (List SV)) (Γ' := (fun p q => match p, q with | (l1, l2, x2), ss3 => [(4, SV.v (gs (g1 8))), (5, SV.v (gs (g1 32))), (6, .int .i64 x2)])) (L' := (fun p q => match p, q with | (l1, l2, x2), ss3 => [mat Ei 2 22 (gs (g1 8)) ss3 l1, row Eb 4 (gs (g1 32)) l2])) (Γb := (fun p q => match p, q with | (l1, l2, x2), ss3 => [(4, SV.v (gs (g1 8))), (5, SV.v (gs (g1 32))), (6, .int .i64 x2)])) (Lb := (fun p q => match p, q with | (l1, l2, x2), ss3 => [mat Ei 2 22 (gs (g1 8)) ss3 l1, row Eb 4 (gs (g1 32)) l2])) ((r_1, (List.replicate (x1.length : Int).toNat (false : Bool)), 0)) ((g1 9)) ⟨rfl, rfl, rfl, trivial⟩ [0, 0] rfl ?_ ?_
    · rintro ⟨l1, l2, x2⟩ ss3
      refine TC.seq ?_
      refine TC.seq ?_
      refine TC.region ?_
      refine TL.move rfl rfl (v := .int .i64 x2) rfl ?_
      refine TL.move rfl rfl (v := SV.v (gs (g1 8))) rfl ?_
      refine TL.lenM (RdM.mat 0 rfl) Try.underlying32 rfl rfl rfl ?_
      refine TL.bin .i64 x2 (l1.length : Int) rfl rfl rfl rfl (v := .bool (decide (x2 < (l1.length : Int)))) rfl ?_
      refine TL.done ?_
      refine TC.cond (b := (decide (x2 < (l1.length : Int)))) rfl (fun c1 => ?_) (fun c2 => ?_)
      · refine TC.skip ?_
        refine TC.seq ?_
        refine TC.blockJ (σ := (List (List Int)) × (List Bool)) (γ := (List SV)) (Γ' := (fun p q => match p, q with | (l5, l6), ss5 => [(4, SV.v (gs (g1 8))), (5, SV.v (gs (g1 32))), (6, .int .i64 x2)])) (L' := (fun p q => match p, q with | (l5, l6), ss5 => [mat Ei 2 22 (gs (g1 8)) ss5 l5, row Eb 4 (gs (g1 32)) l6])) ?_ ?_
        · refine TC.seq ?_
          refine TC.seq ?_
          refine TC.region ?_
          refine TL.move rfl rfl (v := SV.v (gs (g1 32))) rfl ?_
          refine TL.move rfl rfl (v := .int .i64 x2) rfl ?_
          refine TL.chk fun h4 => ?_
          refine TL.ixs x2 x2.toNat (Rd.row 1 rfl) h4 Try.underlying90 Try.sizeOf4 rfl rfl rfl rfl (by omega) ?_
          refine TL.loadE (Rd.row 1 rfl) Try.isAgg4 x2.toNat 0 (gt_spec h4) (v := .bool (gt l2 x2)) rfl (by simp only [show Eb.sz = 1 from rfl] <;> omega) rfl rfl rfl ?_
          refine TL.done ?_
          refine TC.cond (b := (gt l2 x2)) rfl (fun c3 => ?_) (fun c4 => ?_)
          · exact TC.exB ((l1, l2)) (ss3) ⟨rfl, rfl, rfl, trivial⟩ [0, 0] rfl
          · refine TC.skip ?_
            refine TC.seq ?_
            refine TC.region ?_
            refine TL.move rfl rfl (v := SV.v (gs (g1 32))) rfl ?_
            refine TL.move rfl rfl (v := .int .i64 x2) rfl ?_
            refine TL.ixs x2 x2.toNat (Rd.row 1 rfl) h4 Try.underlying90 Try.sizeOf4 rfl rfl rfl rfl (by omega) ?_
            refine TL.stE 1 (x2.toNat) true (v := .bool true) rfl Try.sizeOf4 rfl rfl rfl (by have h_ := h4; omega) (by simp only [show Eb.sz = 1 from rfl] <;> omega) rfl rfl rfl ?_
            refine TL.done ?_
            refine TC.seq ?_
            refine TC.region ?_
            refine TL.assign rfl rfl (v := .bool true) rfl ?_
            refine TL.done ?_
            refine TC.loop1 (σ := (List (List Int)) × (List Bool) × Bool) (γ := (List SV)) (Γ' := (fun p q => match p, q with | (l7, l8, x3), ss6 => [(4, SV.v (gs (g1 8))), (5, SV.v (gs (g1 32))), (6, .int .i64 x2), (7, .bool x3)])) (L' := (fun p q => match p, q with | (l7, l8, x3), ss6 => [mat Ei 2 22 (gs (g1 8)) ss6 l7, row Eb 4 (gs (g1 32)) l8])) (Γb := (fun p q => match p, q with | (l7, l8, x3), ss6 => [(4, SV.v (gs (g1 8))), (5, SV.v (gs (g1 32))), (6, .int .i64 x2), (7, .bool x3)])) (Lb := (fun p q => match p, q with | (l7, l8, x3), ss6 => [mat Ei 2 22 (gs (g1 8)) ss6 l7, row Eb 4 (gs (g1 32)) l8])) ((l1, (l2.set x2.toNat true), true)) (ss3) ⟨rfl, rfl, rfl, rfl, trivial⟩ [0, 0] rfl ?_ ?_
            · rintro ⟨l7, l8, x3⟩ ss6
              refine TC.seq ?_
              refine TC.seq ?_
              refine TC.region ?_
              refine TL.move rfl rfl (v := .bool x3) rfl ?_
              refine TL.done ?_
              refine TC.cond (b := x3) rfl (fun c5 => ?_) (fun c6 => ?_)
              · refine TC.skip ?_
                refine TC.block (NoEx.loop1 rfl) ?_
                refine TC.seq ?_
                refine TC.region ?_
                refine TL.assign rfl rfl (v := .bool false) rfl ?_
                refine TL.done ?_
                refine TC.seq ?_
                refine TC.region ?_
                refine TL.assign rfl rfl (v := .int .i64 0) rfl ?_
                refine TL.done ?_
                refine TC.loop1 (σ := (List (List Int)) × (List Bool) × Bool × Int) (γ := (List SV)) (Γ' := (fun p q => match p, q with | (l9, l10, x4, x5), ss7 => [(4, SV.v (gs (g1 8))), (5, SV.v (gs (g1 32))), (6, .int .i64 x2), (7, .bool x4), (8, .int .i64 x5)])) (L' := (fun p q => match p, q with | (l9, l10, x4, x5), ss7 => [mat Ei 2 22 (gs (g1 8)) ss7 l9, row Eb 4 (gs (g1 32)) l10])) (Γb := (fun p q => match p, q with | (l9, l10, x4, x5), ss7 => [(4, SV.v (gs (g1 8))), (5, SV.v (gs (g1 32))), (6, .int .i64 x2), (7, .bool x4), (8, .int .i64 x5)])) (Lb := (fun p q => match p, q with | (l9, l10, x4, x5), ss7 => [mat Ei 2 22 (gs (g1 8)) ss7 l9, row Eb 4 (gs (g1 32)) l10])) ((l7, l8, false, 0)) (ss6) ⟨rfl, rfl, rfl, rfl, rfl, trivial⟩ [0, 0] rfl ?_ ?_
                · rintro ⟨l9, l10, x4, x5⟩ ss7
                  refine TC.seq ?_
                  refine TC.seq ?_
                  refine TC.region ?_
                  refine TL.move rfl rfl (v := .int .i64 x5) rfl ?_
                  refine TL.move rfl rfl (v := SV.v (gs (g1 8))) rfl ?_
                  refine TL.lenM (RdM.mat 0 rfl) Try.underlying32 rfl rfl rfl ?_
                  refine TL.bin .i64 x5 (l9.length : Int) rfl rfl rfl rfl (v := .bool (decide (x5 < (l9.length : Int)))) rfl ?_
                  refine TL.done ?_
                  refine TC.cond (b := (decide (x5 < (l9.length : Int)))) rfl (fun c7 => ?_) (fun c8 => ?_)
                  · refine TC.skip ?_
                    refine TC.seq ?_
                    refine TC.block (NoEx.loop1 rfl) ?_
                    refine TC.seq ?_
                    refine TC.region ?_
                    refine TL.assign rfl rfl (v := .int .i64 0) rfl ?_
                    refine TL.done ?_
                    refine TC.loop1 (σ := (List (List Int)) × (List Bool) × Bool × Int) (γ := (List SV)) (Γ' := (fun p q => match p, q with | (l11, l12, x6, x7), ss8 => [(4, SV.v (gs (g1 8))), (5, SV.v (gs (g1 32))), (6, .int .i64 x2), (7, .bool x6), (8, .int .i64 x5), (9, .int .i64 x7)])) (L' := (fun p q => match p, q with | (l11, l12, x6, x7), ss8 => [mat Ei 2 22 (gs (g1 8)) ss8 l11, row Eb 4 (gs (g1 32)) l12])) (Γb := (fun p q => match p, q with | (l11, l12, x6, x7), ss8 => [(4, SV.v (gs (g1 8))), (5, SV.v (gs (g1 32))), (6, .int .i64 x2), (7, .bool x6), (8, .int .i64 x5), (9, .int .i64 x7)])) (Lb := (fun p q => match p, q with | (l11, l12, x6, x7), ss8 => [mat Ei 2 22 (gs (g1 8)) ss8 l11, row Eb 4 (gs (g1 32)) l12])) ((l9, l10, x4, 0)) (ss7) ⟨rfl, rfl, rfl, rfl, rfl, rfl, trivial⟩ [0, 0] rfl ?_ ?_
                    · rintro ⟨l11, l12, x6, x7⟩ ss8
                      refine TC.seq ?_
                      refine TC.seq ?_
                      refine TC.region ?_
                      refine TL.move rfl rfl (v := .int .i64 x7) rfl ?_
                      refine TL.move rfl rfl (v := SV.v (gs (g1 8))) rfl ?_
                      refine TL.lenM (RdM.mat 0 rfl) Try.underlying32 rfl rfl rfl ?_
                      refine TL.bin .i64 x7 (l11.length : Int) rfl rfl rfl rfl (v := .bool (decide (x7 < (l11.length : Int)))) rfl ?_
                      refine TL.move rfl rfl (v := .bool (decide (x7 < (l11.length : Int)))) rfl ?_
                      refine TL.cutJ (σ := Bool) (γ := Unit) (Γ' := fun b_1 _ => [(46, .bool b_1), (4, SV.v (gs (g1 8))), (5, SV.v (gs (g1 32))), (6, .int .i64 x2), (7, .bool x6), (8, .int .i64 x5), (9, .int .i64 x7), (37, .int .i64 x7), (38, SV.v (gs (g1 8))), (39, .int .i64 (l11.length : Int)), (40, .bool (decide (x7 < (l11.length : Int)))), (41, .bool (decide (x7 < (l11.length : Int))))]) (L' := fun _ _ => [mat Ei 2 22 (gs (g1 8)) ss8 l11, row Eb 4 (gs (g1 32)) l12]) 5 ?_ ?_
                      · refine TL.ifb (t := 41) (b := (decide (x7 < (l11.length : Int)))) rfl (fun c9 => ?_) (fun c10 => ?_)
                        · refine TL.move rfl rfl (v := SV.v (gs (g1 32))) rfl ?_
                          refine TL.move rfl rfl (v := .int .i64 x5) rfl ?_
                          refine TL.chk fun h5 => ?_
                          refine TL.ixs x5 x5.toNat (Rd.row 1 rfl) h5 Try.underlying90 Try.sizeOf4 rfl rfl rfl rfl (by omega) ?_
                          refine TL.loadE (Rd.row 1 rfl) Try.isAgg4 x5.toNat 0 (gt_spec h5) (v := .bool (gt l12 x5)) rfl (by simp only [show Eb.sz = 1 from rfl] <;> omega) rfl rfl rfl ?_
                          refine TL.pick rfl rfl (b := true) rfl (r := .bool (gt l12 x5)) rfl ?_
                          refine TL.done ?_
                          exact TC.nrm ((gt l12 x5)) () ⟨rfl, rfl, rfl, rfl, rfl, rfl, rfl, rfl, rfl, rfl, rfl, (by rw [c9]; rfl), trivial⟩ [0, 0] (by kernel_rfl)
                        · refine TL.skip rfl rfl (by decide) ?_
                          refine TL.skip rfl rfl (by decide) ?_
                          refine TL.skip rfl rfl (by decide) ?_
                          refine TL.skip rfl rfl (by decide) ?_
                          refine TL.pick rfl rfl (b := false) rfl (r := .bool false) rfl ?_
                          refine TL.done ?_
                          exact TC.nrm (false) () ⟨rfl, rfl, rfl, rfl, rfl, rfl, rfl, rfl, rfl, rfl, rfl, (by rw [c10]; rfl), trivial⟩ [0, 0] (by kernel_rfl)
                      · rintro b_1 _
                        refine TL.done ?_
                        refine TC.cond (b := b_1) rfl (fun c11 => ?_) (fun c12 => ?_)
                        · refine TC.skip ?_
                          refine TC.seq ?_
                          refine TC.blockJ (σ := (List (List Int)) × (List Bool) × Bool) (γ := (List SV)) (Γ' := (fun p q => match p, q with | (l15, l16, x11), ss10 => [(4, SV.v (gs (g1 8))), (5, SV.v (gs (g1 32))), (6, .int .i64 x2), (7, .bool x11), (8, .int .i64 x5), (9, .int .i64 x7)])) (L' := (fun p q => match p, q with | (l15, l16, x11), ss10 => [mat Ei 2 22 (gs (g1 8)) ss10 l15, row Eb 4 (gs (g1 32)) l16])) ?_ ?_
                          · refine TC.seq ?_
                            refine TC.wk (Γ' := [(4, SV.v (gs (g1 8))), (5, SV.v (gs (g1 32))), (6, .int .i64 x2), (7, .bool x6), (8, .int .i64 x5), (9, .int .i64 x7), (37, .int .i64 x7), (38, SV.v (gs (g1 8))), (39, .int .i64 (l11.length : Int)), (40, .bool (decide (x7 < (l11.length : Int)))), (41, .bool (decide (x7 < (l11.length : Int)))), (46, .bool b_1)]) ⟨rfl, rfl, rfl, rfl, rfl, rfl, rfl, rfl, rfl, rfl, rfl, rfl, trivial⟩ ?_
                            refine TC.chk fun h6 => ?_
                            refine TC.chk fun h7 => ?_
                            refine TC.bindE ?_
                            rintro ⟨r_2, r_3⟩ hr2
                            refine TC.drawG [(4, SV.v (gs (g1 8))), (5, SV.v (gs (g1 32))), (6, .int .i64 x2), (7, .bool x6), (8, .int .i64 x5), (9, .int .i64 x7), (37, .int .i64 x7), (38, SV.v (gs (g1 8))), (39, .int .i64 (l11.length : Int)), (40, .bool (decide (x7 < (l11.length : Int)))), (41, .bool (decide (x7 < (l11.length : Int)))), (46, .bool b_1)] [] ⟨rfl, rfl, rfl, rfl, rfl, rfl, rfl, rfl, rfl, rfl, rfl, rfl, trivial⟩ trivial (fun l_ g2 => [mat Ei 2 22 (gs (g1 8)) ss8 l11, row Eb 4 (gs (g1 32)) l12]) (fun g2 => [SV.v (gs (g1 8)), .int .i64 x5, ep (gs (g1 8)) x5.toNat, SV.v (gt ss8 x5), SV.v (gs (g1 8)), .int .i64 x7, ep (gs (g1 8)) x7.toNat, SV.v (gt ss8 x7), .tuple #[.bool r_2, .bool r_3], .tuple #[.bool r_2, .bool r_3], .bool r_2, .bool r_3, .bool r_2, .bool r_3]) [[], [], [0, 1], [0, 1, 2], [], [], [4, 5], [4, 5, 6], [0, 1, 2, 3, 4, 5, 6, 7], [0, 1, 2, 3, 4, 5, 6, 7, 8], [0, 1, 2, 3, 4, 5, 6, 7, 8, 9], [0, 1, 2, 3, 4, 5, 6, 7, 8, 9], [0, 1, 2, 3, 4, 5, 6, 7, 8, 9, 10], [0, 1, 2, 3, 4, 5, 6, 7, 8, 9, 10, 11, 12]] [[some false, none, some false, some false, none, none, none, none, some false, some false, some false, some false, some false, some false], [none, some false, some false, some false, none, none, none, none, some false, some false, some false, some false, some false, some false], [some true, some true, some false, some false, none, none, none, none, some false, some false, some false, some false, some false, some false], [some true, some true, some true, some false, none, none, none, none, some false, some false, some false, some false, some false, some false], [none, none, none, none, some false, none, some false, some false, some false, some false, some false, some false, some false, some false], [none, none, none, none, none, some false, some false, some false, some false, some false, some false, some false, some false, some false], [none, none, none, none, some true, some true, some false, some false, some false, some false, some false, some false, some false, some false], [none, none, none, none, some true, some true, some true, some false, some false, some false, some false, some false, some false, some false], [some true, some true, some true, some true, some true, some true, some true, some true, some false, some false, some false, some false, some false, some false], [some true, some true, some true, some true, some true, some true, some true, some true, some true, some false, some false, some false, some false, some false], [some true, some true, some true, some true, some true, some true, some true, some true, some true, some true, some false, none, some false, some false], [some true, some true, some true, some true, some true, some true, some true, some true, some true, some true, none, some false, none, some false], [some true, some true, some true, some true, some true, some true, some true, some true, some true, some true, some true, none, some false, some false], [some true, some true, some true, some true, some true, some true, some true, some true, some true, some true, some true, some true, some true, some false]] (by kernel_rfl) (fun _ => rfl) rfl rfl rfl rfl rfl (fun _ _ => ⟨⟨⟨⟨⟨⟨⟨⟨⟨⟨⟨⟨⟨⟨trivial, rfl⟩, rfl⟩, rfl⟩, rfl⟩, rfl⟩, rfl⟩, rfl⟩, rfl⟩, rfl⟩, rfl⟩, rfl⟩, rfl⟩, rfl⟩, rfl⟩) 0 [0, 0] (fun _ => by kernel_rfl) ?_ ?_
                            · refine ⟨rfl, ?_, rfl, ?_, rfl, ?_, rfl, ?_, rfl, ?_, rfl, ?_, rfl, ?_, rfl, ?_, rfl, ?_, rfl, ?_, rfl, ?_, rfl, ?_, rfl, ?_, rfl, ?_, trivial⟩
                              · intro b1_ b4_ b5_ b6_ b7_ g2
                                refine TL.move rfl rfl (v := SV.v (gs (g1 8))) rfl ?_
                                refine TL.done ?_
                                exact TC.nrm () [] ⟨rfl, trivial⟩ [0, 0] (by kernel_rfl)
                              · intro b0_ b4_ b5_ b6_ b7_ g2
                                refine TL.move rfl rfl (v := .int .i64 x5) rfl ?_
                                refine TL.done ?_
                                exact TC.nrm () [] ⟨rfl, trivial⟩ [0, 0] (by kernel_rfl)
                              · intro b4_ b5_ b6_ b7_ g2
                                refine TL.asL [mat Ei 2 22 (gs (g1 8)) ss8 l11, row Eb 4 (gs (g1 32)) l12] (by kernel_rfl) ?_
                                refine TL.ixsM x5 x5.toNat (RdM.mat 0 rfl) h6 Try.underlying32 Try.sizeOf22 rfl rfl rfl rfl (by omega) ?_
                                refine TL.done ?_
                                exact TC.nrm () [] ⟨rfl, trivial⟩ [0, 0] (by kernel_rfl)
                              · intro b4_ b5_ b6_ b7_ g2
                                refine TL.asL [mat Ei 2 22 (gs (g1 8)) ss8 l11, row Eb 4 (gs (g1 32)) l12] (by kernel_rfl) ?_
                                refine TL.loadM2 (RdM.mat 0 rfl) Try.isAgg22 x5 h6 (by omega) rfl rfl rfl ?_
                                refine TL.done ?_
                                exact TC.nrm () [] ⟨rfl, trivial⟩ [0, 0] (by kernel_rfl)
                              · intro b0_ b1_ b2_ b3_ b5_ g2
                                refine TL.move rfl rfl (v := SV.v (gs (g1 8))) rfl ?_
                                refine TL.done ?_
                                exact TC.nrm () [] ⟨rfl, trivial⟩ [0, 0] (by kernel_rfl)
                              · intro b0_ b1_ b2_ b3_ b4_ g2
                                refine TL.move rfl rfl (v := .int .i64 x7) rfl ?_
                                refine TL.done ?_
                                exact TC.nrm () [] ⟨rfl, trivial⟩ [0, 0] (by kernel_rfl)
                              · intro b0_ b1_ b2_ b3_ g2
                                refine TL.asL [mat Ei 2 22 (gs (g1 8)) ss8 l11, row Eb 4 (gs (g1 32)) l12] (by kernel_rfl) ?_
                                refine TL.ixsM x7 x7.toNat (RdM.mat 0 rfl) h7 Try.underlying32 Try.sizeOf22 rfl rfl rfl rfl (by omega) ?_
                                refine TL.done ?_
                                exact TC.nrm () [] ⟨rfl, trivial⟩ [0, 0] (by kernel_rfl)
                              · intro b0_ b1_ b2_ b3_ g2
                                refine TL.asL [mat Ei 2 22 (gs (g1 8)) ss8 l11, row Eb 4 (gs (g1 32)) l12] (by kernel_rfl) ?_
                                refine TL.loadM2 (RdM.mat 0 rfl) Try.isAgg22 x7 h7 (by omega) rfl rfl rfl ?_
                                refine TL.done ?_
                                exact TC.nrm () [] ⟨rfl, trivial⟩ [0, 0] (by kernel_rfl)
                              · intro g2
                                refine TL.asL [mat Ei 2 22 (gs (g1 8)) ss8 l11, row Eb 4 (gs (g1 32)) l12] (by kernel_rfl) ?_
                                refine TL.callH (R := G.spec_l07Touch.R) hr2 Try.call148 rfl rfl rfl (fun w hS => G.spec_l07Touch.calls w (gt ss8 x5) (gt l11 x5) (gt ss8 x7) (gt l11 x7) ((RdM.inn (RdM.mat 0 rfl) h6) w hS) ((RdM.inn (RdM.mat 0 rfl) h7) w hS)) ?_
                                rintro _ _ ⟨rfl, rfl⟩
                                refine TL.done ?_
                                exact TC.nrm () [] ⟨rfl, trivial⟩ [0, 0] (by kernel_rfl)
                              · intro g2
                                refine TL.move rfl rfl (v := .tuple #[.bool r_2, .bool r_3]) rfl ?_
                                refine TL.done ?_
                                exact TC.nrm () [] ⟨rfl, trivial⟩ [0, 0] (by kernel_rfl)
                              · intro b11_ g2
                                refine TL.extract rfl rfl rfl (v := .bool r_2) rfl ?_
                                refine TL.done ?_
                                exact TC.nrm () [] ⟨rfl, trivial⟩ [0, 0] (by kernel_rfl)
                              · intro b10_ b12_ g2
                                refine TL.extract rfl rfl rfl (v := .bool r_3) rfl ?_
                                refine TL.done ?_
                                exact TC.nrm () [] ⟨rfl, trivial⟩ [0, 0] (by kernel_rfl)
                              · intro b11_ g2
                                refine TL.assign rfl rfl (v := .bool r_2) rfl ?_
                                refine TL.done ?_
                                exact TC.nrm () [] ⟨rfl, trivial⟩ [0, 0] (by kernel_rfl)
                              · intro g2
                                refine TL.assign rfl rfl (v := .bool r_3) rfl ?_
                                refine TL.done ?_
                                exact TC.nrm () [] ⟨rfl, trivial⟩ [0, 0] (by kernel_rfl)
                            · intro g2
                              refine TC.asL [mat Ei 2 22 (gs (g1 8)) ss8 l11, row Eb 4 (gs (g1 32)) l12] (by kernel_rfl) ?_
                              refine TC.seq ?_
                              refine TC.seq ?_
                              refine TC.region ?_
                              refine TL.move rfl rfl (v := SV.v (gs (g1 32))) rfl ?_
                              refine TL.move rfl rfl (v := .int .i64 x7) rfl ?_
                              refine TL.chk fun h8 => ?_
                              refine TL.ixs x7 x7.toNat (Rd.row 1 rfl) h8 Try.underlying90 Try.sizeOf4 rfl rfl rfl rfl (by omega) ?_
                              refine TL.loadE (Rd.row 1 rfl) Try.isAgg4 x7.toNat 0 (gt_spec h8) (v := .bool (gt l12 x7)) rfl (by simp only [show Eb.sz = 1 from rfl] <;> omega) rfl rfl rfl ?_
                              refine TL.move rfl rfl (v := .bool (gt l12 x7)) rfl ?_
                              refine TL.cutU 3 [(68, .bool ((gt l12 x7) || (!r_2))), (4, SV.v (gs (g1 8))), (5, SV.v (gs (g1 32))), (6, .int .i64 x2), (7, .bool x6), (8, .int .i64 x5), (9, .int .i64 x7), (37, .int .i64 x7), (38, SV.v (gs (g1 8))), (39, .int .i64 (l11.length : Int)), (40, .bool (decide (x7 < (l11.length : Int)))), (41, .bool (decide (x7 < (l11.length : Int)))), (46, .bool b_1), (50, SV.v (gs (g1 8))), (51, .int .i64 x5), (52, ep (gs (g1 8)) x5.toNat), (53, SV.v (gt ss8 x5)), (54, SV.v (gs (g1 8))), (55, .int .i64 x7), (56, ep (gs (g1 8)) x7.toNat), (57, SV.v (gt ss8 x7)), (58, .tuple #[.bool r_2, .bool r_3]), (49, .tuple #[.bool r_2, .bool r_3]), (59, .bool r_2), (60, .bool r_3), (10, .bool r_2), (11, .bool r_3), (61, SV.v (gs (g1 32))), (62, .int .i64 x7), (63, ep (gs (g1 32)) x7.toNat), (64, .bool (gt l12 x7)), (65, .bool (gt l12 x7))] [mat Ei 2 22 (gs (g1 8)) ss8 l11, row Eb 4 (gs (g1 32)) l12] ?_ ?_
                              · refine TL.cases (t := 65) (b := (gt l12 x7)) rfl (fun c13 => ?_) (fun c14 => ?_)
                                · refine TL.skip rfl rfl (by decide) ?_
                                  refine TL.skip rfl rfl (by decide) ?_
                                  refine TL.pick rfl rfl (b := true) rfl (r := .bool true) rfl ?_
                                  refine TL.done ?_
                                  exact TC.nrm () () ⟨(by rw [c13]; rfl), rfl, rfl, rfl, rfl, rfl, rfl, rfl, rfl, rfl, rfl, rfl, rfl, rfl, rfl, rfl, rfl, rfl, rfl, rfl, rfl, rfl, rfl, rfl, rfl, rfl, rfl, rfl, rfl, rfl, rfl, (by rw [c13]; rfl), trivial⟩ [0, 0] (by kernel_rfl)
                                · refine TL.move rfl rfl (v := .bool r_2) rfl ?_
                                  refine TL.not r_2 rfl rfl rfl ?_
                                  refine TL.pick rfl rfl (b := false) rfl (r := .bool (!r_2)) rfl ?_
                                  refine TL.done ?_
                                  exact TC.nrm () () ⟨(by rw [c14]; rfl), rfl, rfl, rfl, rfl, rfl, rfl, rfl, rfl, rfl, rfl, rfl, rfl, rfl, rfl, rfl, rfl, rfl, rfl, rfl, rfl, rfl, rfl, rfl, rfl, rfl, rfl, rfl, rfl, rfl, rfl, (by rw [c14]; rfl), trivial⟩ [0, 0] (by kernel_rfl)
                              · refine TL.done ?_
                                refine TC.cond (b := ((gt l12 x7) || (!r_2))) rfl (fun c15 => ?_) (fun c16 => ?_)
                                · exact TC.exB ((l11, l12, x6)) (ss8) ⟨rfl, rfl, rfl, rfl, rfl, rfl, trivial⟩ [0, 0] rfl
                                · refine TC.skip ?_
                                  refine TC.seq ?_
                                  refine TC.seq ?_
                                  refine TC.region ?_
                                  refine TL.move rfl rfl (v := .bool r_3) rfl ?_
                                  refine TL.done ?_
                                  refine TC.join1 (σ := (List (List Int))) (γ := (List SV)) (Γ' := (fun l18 ss11 => [(4, SV.v (gs (g1 8))), (5, SV.v (gs (g1 32))), (6, .int .i64 x2), (8, .int .i64 x5), (9, .int .i64 x7)])) (L' := (fun l18 ss11 => [mat Ei 2 22 (gs (g1 8)) ss11 l18, row Eb 4 (gs (g1 32)) l12])) ?_ ?_
                                  · refine TC.cond (b := r_3) rfl (fun c17 => ?_) (fun c18 => ?_)
                                    · refine TC.region ?_
                                      refine TL.move rfl rfl (v := SV.v (gs (g1 8))) rfl ?_
                                      refine TL.move rfl rfl (v := .int .i64 x7) rfl ?_
                                      refine TL.move rfl rfl (v := SV.v (gs (g1 8))) rfl ?_
                                      refine TL.move rfl rfl (v := .int .i64 x7) rfl ?_
                                      refine TL.ixsM x7 x7.toNat (RdM.mat 0 rfl) h7 Try.underlying32 Try.sizeOf22 rfl rfl rfl rfl (by omega) ?_
                                      refine TL.loadM2 (RdM.mat 0 rfl) Try.isAgg22 x7 h7 (by omega) rfl rfl rfl ?_
                                      refine TL.call (R := G.spec_l07Over.R) Try.call149 rfl rfl rfl (fun w hS => G.spec_l07Over.calls w (gt ss8 x7) (gt l11 x7) ((RdM.inn (RdM.mat 0 rfl) h7) w hS)) ?_
                                      rintro r_4 _ _ ⟨s4, rfl, rfl⟩
                                      refine TL.ixsM x7 x7.toNat (RdM.mat 1 rfl) h7 Try.underlying32 Try.sizeOf22 rfl rfl rfl rfl (by omega) ?_
                                      refine TL.matlen 1 rfl fun h9 => ?_
                                      refine TL.matcut 1 rfl ?_
                                      refine TL.stE 0 (x7.toNat) s4 (v := SV.v s4) rfl Try.sizeOf22 rfl rfl rfl (by have h_ := h7; have l_ := h9; (try simp only [List.length_set] at h_ l_ ⊢); omega) (by simp only [show Ev.sz = 1 from rfl] <;> omega) rfl rfl rfl ?_
                                      refine TL.hole 2 x7 rfl h7 ?_
                                      refine TL.rowsPut 1 2 rfl rfl ?_
                                      refine TL.matmk 0 2 rfl rfl ?_
                                      refine TL.drop 0 rfl ?_
                                      refine TL.asL [emp, mat Ei 2 22 (gs (g1 8)) (ss8.set x7.toNat s4) (l11.set x7.toNat r_4), row Eb 4 (gs (g1 32)) l12] (by kernel_rfl) ?_
                                      refine TL.done ?_
                                      exact TC.nrm ((l11.set x7.toNat r_4)) ((ss8.set x7.toNat s4)) ⟨rfl, rfl, rfl, rfl, rfl, trivial⟩ [1, 1] rfl
                                    · refine TC.skip ?_
                                      exact TC.nrm (l11) (ss8) ⟨rfl, rfl, rfl, rfl, rfl, trivial⟩ [0, 0] rfl
                                  · rintro l18 ss11
                                    refine TC.seq ?_
                                    refine TC.region ?_
                                    refine TL.move rfl rfl (v := SV.v (gs (g1 32))) rfl ?_
                                    refine TL.move rfl rfl (v := .int .i64 x7) rfl ?_
                                    refine TL.ixs x7 x7.toNat (Rd.row 1 rfl) h8 Try.underlying90 Try.sizeOf4 rfl rfl rfl rfl (by omega) ?_
                                    refine TL.stE 1 (x7.toNat) true (v := .bool true) rfl Try.sizeOf4 rfl rfl rfl (by have h_ := h8; omega) (by simp only [show Eb.sz = 1 from rfl] <;> omega) rfl rfl rfl ?_
                                    refine TL.done ?_
                                    refine TC.region ?_
                                    refine TL.assign rfl rfl (v := .bool true) rfl ?_
                                    refine TL.done ?_
                                    exact TC.inlB ((l18, (l12.set x7.toNat true), true)) (ss11) ⟨rfl, rfl, rfl, rfl, rfl, rfl, trivial⟩ [0, 0] rfl
                          · rintro ⟨l15, l16, x11⟩ ss10
                            refine TC.region ?_
                            refine TL.move rfl rfl (v := .int .i64 x7) rfl ?_
                            refine TL.bin .i64 x7 1 rfl rfl rfl rfl (v := .int .i64 (w64 (x7 + 1))) rfl ?_
                            refine TL.assign rfl rfl (v := .int .i64 (w64 (x7 + 1))) rfl ?_
                            refine TL.done ?_
                            exact TC.next1 ((l15, l16, x11, (w64 (x7 + 1)))) (ss10) ⟨rfl, rfl, rfl, rfl, rfl, rfl, trivial⟩ [0, 0] rfl
                        · exact TC.brk1 ((l11, l12, x6, x7)) (ss8) ⟨rfl, rfl, rfl, rfl, rfl, rfl, trivial⟩ [0, 0] rfl
                    · rintro ⟨l11, l12, x6, x7⟩ ss8
                      refine TC.region ?_
                      refine TL.move rfl rfl (v := .int .i64 x5) rfl ?_
                      refine TL.bin .i64 x5 1 rfl rfl rfl rfl (v := .int .i64 (w64 (x5 + 1))) rfl ?_
                      refine TL.assign rfl rfl (v := .int .i64 (w64 (x5 + 1))) rfl ?_
                      refine TL.done ?_
                      exact TC.next1 ((l11, l12, x6, (w64 (x5 + 1)))) (ss8) ⟨rfl, rfl, rfl, rfl, rfl, trivial⟩ [0, 0] rfl
                  · exact TC.brk1 ((l9, l10, x4, x5)) (ss7) ⟨rfl, rfl, rfl, rfl, rfl, trivial⟩ [0, 0] rfl
                · rintro ⟨l9, l10, x4, x5⟩ ss7
                  exact TC.next1 ((l9, l10, x4)) (ss7) ⟨rfl, rfl, rfl, rfl, trivial⟩ [0, 0] rfl
              · exact TC.brk1 ((l7, l8, x3)) (ss6) ⟨rfl, rfl, rfl, rfl, trivial⟩ [0, 0] rfl
            · rintro ⟨l7, l8, x3⟩ ss6
              exact TC.inlB ((l7, l8)) (ss6) ⟨rfl, rfl, rfl, trivial⟩ [0, 0] rfl
        · rintro ⟨l5, l6⟩ ss5
          refine TC.region ?_
          refine TL.move rfl rfl (v := .int .i64 x2) rfl ?_
          refine TL.bin .i64 x2 1 rfl rfl rfl rfl (v := .int .i64 (w64 (x2 + 1))) rfl ?_
          refine TL.assign rfl rfl (v := .int .i64 (w64 (x2 + 1))) rfl ?_
          refine TL.done ?_
          exact TC.next1 ((l5, l6, (w64 (x2 + 1)))) (ss5) ⟨rfl, rfl, rfl, trivial⟩ [0, 0] rfl
      · exact TC.brk1 ((l1, l2, x2)) (ss3) ⟨rfl, rfl, rfl, trivial⟩ [0, 0] rfl
    · rintro ⟨l1, l2, x2⟩ ss3
      refine TC.seq ?_
      refine TC.region ?_
      refine TL.move rfl rfl (v := SV.v (gs (g1 8))) rfl ?_
      refine TL.move rfl rfl (v := SV.v (gs (g1 8))) rfl ?_
      refine TL.call (R := G.spec_l07Oriented.R) Try.call121 rfl rfl rfl (fun w hS => G.spec_l07Oriented.calls w (gs (g1 8)) ss3 l1 ((RdM.mat 0 rfl) w hS)) ?_
      rintro r_5 _ _ ⟨rfl, rfl⟩
      refine TL.assign rfl rfl (v := SV.v (gs (g1 8))) rfl ?_
      refine TL.assign rfl rfl (v := .bool r_5) rfl ?_
      refine TL.done ?_
      exact TC.retF (Fin.body (fin2 (.inr rfl) rfl (.tmp rfl) (.tmp rfl) [0] rfl ⟨(gs (g1 8)), ss3, rfl, rfl⟩))

end Go.Proofs.Ytiiljfpbcanphaa.G

/- spec.OrientSurface, as a pure function. -/
set_option linter.unusedVariables false
namespace Go.Proofs.Ytiiljfpbcanphaa.G
open Go Go.Sx Go.Proofs

def spec_OrientSurface.f (s1 : List (List Int)) : Option ((List (List Int)) × Int) := (G.spec_l07Is.f s1).bind (fun r_1 => (bif (!r_1) then some (([] : List (List Int)), 1) else (G.spec_l07Orient.f s1).bind (fun p => match p with | (r_2, r_3) => (bif (!r_3) then some (([] : List (List Int)), 5) else some (r_2, 0)))))

def spec_OrientSurface.R (r : (List (List Int)) × Int) (v : Value) (L : List Asn) : Prop := ∃ (s0 : SV) (ss0 : List SV), v = .tuple #[SV.v s0, .int .i64 r.2] ∧ L = [mat Ei 2 22 s0 ss0 r.1]

set_option maxRecDepth 100000 in
set_option maxHeartbeats 4000000 in
theorem spec_OrientSurface.calls (w : World) (s2 : SV) (ss1 : List SV) (s1 : List (List Int)) (h1 : ReadsM Ei (hp w) s2 ss1 s1) :
    ∀ r, spec_OrientSurface.f s1 = some r → Calls Try.prog 33 #[SV.v s2] w (Ret w (spec_OrientSurface.R r)) := by

  refine calls_T (n := 17) (Γ := [(0, SV.v s2)]) (R := spec_OrientSurface.R) Try.func33 rfl rfl (Nat.le_of_ble_eq_true rfl) ⟨rfl, trivial⟩ ?_
  unfold spec_OrientSurface.f
  refine TC.seq ?_
  refine TC.region ?_
  refine TL.assign rfl rfl (v := SV.v ⟨none, 0, 0⟩) rfl ?_
  refine TL.assign rfl rfl (v := .int .i64 0) rfl ?_
  refine TL.done ?_
  refine TC.seq ?_
  refine TC.seq ?_
  refine TC.region ?_
  refine TL.move rfl rfl (v := SV.v s2) rfl ?_
  refine TL.call (R := G.spec_l07Is.R) Try.call100 rfl rfl rfl (fun w hS => G.spec_l07Is.calls w s2 ss1 s1 ((RdM.old h1) w hS)) ?_
  rintro r_1 _ _ ⟨rfl, rfl⟩
  refine TL.not r_1 rfl rfl rfl ?_
  refine TL.done ?_
  refine TC.cond (b := (!r_1)) rfl (fun c1 => ?_) (fun c2 => ?_)
  · refine TC.seq ?_
    refine TC.region ?_
    refine TL.assign rfl rfl (v := SV.v ⟨none, 0, 0⟩) rfl ?_
    refine TL.assign rfl rfl (v := .int .i64 1) rfl ?_
    refine TL.done ?_
    refine TC.nilmat Ei 2 22 ?_
    exact TC.retF (Fin.body (fin2 (.inr rfl) rfl (.tmp rfl) (.tmp rfl) [0] rfl ⟨⟨none, 0, 0⟩, [], rfl, rfl⟩))
  · refine TC.skip ?_
    refine TC.seq ?_
    refine TC.region ?_
    refine TL.move rfl rfl (v := SV.v s2) rfl ?_
    refine TL.call (R := G.spec_l07Orient.R) Try.call101 rfl rfl rfl (fun w hS => G.spec_l07Orient.calls w s2 ss1 s1 ((RdM.old h1) w hS)) ?_
    rintro ⟨r_2, r_3⟩ _ _ ⟨s3, ss2, rfl, rfl⟩
    refine TL.move rfl rfl (v := .tuple #[SV.v s3, .bool r_3]) rfl ?_
    refine TL.extract rfl rfl rfl (v := SV.v s3) rfl ?_
    refine TL.extract rfl rfl rfl (v := .bool r_3) rfl ?_
    refine TL.assign rfl rfl (v := SV.v s3) rfl ?_
    refine TL.assign rfl rfl (v := .bool r_3) rfl ?_
    refine TL.done ?_
    refine TC.seq ?_
    refine TC.seq ?_
    refine TC.region ?_
    refine TL.move rfl rfl (v := .bool r_3) rfl ?_
    refine TL.not r_3 rfl rfl rfl ?_
    refine TL.done ?_
    refine TC.cond (b := (!r_3)) rfl (fun c3 => ?_) (fun c4 => ?_)
    · refine TC.seq ?_
      refine TC.region ?_
      refine TL.assign rfl rfl (v := SV.v ⟨none, 0, 0⟩) rfl ?_
      refine TL.assign rfl rfl (v := .int .i64 5) rfl ?_
      refine TL.done ?_
      refine TC.nilmat Ei 2 22 ?_
      exact TC.retF (Fin.body (fin2 (.inr rfl) rfl (.tmp rfl) (.tmp rfl) [0] rfl ⟨⟨none, 0, 0⟩, [], rfl, rfl⟩))
    · refine TC.skip ?_
      refine TC.seq ?_
      refine TC.region ?_
      refine TL.move rfl rfl (v := SV.v s3) rfl ?_
      refine TL.assign rfl rfl (v := SV.v s3) rfl ?_
      refine TL.assign rfl rfl (v := .int .i64 0) rfl ?_
      refine TL.done ?_
      exact TC.retF (Fin.body (fin2 (.inr rfl) rfl (.tmp rfl) (.tmp rfl) [0] rfl ⟨s3, ss2, rfl, rfl⟩))

end Go.Proofs.Ytiiljfpbcanphaa.G

/- laws.toInt64S, as a pure function. -/
set_option linter.unusedVariables false
namespace Go.Proofs.Ytiiljfpbcanphaa.G
open Go Go.Sx Go.Proofs

def laws_toInt64S.b0 (a_1 : List Int) : (List Int) × Int → Option (LB ((List Int) × Int)) := fun p => match p with | (out1, i1) => (bif (decide (i1 < (a_1.length : Int))) then chk i1 a_1.length (chk i1 out1.length (some (.next ((out1.set i1.toNat (gt a_1 i1)), (w64 (i1 + 1)))))) else some (.brk (out1, i1)))

def laws_toInt64S.f (a_1 : List Int) : Option (List Int) := small a_1.length ((loop1 (laws_toInt64S.b0 a_1) ((List.replicate (a_1.length : Int).toNat (0 : Int)), 0)).bind (fun p => match p with | (out1, i1) => some out1))

def laws_toInt64S.R (r : List Int) (v : Value) (L : List Asn) : Prop := ∃ (s0 : SV), v = SV.v s0 ∧ L = [row Ei 2 s0 r]

set_option maxRecDepth 100000 in
set_option maxHeartbeats 4000000 in
theorem laws_toInt64S.calls (w : World) (s1 : SV) (a_1 : List Int) (h1 : Reads Ei (hp w) s1 a_1) :
    ∀ r, laws_toInt64S.f a_1 = some r → Calls Try.prog 13 #[SV.v s1] w (Ret w (laws_toInt64S.R r)) := by

  refine calls_T (n := 22) (Γ := [(0, SV.v s1)]) (R := laws_toInt64S.R) Try.func13 rfl rfl (Nat.le_of_ble_eq_true rfl) ⟨rfl, trivial⟩ ?_
  unfold laws_toInt64S.f
  refine TC.seq ?_
  refine TC.region ?_
  refine TL.assign rfl rfl (v := SV.v ⟨none, 0, 0⟩) rfl ?_
  refine TL.done ?_
  refine TC.seq ?_
  refine TC.region ?_
  refine TL.move rfl rfl (v := SV.v s1) rfl ?_
  refine TL.len (Rd.old h1) Try.underlying22 rfl rfl rfl ?_
  refine TL.small fun h2 => ?_
  refine TL.mkslice Ei (0 : Int) (a_1.length : Int) Try.underlying22 (info_of Try.type2) (zv := (Try.t2.zero.getD (.bool false))) rfl rfl rfl (by simp [Ei, flat, Seg.cells]) (by decide) (by omega) (by omega) rfl rfl rfl rfl fun s2 => ?_
  refine TL.assign rfl rfl (v := SV.v s2) rfl ?_
  refine TL.done ?_
  refine TC.seq ?_
  refine TC.seq ?_
  refine TC.region ?_
  refine TL.assign rfl rfl (v := .int .i64 0) rfl ?_
  refine TL.done ?_
  refine TC.loop1 (σ := (List Int) × Int) (γ := Unit) (Γ' := (fun p q => match p, q with | (out1, i1), _ => [(0, SV.v s1), (3, SV.v s2), (4, .int .i64 i1)])) (L' := (fun p q => match p, q with | (out1, i1), _ => [row Ei 2 s2 out1])) (Γb := (fun p q => match p, q with | (out1, i1), _ => [(0, SV.v s1), (3, SV.v s2), (4, .int .i64 i1)])) (Lb := (fun p q => match p, q with | (out1, i1), _ => [row Ei 2 s2 out1])) (((List.replicate (a_1.length : Int).toNat (0 : Int)), 0)) (()) ⟨rfl, rfl, rfl, trivial⟩ [0] rfl ?_ ?_
  · rintro ⟨out1, i1⟩ _
    refine TC.seq ?_
    refine TC.seq ?_
    refine TC.region ?_
    refine TL.move rfl rfl (v := .int .i64 i1) rfl ?_
    refine TL.move rfl rfl (v := SV.v s1) rfl ?_
    refine TL.len (Rd.old h1) Try.underlying22 rfl rfl rfl ?_
    refine TL.bin .i64 i1 (a_1.length : Int) rfl rfl rfl rfl (v := .bool (decide (i1 < (a_1.length : Int)))) rfl ?_
    refine TL.done ?_
    refine TC.cond (b := (decide (i1 < (a_1.length : Int)))) rfl (fun c1 => ?_) (fun c2 => ?_)
    · refine TC.skip ?_
      refine TC.seq ?_
      refine TC.block (NoEx.loop1 rfl) ?_
      refine TC.region ?_
      refine TL.move rfl rfl (v := SV.v s2) rfl ?_
      refine TL.move rfl rfl (v := .int .i64 i1) rfl ?_
      refine TL.move rfl rfl (v := SV.v s1) rfl ?_
      refine TL.move rfl rfl (v := .int .i64 i1) rfl ?_
      refine TL.chk fun h4 => ?_
      refine TL.ixs i1 i1.toNat (Rd.old h1) h4 Try.underlying22 Try.sizeOf2 rfl rfl rfl rfl (by omega) ?_
      refine TL.loadE (Rd.old h1) Try.isAgg2 i1.toNat 0 (gt_spec h4) (v := .int .i64 (gt a_1 i1)) rfl (by simp only [show Ei.sz = 1 from rfl] <;> omega) rfl rfl rfl ?_
      refine TL.chk fun h5 => ?_
      refine TL.ixs i1 i1.toNat (Rd.row 0 rfl) h5 Try.underlying22 Try.sizeOf2 rfl rfl rfl rfl (by omega) ?_
      refine TL.stE 0 (i1.toNat) (gt a_1 i1) (v := .int .i64 (gt a_1 i1)) rfl Try.sizeOf2 rfl rfl rfl (by have h_ := h5; omega) (by simp only [show Ei.sz = 1 from rfl] <;> omega) rfl rfl rfl ?_
      refine TL.done ?_
      refine TC.region ?_
      refine TL.move rfl rfl (v := .int .i64 i1) rfl ?_
      refine TL.bin .i64 i1 1 rfl rfl rfl rfl (v := .int .i64 (w64 (i1 + 1))) rfl ?_
      refine TL.assign rfl rfl (v := .int .i64 (w64 (i1 + 1))) rfl ?_
      refine TL.done ?_
      exact TC.next1 (((out1.set i1.toNat (gt a_1 i1)), (w64 (i1 + 1)))) (()) ⟨rfl, rfl, rfl, trivial⟩ [0] rfl
    · exact TC.brk1 ((out1, i1)) (()) ⟨rfl, rfl, rfl, trivial⟩ [0] rfl
  · rintro ⟨out1, i1⟩ _
    refine TC.seq ?_
    refine TC.region ?_
    refine TL.move rfl rfl (v := SV.v s2) rfl ?_
    refine TL.assign rfl rfl (v := SV.v s2) rfl ?_
    refine TL.done ?_
    exact TC.retF (Fin.body (fin1 (.inr rfl) rfl (.tmp rfl) [0] rfl ⟨s2, rfl, rfl⟩))

end Go.Proofs.Ytiiljfpbcanphaa.G

/- laws.toInt64SS, as a pure function. -/
set_option linter.unusedVariables false
namespace Go.Proofs.Ytiiljfpbcanphaa.G
open Go Go.Sx Go.Proofs

def laws_toInt64SS.b0 (a_1 : List (List Int)) : (List (List Int)) × Int → Option (LB ((List (List Int)) × Int)) := fun p => match p with | (out1, i1) => (bif (decide (i1 < (a_1.length : Int))) then chk i1 a_1.length ((G.laws_toInt64S.f (gt a_1 i1)).bind (fun r_1 => chk i1 out1.length (some (.next ((out1.set i1.toNat r_1), (w64 (i1 + 1))))))) else some (.brk (out1, i1)))

def laws_toInt64SS.f (a_1 : List (List Int)) : Option (List (List Int)) := small a_1.length ((loop1 (laws_toInt64SS.b0 a_1) ((List.replicate (a_1.length : Int).toNat ([] : List Int)), 0)).bind (fun p => match p with | (out1, i1) => some out1))

def laws_toInt64SS.R (r : List (List Int)) (v : Value) (L : List Asn) : Prop := ∃ (s0 : SV) (ss0 : List SV), v = SV.v s0 ∧ L = [mat Ei 2 22 s0 ss0 r]

set_option maxRecDepth 100000 in
set_option maxHeartbeats 4000000 in
theorem laws_toInt64SS.calls (w : World) (s1 : SV) (ss1 : List SV) (a_1 : List (List Int)) (h1 : ReadsM Ei (hp w) s1 ss1 a_1) :
    ∀ r, laws_toInt64SS.f a_1 = some r → Calls Try.prog 34 #[SV.v s1] w (Ret w (laws_toInt64SS.R r)) := by

  refine calls_T (n := 23) (Γ := [(0, SV.v s1)]) (R := laws_toInt64SS.R) Try.func34 rfl rfl (Nat.le_of_ble_eq_true rfl) ⟨rfl, trivial⟩ ?_
  unfold laws_toInt64SS.f
  refine TC.seq ?_
  refine TC.region ?_
  refine TL.assign rfl rfl (v := SV.v ⟨none, 0, 0⟩) rfl ?_
  refine TL.done ?_
  refine TC.seq ?_
  refine TC.region ?_
  refine TL.move rfl rfl (v := SV.v s1) rfl ?_
  refine TL.lenM (RdM.old h1) Try.underlying32 rfl rfl rfl ?_
  refine TL.small fun h2 => ?_
  refine TL.mkslice Ev (⟨none, 0, 0⟩ : SV) (a_1.length : Int) Try.underlying32 (info_of Try.type22) (zv := (Try.t22.zero.getD (.bool false))) rfl rfl rfl (by simp [Ev]) (by decide) (by omega) (by omega) rfl rfl rfl rfl fun s2 => ?_
  refine TL.rowsRep Ei 2 ((a_1.length : Int).toNat) ?_
  refine TL.matmk 1 0 rfl rfl ?_
  refine TL.drop 1 rfl ?_
  refine TL.asL [mat Ei 2 22 s2 (List.replicate (a_1.length : Int).toNat (⟨none, 0, 0⟩ : SV)) (List.replicate (a_1.length : Int).toNat ([] : List Int))] rfl ?_
  refine TL.assign rfl rfl (v := SV.v s2) rfl ?_
  refine TL.done ?_
  refine TC.seq ?_
  refine TC.seq ?_
  refine TC.region ?_
  refine TL.assign rfl rfl (v := .int .i64 0) rfl ?_
  refine TL.done ?_
  refine TC.loop1 (σ := (List (List Int)) × Int) (γ := (List SV)) (Γ' := (fun p q => match p, q with | (out1, i1), ss2 => [(0, SV.v s1), (3, SV.v s2), (4, .int .i64 i1)])) (L' := (fun p q => match p, q with | (out1, i1), ss2 => [mat Ei 2 22 s2 ss2 out1])) (Γb := (fun p q => match p, q with | (out1, i1), ss2 => [(0, SV.v s1), (3, SV.v s2), (4, .int .i64 i1)])) (Lb := (fun p q => match p, q with | (out1, i1), ss2 => [mat Ei 2 22 s2 ss2 out1])) (((List.replicate (a_1.length : Int).toNat ([] : List Int)), 0)) ((List.replicate (a_1.length : Int).toNat (⟨none, 0, 0⟩ : SV))) ⟨rfl, rfl, rfl, trivial⟩ [0] rfl ?_ ?_
  · rintro ⟨out1, i1⟩ ss2
    refine TC.seq ?_
    refine TC.seq ?_
    refine TC.region ?_
    refine TL.move rfl rfl (v := .int .i64 i1) rfl ?_
    refine TL.move rfl rfl (v := SV.v s1) rfl ?_
    refine TL.lenM (RdM.old h1) Try.underlying32 rfl rfl rfl ?_
    refine TL.bin .i64 i1 (a_1.length : Int) rfl rfl rfl rfl (v := .bool (decide (i1 < (a_1.length : Int)))) rfl ?_
    refine TL.done ?_
    refine TC.cond (b := (decide (i1 < (a_1.length : Int)))) rfl (fun c1 => ?_) (fun c2 => ?_)
    · refine TC.skip ?_
      refine TC.seq ?_
      refine TC.block (NoEx.loop1 rfl) ?_
      refine TC.region ?_
      refine TL.move rfl rfl (v := SV.v s2) rfl ?_
      refine TL.move rfl rfl (v := .int .i64 i1) rfl ?_
      refine TL.move rfl rfl (v := SV.v s1) rfl ?_
      refine TL.move rfl rfl (v := .int .i64 i1) rfl ?_
      refine TL.chk fun h4 => ?_
      refine TL.ixsM i1 i1.toNat (RdM.old h1) h4 Try.underlying32 Try.sizeOf22 rfl rfl rfl rfl (by omega) ?_
      refine TL.loadM2 (RdM.old h1) Try.isAgg22 i1 h4 (by omega) rfl rfl rfl ?_
      refine TL.call (R := G.laws_toInt64S.R) Try.call13 rfl rfl rfl (fun w hS => G.laws_toInt64S.calls w (gt ss1 i1) (gt a_1 i1) ((RdM.inn (RdM.old h1) h4) w hS)) ?_
      rintro r_1 _ _ ⟨s3, rfl, rfl⟩
      refine TL.chk fun h5 => ?_
      refine TL.ixsM i1 i1.toNat (RdM.mat 1 rfl) h5 Try.underlying32 Try.sizeOf22 rfl rfl rfl rfl (by omega) ?_
      refine TL.matlen 1 rfl fun h6 => ?_
      refine TL.matcut 1 rfl ?_
      refine TL.stE 0 (i1.toNat) s3 (v := SV.v s3) rfl Try.sizeOf22 rfl rfl rfl (by have h_ := h5; have l_ := h6; (try simp only [List.length_set] at h_ l_ ⊢); omega) (by simp only [show Ev.sz = 1 from rfl] <;> omega) rfl rfl rfl ?_
      refine TL.hole 2 i1 rfl h5 ?_
      refine TL.rowsPut 1 2 rfl rfl ?_
      refine TL.matmk 0 2 rfl rfl ?_
      refine TL.drop 0 rfl ?_
      refine TL.asL [emp, mat Ei 2 22 s2 (ss2.set i1.toNat s3) (out1.set i1.toNat r_1)] (by kernel_rfl) ?_
      refine TL.done ?_
      refine TC.region ?_
      refine TL.move rfl rfl (v := .int .i64 i1) rfl ?_
      refine TL.bin .i64 i1 1 rfl rfl rfl rfl (v := .int .i64 (w64 (i1 + 1))) rfl ?_
      refine TL.assign rfl rfl (v := .int .i64 (w64 (i1 + 1))) rfl ?_
      refine TL.done ?_
      exact TC.next1 (((out1.set i1.toNat r_1), (w64 (i1 + 1)))) ((ss2.set i1.toNat s3)) ⟨rfl, rfl, rfl, trivial⟩ [1] rfl
    · exact TC.brk1 ((out1, i1)) (ss2) ⟨rfl, rfl, rfl, trivial⟩ [0] rfl
  · rintro ⟨out1, i1⟩ ss2
    refine TC.seq ?_
    refine TC.region ?_
    refine TL.move rfl rfl (v := SV.v s2) rfl ?_
    refine TL.assign rfl rfl (v := SV.v s2) rfl ?_
    refine TL.done ?_
    exact TC.retF (Fin.body (fin1 (.inr rfl) rfl (.tmp rfl) [0] rfl ⟨s2, ss2, rfl, rfl⟩))

end Go.Proofs.Ytiiljfpbcanphaa.G

/- impl.in, as a pure function. -/
set_option linter.unusedVariables false
namespace Go.Proofs.Ytiiljfpbcanphaa.G
open Go Go.Sx Go.Proofs

def impl_in.f (n_1 : Int) (low1 : Int) (high1 : Int) : Option Bool := some ((decide (n_1 ≥ low1)) && (decide (n_1 ≤ high1)))

def impl_in.R (r : Bool) (v : Value) (L : List Asn) : Prop := v = .bool r ∧ L = []

set_option maxRecDepth 100000 in
set_option maxHeartbeats 4000000 in
theorem impl_in.calls (w : World) (n_1 : Int) (low1 : Int) (high1 : Int) :
    ∀ r, impl_in.f n_1 low1 high1 = some r → Calls Try.prog 72 #[.int .i64 n_1, .int .i64 low1, .int .i64 high1] w (Ret w (impl_in.R r)) := by

  refine calls_T (n := 15) (Γ := [(0, .int .i64 n_1), (1, .int .i64 low1), (2, .int .i64 high1)]) (R := impl_in.R) Try.func72 rfl rfl (Nat.le_of_ble_eq_true rfl) ⟨rfl, rfl, rfl, trivial⟩ ?_
  unfold impl_in.f
  refine TC.seq ?_
  refine TC.region ?_
  refine TL.assign rfl rfl (v := .bool false) rfl ?_
  refine TL.done ?_
  refine TC.seq ?_
  refine TC.region ?_
  refine TL.move rfl rfl (v := .int .i64 n_1) rfl ?_
  refine TL.move rfl rfl (v := .int .i64 low1) rfl ?_
  refine TL.bin .i64 n_1 low1 rfl rfl rfl rfl (v := .bool (decide (n_1 ≥ low1))) rfl ?_
  refine TL.move rfl rfl (v := .bool (decide (n_1 ≥ low1))) rfl ?_
  refine TL.cutU 4 [(14, .bool ((decide (n_1 ≥ low1)) && (decide (n_1 ≤ high1)))), (0, .int .i64 n_1), (1, .int .i64 low1), (2, .int .i64 high1), (6, .bool false), (7, .int .i64 n_1), (8, .int .i64 low1), (9, .bool (decide (n_1 ≥ low1))), (10, .bool (decide (n_1 ≥ low1)))] [] ?_ ?_
  · refine TL.cases (t := 10) (b := (decide (n_1 ≥ low1))) rfl (fun c1 => ?_) (fun c2 => ?_)
    · refine TL.move rfl rfl (v := .int .i64 n_1) rfl ?_
      refine TL.move rfl rfl (v := .int .i64 high1) rfl ?_
      refine TL.bin .i64 n_1 high1 rfl rfl rfl rfl (v := .bool (decide (n_1 ≤ high1))) rfl ?_
      refine TL.pick rfl rfl (b := true) rfl (r := .bool (decide (n_1 ≤ high1))) rfl ?_
      refine TL.done ?_
      exact TC.nrm () () ⟨(by rw [c1]; rfl), rfl, rfl, rfl, rfl, rfl, rfl, rfl, (by rw [c1]; rfl), trivial⟩ [] (by kernel_rfl)
    · refine TL.skip rfl rfl (by decide) ?_
      refine TL.skip rfl rfl (by decide) ?_
      refine TL.skip rfl rfl (by decide) ?_
      refine TL.pick rfl rfl (b := false) rfl (r := .bool false) rfl ?_
      refine TL.done ?_
      exact TC.nrm () () ⟨(by rw [c2]; rfl), rfl, rfl, rfl, rfl, rfl, rfl, rfl, (by rw [c2]; rfl), trivial⟩ [] (by kernel_rfl)
  · refine TL.assign rfl rfl (v := .bool ((decide (n_1 ≥ low1)) && (decide (n_1 ≤ high1)))) rfl ?_
    refine TL.done ?_
    exact TC.retF (Fin.body (fin1 (.inr rfl) rfl (.tmp rfl) [] rfl ⟨rfl, rfl⟩))

end Go.Proofs.Ytiiljfpbcanphaa.G

/- slices.IndexFunc[[]int64,int64], as a pure function. -/
set_option linter.unusedVariables false
namespace Go.Proofs.Ytiiljfpbcanphaa.G
open Go Go.Sx Go.Proofs

def slices_IndexFunc_int64_int64.b0 (s1 : List Int) (f2 : Int → Option Bool) : Int → Option (LR Int Int) := fun x1 => (bif (decide (x1 < (s1.length : Int))) then chk x1 s1.length ((f2 (gt s1 x1)).bind (fun r_1 => (bif r_1 then some (.ret (x1)) else some (.next (w64 (x1 + 1)))))) else some (.brk x1))

def slices_IndexFunc_int64_int64.f (s1 : List Int) (f2 : Int → Option Bool) : Option Int := (loop (slices_IndexFunc_int64_int64.b0 s1 f2) 0).bind (ln (fun x1 => some (-1)))

def slices_IndexFunc_int64_int64.R (r : Int) (v : Value) (L : List Asn) : Prop := v = .int .i64 r ∧ L = []

set_option maxRecDepth 100000 in
set_option maxHeartbeats 4000000 in
theorem slices_IndexFunc_int64_int64.calls (w : World) (s2 : SV) (s1 : List Int) (f1 : Nat) (fst1 : List Value) (cap1 : List Value) (f2 : Int → Option Bool) (h1 : Reads Ei (hp w) s2 s1) (hc1 : ∀ (args_ : Array Value) (w_ : World), (callFunc f1 args_).run Try.prog w_ = .ok (.enter f1 args_) w_) (hf1 : ∀ w_, Hle (hp w) (hp w_) → ∀ (x0_ : Int), ∀ r_, f2 x0_ = some r_ → Calls Try.prog f1 (fst1 ++ ([.int .i64 x0_] : List Value) ++ cap1).toArray w_ (Ret w_ (fun (v_ : Value) (L_ : List Asn) => v_ = .bool r_ ∧ L_ = []))) :
    ∀ r, slices_IndexFunc_int64_int64.f s1 f2 = some r → Calls Try.prog 150 #[SV.v s2, .func (.func f1) fst1.toArray cap1.toArray] w (Ret w (slices_IndexFunc_int64_int64.R r)) := by

  refine calls_T (n := 19) (Γ := [(0, SV.v s2), (1, .func (.func f1) fst1.toArray cap1.toArray)]) (R := slices_IndexFunc_int64_int64.R) Try.func150 rfl rfl (Nat.le_of_ble_eq_true rfl) ⟨rfl, rfl, trivial⟩ ?_
  unfold slices_IndexFunc_int64_int64.f
  refine TC.seq ?_
  refine TC.region ?_
  refine TL.assign rfl rfl (v := .int .i64 0) rfl ?_
  refine TL.done ?_
  refine TC.seq ?_
  refine TC.seq ?_
  refine TC.region ?_
  refine TL.move rfl rfl (v := SV.v s2) rfl ?_
  refine TL.len (Rd.old h1) Try.underlying22 rfl rfl rfl ?_
  refine TL.move rfl rfl (v := .int .i64 0) rfl ?_
  refine TL.done ?_
  refine TC.loopK (σ := Int) (γ := Unit) (Γ' := (fun x1 _ => [(0, SV.v s2), (1, .func (.func f1) fst1.toArray cap1.toArray), (7, .int .i64 (s1.length : Int)), (8, .int .i64 x1)])) (L' := (fun x1 _ => [])) (Γb := (fun x1 _ => [(0, SV.v s2), (1, .func (.func f1) fst1.toArray cap1.toArray), (7, .int .i64 (s1.length : Int)), (8, .int .i64 x1)])) (Lb := (fun x1 _ => [])) (0) (()) ⟨rfl, rfl, rfl, rfl, trivial⟩ [] rfl ?_ ?_
  · rintro x1 _
    refine TC.seq ?_
    refine TC.region ?_
    refine TL.bin .i64 x1 (s1.length : Int) rfl rfl rfl rfl (v := .bool (decide (x1 < (s1.length : Int)))) rfl ?_
    refine TL.done ?_
    refine TC.seq ?_
    refine TC.cond (b := (decide (x1 < (s1.length : Int)))) rfl (fun c1 => ?_) (fun c2 => ?_)
    · refine TC.skip ?_
      refine TC.seq ?_
      refine TC.block (NoEx.loop rfl NoEx.body) ?_
      refine TC.seq ?_
      refine TC.region ?_
      refine TL.move rfl rfl (v := .int .i64 x1) rfl ?_
      refine TL.assign rfl rfl (v := .int .i64 x1) rfl ?_
      refine TL.done ?_
      refine TC.seq ?_
      refine TC.region ?_
      refine TL.move rfl rfl (v := .func (.func f1) fst1.toArray cap1.toArray) rfl ?_
      refine TL.move rfl rfl (v := SV.v s2) rfl ?_
      refine TL.move rfl rfl (v := .int .i64 x1) rfl ?_
      refine TL.chk fun h2 => ?_
      refine TL.ixs x1 x1.toNat (Rd.old h1) h2 Try.underlying22 Try.sizeOf2 rfl rfl rfl rfl (by omega) ?_
      refine TL.loadE (Rd.old h1) Try.isAgg2 x1.toNat 0 (gt_spec h2) (v := .int .i64 (gt s1 x1)) rfl (by simp only [show Ei.sz = 1 from rfl] <;> omega) rfl rfl rfl ?_
      refine TL.callv (R := (fun r_ => (fun (v_ : Value) (L_ : List Asn) => v_ = .bool r_ ∧ L_ = []))) (vs := [.int .i64 (gt s1 x1)]) hc1 rfl rfl rfl rfl (fun w hS => hf1 w hS.iw (gt s1 x1)) ?_
      rintro r_1 _ _ ⟨rfl, rfl⟩
      refine TL.done ?_
      refine TC.cond (b := r_1) rfl (fun c3 => ?_) (fun c4 => ?_)
      · refine TC.seq ?_
        refine TC.region ?_
        refine TL.move rfl rfl (v := .int .i64 x1) rfl ?_
        refine TL.assign rfl rfl (v := .int .i64 x1) rfl ?_
        refine TL.done ?_
        exact TC.retF (Fin.loop Far.ret (Fin.body (fin1 (.inr rfl) rfl (.tmp rfl) [] rfl ⟨rfl, rfl⟩)))
      · refine TC.skip ?_
        refine TC.region ?_
        refine TL.bin .i64 x1 1 rfl rfl rfl rfl (v := .int .i64 (w64 (x1 + 1))) rfl ?_
        refine TL.move rfl rfl (v := .int .i64 (w64 (x1 + 1))) rfl ?_
        refine TL.done ?_
        exact TC.next ((w64 (x1 + 1))) (()) ⟨rfl, rfl, rfl, rfl, trivial⟩ [] rfl
    · exact TC.brk (x1) (()) ⟨rfl, rfl, rfl, rfl, trivial⟩ [] rfl
  · rintro x1 _
    refine TC.seq ?_
    refine TC.region ?_
    refine TL.assign rfl rfl (v := .int .i64 (-1)) rfl ?_
    refine TL.done ?_
    exact TC.retF (Fin.body (fin1 (.inr rfl) rfl (.tmp rfl) [] rfl ⟨rfl, rfl⟩))

end Go.Proofs.Ytiiljfpbcanphaa.G

/- slices.ContainsFunc[[]int64,int64], as a pure function. -/
set_option linter.unusedVariables false
namespace Go.Proofs.Ytiiljfpbcanphaa.G
open Go Go.Sx Go.Proofs

def slices_ContainsFunc_int64_int64.f (s1 : List Int) (f2 : Int → Option Bool) : Option Bool := (G.slices_IndexFunc_int64_int64.f s1 f2).bind (fun r_1 => some (decide (r_1 ≥ 0)))

def slices_ContainsFunc_int64_int64.R (r : Bool) (v : Value) (L : List Asn) : Prop := v = .bool r ∧ L = []

set_option maxRecDepth 100000 in
set_option maxHeartbeats 4000000 in
theorem slices_ContainsFunc_int64_int64.calls (w : World) (s2 : SV) (s1 : List Int) (f1 : Nat) (fst1 : List Value) (cap1 : List Value) (f2 : Int → Option Bool) (h1 : Reads Ei (hp w) s2 s1) (hc1 : ∀ (args_ : Array Value) (w_ : World), (callFunc f1 args_).run Try.prog w_ = .ok (.enter f1 args_) w_) (hf1 : ∀ w_, Hle (hp w) (hp w_) → ∀ (x0_ : Int), ∀ r_, f2 x0_ = some r_ → Calls Try.prog f1 (fst1 ++ ([.int .i64 x0_] : List Value) ++ cap1).toArray w_ (Ret w_ (fun (v_ : Value) (L_ : List Asn) => v_ = .bool r_ ∧ L_ = []))) :
    ∀ r, slices_ContainsFunc_int64_int64.f s1 f2 = some r → Calls Try.prog 103 #[SV.v s2, .func (.func f1) fst1.toArray cap1.toArray] w (Ret w (slices_ContainsFunc_int64_int64.R r)) := by

  refine calls_T (n := 9) (Γ := [(0, SV.v s2), (1, .func (.func f1) fst1.toArray cap1.toArray)]) (R := slices_ContainsFunc_int64_int64.R) Try.func103 rfl rfl (Nat.le_of_ble_eq_true rfl) ⟨rfl, rfl, trivial⟩ ?_
  unfold slices_ContainsFunc_int64_int64.f
  refine TC.seq ?_
  refine TC.region ?_
  refine TL.assign rfl rfl (v := .bool false) rfl ?_
  refine TL.done ?_
  refine TC.seq ?_
  refine TC.region ?_
  refine TL.move rfl rfl (v := SV.v s2) rfl ?_
  refine TL.move rfl rfl (v := .func (.func f1) fst1.toArray cap1.toArray) rfl ?_
  refine TL.call (R := G.slices_IndexFunc_int64_int64.R) Try.call150 rfl rfl rfl (fun w hS => G.slices_IndexFunc_int64_int64.calls w s2 s1 f1 fst1 cap1 f2 ((Rd.old h1) w hS) hc1 (fun w_ hle_ => hf1 w_ (hS.iw.trans hle_))) ?_
  rintro r_1 _ _ ⟨rfl, rfl⟩
  refine TL.bin .i64 r_1 0 rfl rfl rfl rfl (v := .bool (decide (r_1 ≥ 0))) rfl ?_
  refine TL.assign rfl rfl (v := .bool (decide (r_1 ≥ 0))) rfl ?_
  refine TL.done ?_
  exact TC.retF (Fin.body (fin1 (.inr rfl) rfl (.tmp rfl) [] rfl ⟨rfl, rfl⟩))

end Go.Proofs.Ytiiljfpbcanphaa.G

/- impl.edgesOf, as a pure function. -/
set_option linter.unusedVariables false
namespace Go.Proofs.Ytiiljfpbcanphaa.G
open Go Go.Sx Go.Proofs

def impl_edgesOf.f (s1 : List (List Int)) : Option Int := some (w64 (Int.tdiv (w64 ((s1.length : Int) * 3)) 2))

def impl_edgesOf.R (r : Int) (v : Value) (L : List Asn) : Prop := v = .int .i64 r ∧ L = []

set_option maxRecDepth 100000 in
set_option maxHeartbeats 4000000 in
theorem impl_edgesOf.calls (w : World) (s2 : SV) (ss1 : List SV) (s1 : List (List Int)) (h1 : ReadsM Ei (hp w) s2 ss1 s1) :
    ∀ r, impl_edgesOf.f s1 = some r → Calls Try.prog 118 #[SV.v s2] w (Ret w (impl_edgesOf.R r)) := by

  refine calls_T (n := 7) (Γ := [(0, SV.v s2)]) (R := impl_edgesOf.R) Try.func118 rfl rfl (Nat.le_of_ble_eq_true rfl) ⟨rfl, trivial⟩ ?_
  unfold impl_edgesOf.f
  refine TC.seq ?_
  refine TC.region ?_
  refine TL.assign rfl rfl (v := .int .i64 0) rfl ?_
  refine TL.done ?_
  refine TC.seq ?_
  refine TC.region ?_
  refine TL.move rfl rfl (v := SV.v s2) rfl ?_
  refine TL.lenM (RdM.old h1) Try.underlying32 rfl rfl rfl ?_
  refine TL.bin .i64 (s1.length : Int) 3 rfl rfl rfl rfl (v := .int .i64 (w64 ((s1.length : Int) * 3))) rfl ?_
  refine TL.quo .i64 (w64 ((s1.length : Int) * 3)) 2 (by decide) rfl rfl rfl rfl ?_
  refine TL.assign rfl rfl (v := .int .i64 (w64 (Int.tdiv (w64 ((s1.length : Int) * 3)) 2))) rfl ?_
  refine TL.done ?_
  exact TC.retF (Fin.body (fin1 (.inr rfl) rfl (.tmp rfl) [] rfl ⟨rfl, rfl⟩))

end Go.Proofs.Ytiiljfpbcanphaa.G

/- impl.size, as a pure function. -/
set_option linter.unusedVariables false
namespace Go.Proofs.Ytiiljfpbcanphaa.G
open Go Go.Sx Go.Proofs

def impl_size.f (k_1 : Int) : Option Int := some (if (w64 (0 - k_1)) > k_1 then (w64 (0 - k_1)) else k_1)

def impl_size.R (r : Int) (v : Value) (L : List Asn) : Prop := v = .int .i64 r ∧ L = []

set_option maxRecDepth 100000 in
set_option maxHeartbeats 4000000 in
theorem impl_size.calls (w : World) (k_1 : Int) :
    ∀ r, impl_size.f k_1 = some r → Calls Try.prog 167 #[.int .i64 k_1] w (Ret w (impl_size.R r)) := by

  refine calls_T (n := 7) (Γ := [(0, .int .i64 k_1)]) (R := impl_size.R) Try.func167 rfl rfl (Nat.le_of_ble_eq_true rfl) ⟨rfl, trivial⟩ ?_
  unfold impl_size.f
  refine TC.seq ?_
  refine TC.region ?_
  refine TL.assign rfl rfl (v := .int .i64 0) rfl ?_
  refine TL.done ?_
  refine TC.seq ?_
  refine TC.region ?_
  refine TL.move rfl rfl (v := .int .i64 k_1) rfl ?_
  refine TL.move rfl rfl (v := .int .i64 k_1) rfl ?_
  refine TL.neg .i64 k_1 rfl rfl rfl ?_
  refine TL.max2 rfl rfl rfl rfl ?_
  refine TL.assign rfl rfl (v := .int .i64 (if (w64 (0 - k_1)) > k_1 then (w64 (0 - k_1)) else k_1)) rfl ?_
  refine TL.done ?_
  exact TC.retF (Fin.body (fin1 (.inr rfl) rfl (.tmp rfl) [] rfl ⟨rfl, rfl⟩))

end Go.Proofs.Ytiiljfpbcanphaa.G

/- impl.sidesOfEdges, as a pure function. -/
set_option linter.unusedVariables false
namespace Go.Proofs.Ytiiljfpbcanphaa.G
open Go Go.Sx Go.Proofs

def impl_sidesOfEdges.b0 (s1 : List (List Int)) (x1 : Int) : (List (List (Int × Int))) × Int → Option (LB ((List (List (Int × Int))) × Int)) := fun p => match p with | (out2, x2) => (bif (decide (x2 < ((gt s1 x1).length : Int))) then chk x2 ((gt s1 x1).length) ((G.impl_size.f (gt (gt s1 x1) x2)).bind (fun r_2 => chk r_2 out2.length (small ((gt out2 r_2).length + ([(x1, x2)] : List (Int × Int)).length) (some (.next ((out2.set r_2.toNat ((gt out2 r_2) ++ ([(x1, x2)] : List (Int × Int)))), (w64 (x2 + 1)))))))) else some (.brk (out2, x2)))

def impl_sidesOfEdges.b1 (s1 : List (List Int)) : (List (List (Int × Int))) × Int → Option (LB ((List (List (Int × Int))) × Int)) := fun p => match p with | (out1, x1) => (bif (decide (x1 < (s1.length : Int))) then chk x1 s1.length ((loop1 (impl_sidesOfEdges.b0 s1 x1) (out1, 0)).bind (fun p => match p with | (out2, x2) => some (.next (out2, (w64 (x1 + 1)))))) else some (.brk (out1, x1)))

def impl_sidesOfEdges.f (s1 : List (List Int)) : Option (List (List (Int × Int))) := (G.impl_edgesOf.f s1).bind (fun r_1 => grd (decide (0 ≤ (w64 (r_1 + 1)))) (small (w64 (r_1 + 1)).toNat ((loop1 (impl_sidesOfEdges.b1 s1) ((List.replicate (w64 (r_1 + 1)).toNat ([] : List (Int × Int))), 0)).bind (fun p => match p with | (out1, x1) => some out1))))

def impl_sidesOfEdges.R (r : List (List (Int × Int))) (v : Value) (L : List Asn) : Prop := ∃ (s0 : SV) (ss0 : List SV), v = SV.v s0 ∧ L = [mat Eii 108 104 s0 ss0 r]

set_option maxRecDepth 100000 in
set_option maxHeartbeats 4000000 in
theorem impl_sidesOfEdges.calls (w : World) (s2 : SV) (ss1 : List SV) (s1 : List (List Int)) (h1 : ReadsM Ei (hp w) s2 ss1 s1) :
    ∀ r, impl_sidesOfEdges.f s1 = some r → Calls Try.prog 119 #[SV.v s2] w (Ret w (impl_sidesOfEdges.R r)) := by

  refine calls_T (n := 43) (Γ := [(0, SV.v s2)]) (R := impl_sidesOfEdges.R) Try.func119 rfl rfl (Nat.le_of_ble_eq_true rfl) ⟨rfl, trivial⟩ ?_
  unfold impl_sidesOfEdges.f
  refine TC.seq ?_
  refine TC.region ?_
  refine TL.assign rfl rfl (v := SV.v ⟨none, 0, 0⟩) rfl ?_
  refine TL.done ?_
  refine TC.seq ?_
  refine TC.region ?_
  refine TL.move rfl rfl (v := SV.v s2) rfl ?_
  refine TL.call (R := G.impl_edgesOf.R) Try.call118 rfl rfl rfl (fun w hS => G.impl_edgesOf.calls w s2 ss1 s1 ((RdM.old h1) w hS)) ?_
  rintro r_1 _ _ ⟨rfl, rfl⟩
  refine TL.bin .i64 r_1 1 rfl rfl rfl rfl (v := .int .i64 (w64 (r_1 + 1))) rfl ?_
  refine TL.grd fun h3 => ?_
  refine TL.small fun h2 => ?_
  refine TL.mkslice Ev (⟨none, 0, 0⟩ : SV) (w64 (r_1 + 1)) Try.underlying105 (info_of Try.type104) (zv := (Try.t104.zero.getD (.bool false))) rfl rfl rfl (by simp [Ev]) (by decide) (by simpa using h3) (by omega) rfl rfl rfl rfl fun s3 => ?_
  refine TL.rowsRep Eii 108 ((w64 (r_1 + 1)).toNat) ?_
  refine TL.matmk 1 0 rfl rfl ?_
  refine TL.drop 1 rfl ?_
  refine TL.asL [mat Eii 108 104 s3 (List.replicate (w64 (r_1 + 1)).toNat (⟨none, 0, 0⟩ : SV)) (List.replicate (w64 (r_1 + 1)).toNat ([] : List (Int × Int)))] rfl ?_
  refine TL.assign rfl rfl (v := SV.v s3) rfl ?_
  refine TL.done ?_
  refine TC.seq ?_
  refine TC.seq ?_
  refine TC.region ?_
  refine TL.move rfl rfl (v := SV.v s2) rfl ?_
  refine TL.lenM (RdM.old h1) Try.underlying32 rfl rfl rfl ?_
  refine TL.move rfl rfl (v := .int .i64 0) rfl ?_
  refine TL.done ?_
  refine TC.loop1 (σ := (List (List (Int × Int))) × Int) (γ := (List SV)) (Γ' := (fun p q => match p, q with | (out1, x1), ss2 => [(3, SV.v s3), (12, SV.v s2), (13, .int .i64 (s1.length : Int)), (14, .int .i64 x1)])) (L' := (fun p q => match p, q with | (out1, x1), ss2 => [mat Eii 108 104 s3 ss2 out1])) (Γb := (fun p q => match p, q with | (out1, x1), ss2 => [(3, SV.v s3), (12, SV.v s2), (13, .int .i64 (s1.length : Int)), (14, .int .i64 x1)])) (Lb := (fun p q => match p, q with | (out1, x1), ss2 => [mat Eii 108 104 s3 ss2 out1])) (((List.replicate (w64 (r_1 + 1)).toNat ([] : List (Int × Int))), 0)) ((List.replicate (w64 (r_1 + 1)).toNat (⟨none, 0, 0⟩ : SV))) ⟨rfl, rfl, rfl, rfl, trivial⟩ [0] rfl ?_ ?_
  · rintro ⟨out1, x1⟩ ss2
    refine TC.seq ?_
    refine TC.region ?_
    refine TL.bin .i64 x1 (s1.length : Int) rfl rfl rfl rfl (v := .bool (decide (x1 < (s1.length : Int)))) rfl ?_
    refine TL.done ?_
    refine TC.seq ?_
    refine TC.cond (b := (decide (x1 < (s1.length : Int)))) rfl (fun c1 => ?_) (fun c2 => ?_)
    · refine TC.skip ?_
      refine TC.seq ?_
      refine TC.block (NoEx.loop1 rfl) ?_
      refine TC.seq ?_
      refine TC.region ?_
      refine TL.move rfl rfl (v := .int .i64 x1) rfl ?_
      refine TL.chk fun h4 => ?_
      refine TL.ixsM x1 x1.toNat (RdM.old h1) h4 Try.underlying32 Try.sizeOf22 rfl rfl rfl rfl (by omega) ?_
      refine TL.loadM2 (RdM.old h1) Try.isAgg22 x1 h4 (by omega) rfl rfl rfl ?_
      refine TL.assign rfl rfl (v := .int .i64 x1) rfl ?_
      refine TL.assign rfl rfl (v := SV.v (gt ss1 x1)) rfl ?_
      refine TL.done ?_
      refine TC.seq ?_
      refine TC.region ?_
      refine TL.move rfl rfl (v := SV.v (gt ss1 x1)) rfl ?_
      refine TL.len (RdM.inn (RdM.old h1) h4) Try.underlying22 rfl rfl rfl ?_
      refine TL.move rfl rfl (v := .int .i64 0) rfl ?_
      refine TL.done ?_
      refine TC.loop1 (σ := (List (List (Int × Int))) × Int) (γ := (List SV)) (Γ' := (fun p q => match p, q with | (out2, x2), ss3 => [(3, SV.v s3), (4, .int .i64 x1), (12, SV.v s2), (13, .int .i64 (s1.length : Int)), (14, .int .i64 x1), (19, SV.v (gt ss1 x1)), (20, .int .i64 ((gt s1 x1).length : Int)), (21, .int .i64 x2)])) (L' := (fun p q => match p, q with | (out2, x2), ss3 => [mat Eii 108 104 s3 ss3 out2])) (Γb := (fun p q => match p, q with | (out2, x2), ss3 => [(3, SV.v s3), (4, .int .i64 x1), (12, SV.v s2), (13, .int .i64 (s1.length : Int)), (14, .int .i64 x1), (19, SV.v (gt ss1 x1)), (20, .int .i64 ((gt s1 x1).length : Int)), (21, .int .i64 x2)])) (Lb := (fun p q => match p, q with | (out2, x2), ss3 => [mat Eii 108 104 s3 ss3 out2])) ((out1, 0)) (ss2) ⟨rfl, rfl, rfl, rfl, rfl, rfl, rfl, rfl, trivial⟩ [0] rfl ?_ ?_
      · rintro ⟨out2, x2⟩ ss3
        refine TC.seq ?_
        refine TC.region ?_
        refine TL.bin .i64 x2 ((gt s1 x1).length : Int) rfl rfl rfl rfl (v := .bool (decide (x2 < ((gt s1 x1).length : Int)))) rfl ?_
        refine TL.done ?_
        refine TC.seq ?_
        refine TC.cond (b := (decide (x2 < ((gt s1 x1).length : Int)))) rfl (fun c3 => ?_) (fun c4 => ?_)
        · refine TC.skip ?_
          refine TC.seq ?_
          refine TC.block (NoEx.loop1 rfl) ?_
          refine TC.seq ?_
          refine TC.region ?_
          refine TL.move rfl rfl (v := .int .i64 x2) rfl ?_
          refine TL.chk fun h5 => ?_
          refine TL.ixs x2 x2.toNat (RdM.inn (RdM.old h1) h4) h5 Try.underlying22 Try.sizeOf2 rfl rfl rfl rfl (by omega) ?_
          refine TL.loadE (RdM.inn (RdM.old h1) h4) Try.isAgg2 x2.toNat 0 (gt_spec h5) (v := .int .i64 (gt (gt s1 x1) x2)) rfl (by simp only [show Ei.sz = 1 from rfl] <;> omega) rfl rfl rfl ?_
          refine TL.assign rfl rfl (v := .int .i64 x2) rfl ?_
          refine TL.assign rfl rfl (v := .int .i64 (gt (gt s1 x1) x2)) rfl ?_
          refine TL.done ?_
          refine TC.region ?_
          refine TL.move rfl rfl (v := SV.v s3) rfl ?_
          refine TL.move rfl rfl (v := .int .i64 (gt (gt s1 x1) x2)) rfl ?_
          refine TL.bindE ?_
          rintro r_2 hr1
          refine TL.callH (R := G.impl_size.R) hr1 Try.call167 rfl rfl rfl (fun w hS => G.impl_size.calls w (gt (gt s1 x1) x2)) ?_
          rintro _ _ ⟨rfl, rfl⟩
          refine TL.move rfl rfl (v := SV.v s3) rfl ?_
          refine TL.move rfl rfl (v := .int .i64 (gt (gt s1 x1) x2)) rfl ?_
          refine TL.callH (R := G.impl_size.R) hr1 Try.call167 rfl rfl rfl (fun w hS => G.impl_size.calls w (gt (gt s1 x1) x2)) ?_
          rintro _ _ ⟨rfl, rfl⟩
          refine TL.chk fun h6 => ?_
          refine TL.ixsM r_2 r_2.toNat (RdM.mat 0 rfl) h6 Try.underlying105 Try.sizeOf104 rfl rfl rfl rfl (by omega) ?_
          refine TL.loadM2 (RdM.mat 0 rfl) Try.isAgg104 r_2 h6 (by omega) rfl rfl rfl ?_
          refine TL.move rfl rfl (v := .int .i64 x1) rfl ?_
          refine TL.move rfl rfl (v := .int .i64 x2) rfl ?_
          refine TL.buildS (segs0 := [.one (.int .i64 0), .one (.int .i64 0)]) (segs := [.one (.int .i64 x1), .one (.int .i64 x2)]) [1, 1] Try.underlying108 ⟨Try.sizeOf3, Try.sizeOf3, trivial⟩ Try.zeroValue108 rfl [(0, .int .i64 x1), (1, .int .i64 x2)] rfl (fun pl hpl => by subst hpl; exact fill_one 0 rfl rfl rfl rfl (fill_one 1 rfl rfl rfl rfl (rfl))) rfl rfl ?_
          refine TL.blit Eii ([(x1, x2)] : List (Int × Int)) Try.underlying104 Try.sizeOf108 Try.zeroValue108 rfl rfl rfl [(0, sval [.one (.int .i64 x1), .one (.int .i64 x2)])] rfl ⟨rfl, rfl, trivial⟩ rfl rfl fun s4 => ?_
          refine TL.matopen 1 r_2 rfl h6 ?_
          refine TL.small fun h7 => ?_
          refine TL.append 0 rfl (Rd.row 1 rfl) Try.underlying104 (info_of Try.type108) (zv := (Try.t108.zero.getD (.bool false))) rfl rfl rfl (by decide) h7 rfl rfl rfl rfl fun s5 => ?_
          refine TL.ixsX r_2 r_2.toNat 2 rfl h6 Try.underlying105 Try.sizeOf104 rfl rfl rfl rfl (by omega) ?_
          refine TL.matXlen 2 rfl fun h8 => ?_
          refine TL.matXcut 2 rfl ?_
          refine TL.stE 0 (r_2.toNat) s5 (v := SV.v s5) rfl Try.sizeOf104 rfl rfl rfl (by have h_ := h6; have l_ := h8; (try simp only [List.length_set] at h_ l_ ⊢); omega) (by simp only [show Ev.sz = 1 from rfl] <;> omega) rfl rfl rfl ?_
          refine TL.rowsPut 1 3 rfl rfl ?_
          refine TL.matmk 0 3 rfl rfl ?_
          refine TL.drop 0 rfl ?_
          refine TL.asL [emp, row Eii 108 s4 ([(x1, x2)] : List (Int × Int)), mat Eii 108 104 s3 (ss3.set r_2.toNat s5) (out2.set r_2.toNat ((gt out2 r_2) ++ ([(x1, x2)] : List (Int × Int))))] (by kernel_rfl) ?_
          refine TL.done ?_
          refine TC.region ?_
          refine TL.bin .i64 x2 1 rfl rfl rfl rfl (v := .int .i64 (w64 (x2 + 1))) rfl ?_
          refine TL.move rfl rfl (v := .int .i64 (w64 (x2 + 1))) rfl ?_
          refine TL.done ?_
          exact TC.next1 (((out2.set r_2.toNat ((gt out2 r_2) ++ ([(x1, x2)] : List (Int × Int)))), (w64 (x2 + 1)))) ((ss3.set r_2.toNat s5)) ⟨rfl, rfl, rfl, rfl, rfl, rfl, rfl, rfl, trivial⟩ [2] rfl
        · exact TC.brk1 ((out2, x2)) (ss3) ⟨rfl, rfl, rfl, rfl, rfl, rfl, rfl, rfl, trivial⟩ [0] rfl
      · rintro ⟨out2, x2⟩ ss3
        refine TC.region ?_
        refine TL.bin .i64 x1 1 rfl rfl rfl rfl (v := .int .i64 (w64 (x1 + 1))) rfl ?_
        refine TL.move rfl rfl (v := .int .i64 (w64 (x1 + 1))) rfl ?_
        refine TL.done ?_
        exact TC.next1 ((out2, (w64 (x1 + 1)))) (ss3) ⟨rfl, rfl, rfl, rfl, trivial⟩ [0] rfl
    · exact TC.brk1 ((out1, x1)) (ss2) ⟨rfl, rfl, rfl, rfl, trivial⟩ [0] rfl
  · rintro ⟨out1, x1⟩ ss2
    refine TC.seq ?_
    refine TC.region ?_
    refine TL.move rfl rfl (v := SV.v s3) rfl ?_
    refine TL.assign rfl rfl (v := SV.v s3) rfl ?_
    refine TL.done ?_
    exact TC.retF (Fin.body (fin1 (.inr rfl) rfl (.tmp rfl) [0] rfl ⟨s3, ss2, rfl, rfl⟩))

end Go.Proofs.Ytiiljfpbcanphaa.G

/- impl.IsSurface$1, as a pure function. -/
set_option linter.unusedVariables false
namespace Go.Proofs.Ytiiljfpbcanphaa.G
open Go Go.Sx Go.Proofs

def impl_IsSurface_1.f (k_1 : Int) (c1 : List (List Int)) : Option Bool := (bif (k_1 == 0) then some true else (G.impl_edgesOf.f c1).bind (fun r_1 => (G.impl_in.f k_1 (w64 (0 - r_1)) r_1).bind (fun r_3 => some (!r_3))))

def impl_IsSurface_1.R (r : Bool) (v : Value) (L : List Asn) : Prop := v = .bool r ∧ L = []

set_option maxRecDepth 100000 in
set_option maxHeartbeats 4000000 in
theorem impl_IsSurface_1.calls (w : World) (k_1 : Int) (b_1 : Nat) (s1 : SV) (ss1 : List SV) (c1 : List (List Int)) (h2 : At (hp w) b_1 [.one (SV.v s1)]) (h1 : ReadsM Ei (hp w) s1 ss1 c1) :
    ∀ r, impl_IsSurface_1.f k_1 c1 = some r → Calls Try.prog 124 #[.int .i64 k_1, bp b_1 0] w (Ret w (impl_IsSurface_1.R r)) := by

  refine calls_T (n := 16) (Γ := [(0, .int .i64 k_1), (1, bp b_1 0)]) (R := impl_IsSurface_1.R) Try.func124 rfl rfl (Nat.le_of_ble_eq_true rfl) ⟨rfl, rfl, trivial⟩ ?_
  unfold impl_IsSurface_1.f
  refine TC.seq ?_
  refine TC.region ?_
  refine TL.assign rfl rfl (v := .bool false) rfl ?_
  refine TL.done ?_
  refine TC.seq ?_
  refine TC.ifB (k_1 == 0) (fun c2 => ?_) (fun c2 => ?_)
  · refine TC.wk (Γ' := [(0, .int .i64 k_1), (1, bp b_1 0)]) ⟨rfl, rfl, trivial⟩ ?_
    refine TC.drawG [(0, .int .i64 k_1), (1, bp b_1 0)] [] ⟨rfl, rfl, trivial⟩ trivial (fun l_ g2 => []) (fun g2 => [.int .i64 k_1, .bool true, .bool true, undef, undef, undef, undef, undef, undef, undef, undef, .bool true, .bool true]) [[], [0], [0, 1], [0, 1, 2], [0, 1, 2], [0, 1, 2, 4], [0, 1, 2, 4, 5], [0, 1, 2], [0, 1, 2, 4, 5, 7], [0, 1, 2, 3, 4, 5, 6, 7, 8], [0, 1, 2, 3, 4, 5, 6, 7, 8, 9], [0, 1, 2, 3, 4, 5, 6, 7, 8, 9, 10], [0, 1, 2, 3, 4, 5, 6, 7, 8, 9, 10, 11]] [[some false, some false, some false, some false, some false, some false, some false, some false, some false, some false, some false, some false, some false], [some true, some false, some false, some false, some false, some false, some false, some false, some false, some false, some false, some false, some false], [some true, some true, some false, some false, some false, some false, some false, some false, some false, some false, some false, some false, some false], [some true, some true, some true, some false, none, none, none, none, none, some false, some false, some false, some false], [some true, some true, some true, none, some false, some false, some false, none, some false, some false, some false, some false, some false], [some true, some true, some true, none, some true, some false, some false, none, some false, some false, some false, some false, some false], [some true, some true, some true, none, some true, some true, some false, none, none, some false, some false, some false, some false], [some true, some true, some true, none, none, none, none, some false, some false, some false, some false, some false, some false], [some true, some true, some true, none, some true, some true, none, some true, some false, some false, some false, some false, some false], [some true, some true, some true, some true, some true, some true, some true, some true, some true, some false, some false, some false, some false], [some true, some true, some true, some true, some true, some true, some true, some true, some true, some true, some false, some false, some false], [some true, some true, some true, some true, some true, some true, some true, some true, some true, some true, some true, some false, some false], [some true, some true, some true, some true, some true, some true, some true, some true, some true, some true, some true, some true, some false]] (by kernel_rfl) (fun _ => rfl) rfl rfl rfl rfl rfl (fun _ _ => ⟨⟨⟨⟨⟨⟨⟨⟨⟨⟨⟨⟨⟨trivial, rfl⟩, rfl⟩, rfl⟩, rfl⟩, rfl⟩, rfl⟩, rfl⟩, rfl⟩, rfl⟩, rfl⟩, rfl⟩, rfl⟩, rfl⟩) 0 [] (fun _ => by kernel_rfl) ?_ ?_
    · refine ⟨rfl, ?_, rfl, ?_, rfl, ?_, rfl, ?_, rfl, ?_, rfl, ?_, rfl, ?_, rfl, ?_, rfl, ?_, rfl, ?_, rfl, ?_, rfl, ?_, rfl, ?_, trivial⟩
      · intro g2
        refine TL.move rfl rfl (v := .int .i64 k_1) rfl ?_
        refine TL.done ?_
        exact TC.nrm () [] ⟨rfl, trivial⟩ [] (by kernel_rfl)
      · intro g2
        refine TL.bin .i64 k_1 0 rfl rfl rfl rfl (v := .bool (k_1 == 0)) rfl ?_
        refine TL.done ?_
        exact TC.nrm () [] ⟨(by rw [c2]; rfl), trivial⟩ [] (by kernel_rfl)
      · intro g2
        refine TL.move rfl rfl (v := .bool true) rfl ?_
        refine TL.done ?_
        exact TC.nrm () [] ⟨rfl, trivial⟩ [] (by kernel_rfl)
      · intro b4_ b5_ b6_ b7_ b8_ g2
        refine TL.skip rfl rfl (by decide) ?_
        refine TL.done ?_
        exact TC.nrm () [] ⟨rfl, trivial⟩ [] (by kernel_rfl)
      · intro b3_ b7_ g2
        refine TL.asL [] (by kernel_rfl) ?_
        refine TL.skip rfl rfl (by decide) ?_
        refine TL.done ?_
        exact TC.nrm () [] ⟨rfl, trivial⟩ [] (by kernel_rfl)
      · intro b3_ b7_ g2
        refine TL.asL [] (by kernel_rfl) ?_
        refine TL.skip rfl rfl (by decide) ?_
        refine TL.done ?_
        exact TC.nrm () [] ⟨rfl, trivial⟩ [] (by kernel_rfl)
      · intro b3_ b7_ b8_ g2
        refine TL.skip rfl rfl (by decide) ?_
        refine TL.done ?_
        exact TC.nrm () [] ⟨rfl, trivial⟩ [] (by kernel_rfl)
      · intro b3_ b4_ b5_ b6_ g2
        refine TL.asL [] (by kernel_rfl) ?_
        refine TL.skip rfl rfl (by decide) ?_
        refine TL.done ?_
        exact TC.nrm () [] ⟨rfl, trivial⟩ [] (by kernel_rfl)
      · intro b3_ b6_ g2
        refine TL.asL [] (by kernel_rfl) ?_
        refine TL.skip rfl rfl (by decide) ?_
        refine TL.done ?_
        exact TC.nrm () [] ⟨rfl, trivial⟩ [] (by kernel_rfl)
      · intro g2
        refine TL.asL [] (by kernel_rfl) ?_
        refine TL.skip rfl rfl (by decide) ?_
        refine TL.done ?_
        exact TC.nrm () [] ⟨rfl, trivial⟩ [] (by kernel_rfl)
      · intro g2
        refine TL.skip rfl rfl (by decide) ?_
        refine TL.done ?_
        exact TC.nrm () [] ⟨rfl, trivial⟩ [] (by kernel_rfl)
      · intro g2
        refine TL.pick rfl rfl (b := true) rfl (r := .bool true) rfl ?_
        refine TL.done ?_
        exact TC.nrm () [] ⟨rfl, trivial⟩ [] (by kernel_rfl)
      · intro g2
        refine TL.assign rfl rfl (v := .bool true) rfl ?_
        refine TL.done ?_
        exact TC.nrm () [] ⟨rfl, trivial⟩ [] (by kernel_rfl)
    · intro g2
      refine TC.asL [] (by kernel_rfl) ?_
      exact TC.retF (Fin.body (fin1 (.inr rfl) rfl (.tmp rfl) [] rfl ⟨rfl, rfl⟩))
  · refine TC.wk (Γ' := [(0, .int .i64 k_1), (1, bp b_1 0)]) ⟨rfl, rfl, trivial⟩ ?_
    refine TC.bindE ?_
    rintro r_1 hr1
    refine TC.bindE ?_
    rintro r_3 hr2
    refine TC.drawG [(0, .int .i64 k_1), (1, bp b_1 0)] [] ⟨rfl, rfl, trivial⟩ trivial (fun l_ g3 => []) (fun g3 => [.int .i64 k_1, .bool false, .bool false, .int .i64 k_1, SV.v s1, .int .i64 r_1, .int .i64 (w64 (0 - r_1)), SV.v s1, .int .i64 r_1, .bool r_3, .bool (!r_3), .bool (!r_3), .bool (!r_3)]) [[], [0], [0, 1], [0, 1, 2], [0, 1, 2], [0, 1, 2, 4], [0, 1, 2, 4, 5], [0, 1, 2], [0, 1, 2, 4, 5, 7], [0, 1, 2, 3, 4, 5, 6, 7, 8], [0, 1, 2, 3, 4, 5, 6, 7, 8, 9], [0, 1, 2, 3, 4, 5, 6, 7, 8, 9, 10], [0, 1, 2, 3, 4, 5, 6, 7, 8, 9, 10, 11]] [[some false, some false, some false, some false, some false, some false, some false, some false, some false, some false, some false, some false, some false], [some true, some false, some false, some false, some false, some false, some false, some false, some false, some false, some false, some false, some false], [some true, some true, some false, some false, some false, some false, some false, some false, some false, some false, some false, some false, some false], [some true, some true, some true, some false, none, none, none, none, none, some false, some false, some false, some false], [some true, some true, some true, none, some false, some false, some false, none, some false, some false, some false, some false, some false], [some true, some true, some true, none, some true, some false, some false, none, some false, some false, some false, some false, some false], [some true, some true, some true, none, some true, some true, some false, none, none, some false, some false, some false, some false], [some true, some true, some true, none, none, none, none, some false, some false, some false, some false, some false, some false], [some true, some true, some true, none, some true, some true, none, some true, some false, some false, some false, some false, some false], [some true, some true, some true, some true, some true, some true, some true, some true, some true, some false, some false, some false, some false], [some true, some true, some true, some true, some true, some true, some true, some true, some true, some true, some false, some false, some false], [some true, some true, some true, some true, some true, some true, some true, some true, some true, some true, some true, some false, some false], [some true, some true, some true, some true, some true, some true, some true, some true, some true, some true, some true, some true, some false]] (by kernel_rfl) (fun _ => rfl) rfl rfl rfl rfl rfl (fun _ _ => ⟨⟨⟨⟨⟨⟨⟨⟨⟨⟨⟨⟨⟨trivial, rfl⟩, rfl⟩, rfl⟩, rfl⟩, rfl⟩, rfl⟩, rfl⟩, rfl⟩, rfl⟩, rfl⟩, rfl⟩, rfl⟩, rfl⟩) 0 [] (fun _ => by kernel_rfl) ?_ ?_
    · refine ⟨rfl, ?_, rfl, ?_, rfl, ?_, rfl, ?_, rfl, ?_, rfl, ?_, rfl, ?_, rfl, ?_, rfl, ?_, rfl, ?_, rfl, ?_, rfl, ?_, rfl, ?_, trivial⟩
      · intro g3
        refine TL.move rfl rfl (v := .int .i64 k_1) rfl ?_
        refine TL.done ?_
        exact TC.nrm () [] ⟨rfl, trivial⟩ [] (by kernel_rfl)
      · intro g3
        refine TL.bin .i64 k_1 0 rfl rfl rfl rfl (v := .bool (k_1 == 0)) rfl ?_
        refine TL.done ?_
        exact TC.nrm () [] ⟨(by rw [c2]; rfl), trivial⟩ [] (by kernel_rfl)
      · intro g3
        refine TL.move rfl rfl (v := .bool false) rfl ?_
        refine TL.done ?_
        exact TC.nrm () [] ⟨rfl, trivial⟩ [] (by kernel_rfl)
      · intro b4_ b5_ b6_ b7_ b8_ g3
        refine TL.move rfl rfl (v := .int .i64 k_1) rfl ?_
        refine TL.done ?_
        exact TC.nrm () [] ⟨rfl, trivial⟩ [] (by kernel_rfl)
      · intro b3_ b7_ g3
        refine TL.asL [] (by kernel_rfl) ?_
        refine TL.load1 0 (Src.at h2) Try.isAgg32 rfl rfl rfl rfl rfl ?_
        refine TL.done ?_
        exact TC.nrm () [] ⟨rfl, trivial⟩ [] (by kernel_rfl)
      · intro b3_ b7_ g3
        refine TL.asL [] (by kernel_rfl) ?_
        refine TL.callH (R := G.impl_edgesOf.R) hr1 Try.call118 rfl rfl rfl (fun w hS => G.impl_edgesOf.calls w s1 ss1 c1 ((RdM.old h1) w hS)) ?_
        rintro _ _ ⟨rfl, rfl⟩
        refine TL.done ?_
        exact TC.nrm () [] ⟨rfl, trivial⟩ [] (by kernel_rfl)
      · intro b3_ b7_ b8_ g3
        refine TL.neg .i64 r_1 rfl rfl rfl ?_
        refine TL.done ?_
        exact TC.nrm () [] ⟨rfl, trivial⟩ [] (by kernel_rfl)
      · intro b3_ b4_ b5_ b6_ g3
        refine TL.asL [] (by kernel_rfl) ?_
        refine TL.load1 0 (Src.at h2) Try.isAgg32 rfl rfl rfl rfl rfl ?_
        refine TL.done ?_
        exact TC.nrm () [] ⟨rfl, trivial⟩ [] (by kernel_rfl)
      · intro b3_ b6_ g3
        refine TL.asL [] (by kernel_rfl) ?_
        refine TL.callH (R := G.impl_edgesOf.R) hr1 Try.call118 rfl rfl rfl (fun w hS => G.impl_edgesOf.calls w s1 ss1 c1 ((RdM.old h1) w hS)) ?_
        rintro _ _ ⟨rfl, rfl⟩
        refine TL.done ?_
        exact TC.nrm () [] ⟨rfl, trivial⟩ [] (by kernel_rfl)
      · intro g3
        refine TL.asL [] (by kernel_rfl) ?_
        refine TL.callH (R := G.impl_in.R) hr2 Try.call72 rfl rfl rfl (fun w hS => G.impl_in.calls w k_1 (w64 (0 - r_1)) r_1) ?_
        rintro _ _ ⟨rfl, rfl⟩
        refine TL.done ?_
        exact TC.nrm () [] ⟨rfl, trivial⟩ [] (by kernel_rfl)
      · intro g3
        refine TL.not r_3 rfl rfl rfl ?_
        refine TL.done ?_
        exact TC.nrm () [] ⟨rfl, trivial⟩ [] (by kernel_rfl)
      · intro g3
        refine TL.pick rfl rfl (b := false) rfl (r := .bool (!r_3)) rfl ?_
        refine TL.done ?_
        exact TC.nrm () [] ⟨rfl, trivial⟩ [] (by kernel_rfl)
      · intro g3
        refine TL.assign rfl rfl (v := .bool (!r_3)) rfl ?_
        refine TL.done ?_
        exact TC.nrm () [] ⟨rfl, trivial⟩ [] (by kernel_rfl)
    · intro g3
      refine TC.asL [] (by kernel_rfl) ?_
      exact TC.retF (Fin.body (fin1 (.inr rfl) rfl (.tmp rfl) [] rfl ⟨rfl, rfl⟩))

end Go.Proofs.Ytiiljfpbcanphaa.G

/- impl.sided], as a pure function. -/
set_option linter.unusedVariables false
namespace Go.Proofs.Ytiiljfpbcanphaa.G
open Go Go.Sx Go.Proofs

def slices_IndexFunc_impl_sided_impl_sided.b0 (s1 : List (List (Int × Int))) (f2 : (List (Int × Int)) → Option Bool) : Int → Option (LR Int Int) := fun x1 => (bif (decide (x1 < (s1.length : Int))) then chk x1 s1.length ((f2 (gt s1 x1)).bind (fun r_1 => (bif r_1 then some (.ret (x1)) else some (.next (w64 (x1 + 1)))))) else some (.brk x1))

def slices_IndexFunc_impl_sided_impl_sided.f (s1 : List (List (Int × Int))) (f2 : (List (Int × Int)) → Option Bool) : Option Int := (loop (slices_IndexFunc_impl_sided_impl_sided.b0 s1 f2) 0).bind (ln (fun x1 => some (-1)))

def slices_IndexFunc_impl_sided_impl_sided.R (r : Int) (v : Value) (L : List Asn) : Prop := v = .int .i64 r ∧ L = []

set_option maxRecDepth 100000 in
set_option maxHeartbeats 4000000 in
theorem slices_IndexFunc_impl_sided_impl_sided.calls (w : World) (s2 : SV) (ss1 : List SV) (s1 : List (List (Int × Int))) (f1 : Nat) (fst1 : List Value) (cap1 : List Value) (f2 : (List (Int × Int)) → Option Bool) (h1 : ReadsM Eii (hp w) s2 ss1 s1) (hc1 : ∀ (args_ : Array Value) (w_ : World), (callFunc f1 args_).run Try.prog w_ = .ok (.enter f1 args_) w_) (hf1 : ∀ w_, Hle (hp w) (hp w_) → ∀ (s1_ : SV) (x0_ : List (Int × Int)), Reads Eii (hp w_) s1_ x0_ → ∀ r_, f2 x0_ = some r_ → Calls Try.prog f1 (fst1 ++ ([SV.v s1_] : List Value) ++ cap1).toArray w_ (Ret w_ (fun (v_ : Value) (L_ : List Asn) => v_ = .bool r_ ∧ L_ = []))) :
    ∀ r, slices_IndexFunc_impl_sided_impl_sided.f s1 f2 = some r → Calls Try.prog 169 #[SV.v s2, .func (.func f1) fst1.toArray cap1.toArray] w (Ret w (slices_IndexFunc_impl_sided_impl_sided.R r)) := by

  refine calls_T (n := 19) (Γ := [(0, SV.v s2), (1, .func (.func f1) fst1.toArray cap1.toArray)]) (R := slices_IndexFunc_impl_sided_impl_sided.R) Try.func169 rfl rfl (Nat.le_of_ble_eq_true rfl) ⟨rfl, rfl, trivial⟩ ?_
  unfold slices_IndexFunc_impl_sided_impl_sided.f
  refine TC.seq ?_
  refine TC.region ?_
  refine TL.assign rfl rfl (v := .int .i64 0) rfl ?_
  refine TL.done ?_
  refine TC.seq ?_
  refine TC.seq ?_
  refine TC.region ?_
  refine TL.move rfl rfl (v := SV.v s2) rfl ?_
  refine TL.lenM (RdM.old h1) Try.underlying105 rfl rfl rfl ?_
  refine TL.move rfl rfl (v := .int .i64 0) rfl ?_
  refine TL.done ?_
  refine TC.loopK (σ := Int) (γ := Unit) (Γ' := (fun x1 _ => [(0, SV.v s2), (1, .func (.func f1) fst1.toArray cap1.toArray), (7, .int .i64 (s1.length : Int)), (8, .int .i64 x1)])) (L' := (fun x1 _ => [])) (Γb := (fun x1 _ => [(0, SV.v s2), (1, .func (.func f1) fst1.toArray cap1.toArray), (7, .int .i64 (s1.length : Int)), (8, .int .i64 x1)])) (Lb := (fun x1 _ => [])) (0) (()) ⟨rfl, rfl, rfl, rfl, trivial⟩ [] rfl ?_ ?_
  · rintro x1 _
    refine TC.seq ?_
    refine TC.region ?_
    refine TL.bin .i64 x1 (s1.length : Int) rfl rfl rfl rfl (v := .bool (decide (x1 < (s1.length : Int)))) rfl ?_
    refine TL.done ?_
    refine TC.seq ?_
    refine TC.cond (b := (decide (x1 < (s1.length : Int)))) rfl (fun c1 => ?_) (fun c2 => ?_)
    · refine TC.skip ?_
      refine TC.seq ?_
      refine TC.block (NoEx.loop rfl NoEx.body) ?_
      refine TC.seq ?_
      refine TC.region ?_
      refine TL.move rfl rfl (v := .int .i64 x1) rfl ?_
      refine TL.assign rfl rfl (v := .int .i64 x1) rfl ?_
      refine TL.done ?_
      refine TC.seq ?_
      refine TC.region ?_
      refine TL.move rfl rfl (v := .func (.func f1) fst1.toArray cap1.toArray) rfl ?_
      refine TL.move rfl rfl (v := SV.v s2) rfl ?_
      refine TL.move rfl rfl (v := .int .i64 x1) rfl ?_
      refine TL.chk fun h2 => ?_
      refine TL.ixsM x1 x1.toNat (RdM.old h1) h2 Try.underlying105 Try.sizeOf104 rfl rfl rfl rfl (by omega) ?_
      refine TL.loadM2 (RdM.old h1) Try.isAgg104 x1 h2 (by omega) rfl rfl rfl ?_
      refine TL.callv (R := (fun r_ => (fun (v_ : Value) (L_ : List Asn) => v_ = .bool r_ ∧ L_ = []))) (vs := [SV.v (gt ss1 x1)]) hc1 rfl rfl rfl rfl (fun w hS => hf1 w hS.iw (gt ss1 x1) (gt s1 x1) ((RdM.inn (RdM.old h1) h2) w hS)) ?_
      rintro r_1 _ _ ⟨rfl, rfl⟩
      refine TL.done ?_
      refine TC.cond (b := r_1) rfl (fun c3 => ?_) (fun c4 => ?_)
      · refine TC.seq ?_
        refine TC.region ?_
        refine TL.move rfl rfl (v := .int .i64 x1) rfl ?_
        refine TL.assign rfl rfl (v := .int .i64 x1) rfl ?_
        refine TL.done ?_
        exact TC.retF (Fin.loop Far.ret (Fin.body (fin1 (.inr rfl) rfl (.tmp rfl) [] rfl ⟨rfl, rfl⟩)))
      · refine TC.skip ?_
        refine TC.region ?_
        refine TL.bin .i64 x1 1 rfl rfl rfl rfl (v := .int .i64 (w64 (x1 + 1))) rfl ?_
        refine TL.move rfl rfl (v := .int .i64 (w64 (x1 + 1))) rfl ?_
        refine TL.done ?_
        exact TC.next ((w64 (x1 + 1))) (()) ⟨rfl, rfl, rfl, rfl, trivial⟩ [] rfl
    · exact TC.brk (x1) (()) ⟨rfl, rfl, rfl, rfl, trivial⟩ [] rfl
  · rintro x1 _
    refine TC.seq ?_
    refine TC.region ?_
    refine TL.assign rfl rfl (v := .int .i64 (-1)) rfl ?_
    refine TL.done ?_
    exact TC.retF (Fin.body (fin1 (.inr rfl) rfl (.tmp rfl) [] rfl ⟨rfl, rfl⟩))

end Go.Proofs.Ytiiljfpbcanphaa.G
