/- Functions of the program, as pure functions. -/
import Derived.Test.YtnppkcemnjkboaaMGenusOf1
import Derived.Test.YtnppkcemnjkboaaProg
/- spec.l07Touch, as a pure function. -/
set_option linter.unusedVariables false
namespace Go.Proofs.Ytnppkcemnjkboaa.G
open Go Go.Sx Go.Proofs

def spec_l07Touch.b0 (i1 : Int) (t1 : List Int) (u1 : List Int) : Bool × Bool × Int → Option (LB (Bool × Bool × Int)) := fun p => match p with | (touch2, same2, k_1) => (bif (decide (k_1 < 3)) then chk i1 t1.length ((G.spec_l07Edge.f (gt t1 i1)).bind (fun r_1 => chk k_1 u1.length ((G.spec_l07Edge.f (gt u1 k_1)).bind (fun r_2 => ((bif (r_1 == r_2) then (bif same2 then some (true, true) else some (true, ((gt t1 i1) == (gt u1 k_1)))) else some (touch2, same2))).bind (fun p => match p with | (touch3, same3) => some (.next (touch3, same3, (w64 (k_1 + 1))))))))) else some (.brk (touch2, same2, k_1)))

def spec_l07Touch.b1 (t1 : List Int) (u1 : List Int) : Bool × Bool × Int → Option (LB (Bool × Bool × Int)) := fun p => match p with | (touch1, same1, i1) => (bif (decide (i1 < 3)) then (loop1 (spec_l07Touch.b0 i1 t1 u1) (touch1, same1, 0)).bind (fun p => match p with | (touch2, same2, k_1) => some (.next (touch2, same2, (w64 (i1 + 1))))) else some (.brk (touch1, same1, i1)))

def spec_l07Touch.f (t1 : List Int) (u1 : List Int) : Option (Bool × Bool) := (loop1 (spec_l07Touch.b1 t1 u1) (false, false, 0)).bind (fun p => match p with | (touch1, same1, i1) => some (touch1, same1))

def spec_l07Touch.R (r : Bool × Bool) (v : Value) (L : List Asn) : Prop := v = .tuple #[.bool r.1, .bool r.2] ∧ L = []

set_option maxRecDepth 100000 in
set_option maxHeartbeats 4000000 in
theorem spec_l07Touch.calls (w : World) (s1 : SV) (t1 : List Int) (s2 : SV) (u1 : List Int) (h1 : Reads Ei (hp w) s1 t1) (h2 : Reads Ei (hp w) s2 u1) :
    ∀ r, spec_l07Touch.f t1 u1 = some r → Calls Try.prog 102 #[SV.v s1, SV.v s2] w (Ret w (spec_l07Touch.R r)) := by

  refine calls_T (n := 43) (Γ := [(0, SV.v s1), (1, SV.v s2)]) (R := spec_l07Touch.R) Try.func102 rfl rfl (Nat.le_of_ble_eq_true rfl) ⟨rfl, rfl, trivial⟩ ?_
  unfold spec_l07Touch.f
  refine TC.seq ?_
  refine TC.region ?_
  refine TL.assign rfl rfl (v := .bool false) rfl ?_
  refine TL.assign rfl rfl (v := .bool false) rfl ?_
  refine TL.done ?_
  refine TC.seq ?_
  refine TC.region ?_
  refine TL.assign rfl rfl (v := .bool false) rfl ?_
  refine TL.assign rfl rfl (v := .bool false) rfl ?_
  refine TL.done ?_
  refine TC.seq ?_
  refine TC.seq ?_
  refine TC.region ?_
  refine TL.assign rfl rfl (v := .int .i64 0) rfl ?_
  refine TL.done ?_
  refine TC.loop1 (σ := Bool × Bool × Int) (γ := Unit) (Γ' := (fun p q => match p, q with | (touch1, same1, i1), _ => [(0, SV.v s1), (1, SV.v s2), (6, .bool touch1), (7, .bool same1), (8, .int .i64 i1)])) (L' := (fun p q => match p, q with | (touch1, same1, i1), _ => [])) (Γb := (fun p q => match p, q with | (touch1, same1, i1), _ => [(0, SV.v s1), (1, SV.v s2), (6, .bool touch1), (7, .bool same1), (8, .int .i64 i1)])) (Lb := (fun p q => match p, q with | (touch1, same1, i1), _ => [])) ((false, false, 0)) (()) ⟨rfl, rfl, rfl, rfl, rfl, trivial⟩ [] rfl ?_ ?_
  · rintro ⟨touch1, same1, i1⟩ _
    refine TC.seq ?_
    refine TC.seq ?_
    refine TC.region ?_
    refine TL.move rfl rfl (v := .int .i64 i1) rfl ?_
    refine TL.bin .i64 i1 3 rfl rfl rfl rfl (v := .bool (decide (i1 < 3))) rfl ?_
    refine TL.done ?_
    refine TC.cond (b := (decide (i1 < 3))) rfl (fun c1 => ?_) (fun c2 => ?_)
    · refine TC.skip ?_
      refine TC.seq ?_
      refine TC.block (NoEx.loop1 rfl) ?_
      refine TC.seq ?_
      refine TC.region ?_
      refine TL.assign rfl rfl (v := .int .i64 0) rfl ?_
      refine TL.done ?_
      refine TC.loop1 (σ := Bool × Bool × Int) (γ := Unit) (Γ' := (fun p q => match p, q with | (touch2, same2, k_1), _ => [(0, SV.v s1), (1, SV.v s2), (6, .bool touch2), (7, .bool same2), (8, .int .i64 i1), (9, .int .i64 k_1)])) (L' := (fun p q => match p, q with | (touch2, same2, k_1), _ => [])) (Γb := (fun p q => match p, q with | (touch2, same2, k_1), _ => [(0, SV.v s1), (1, SV.v s2), (6, .bool touch2), (7, .bool same2), (8, .int .i64 i1), (9, .int .i64 k_1)])) (Lb := (fun p q => match p, q with | (touch2, same2, k_1), _ => [])) ((touch1, same1, 0)) (()) ⟨rfl, rfl, rfl, rfl, rfl, rfl, trivial⟩ [] rfl ?_ ?_
      · rintro ⟨touch2, same2, k_1⟩ _
        refine TC.seq ?_
        refine TC.seq ?_
        refine TC.region ?_
        refine TL.move rfl rfl (v := .int .i64 k_1) rfl ?_
        refine TL.bin .i64 k_1 3 rfl rfl rfl rfl (v := .bool (decide (k_1 < 3))) rfl ?_
        refine TL.done ?_
        refine TC.cond (b := (decide (k_1 < 3))) rfl (fun c3 => ?_) (fun c4 => ?_)
        · refine TC.skip ?_
          refine TC.seq ?_
          refine TC.block (NoEx.loop1 rfl) ?_
          refine TC.seq ?_
          refine TC.wk (Γ' := [(0, SV.v s1), (1, SV.v s2), (6, .bool touch2), (7, .bool same2), (8, .int .i64 i1), (9, .int .i64 k_1), (14, .int .i64 k_1), (15, .bool (decide (k_1 < 3)))]) ⟨rfl, rfl, rfl, rfl, rfl, rfl, rfl, rfl, trivial⟩ ?_
          refine TC.chk fun h3 => ?_
          refine TC.bindE fun r_1 hr1 => ?_
          refine TC.chk fun h4 => ?_
          refine TC.bindE fun r_2 hr2 => ?_
          refine TC.draw [SV.v s1, .int .i64 i1, ep s1 i1.toNat, .int .i64 (gt t1 i1), .int .i64 r_1, SV.v s2, .int .i64 k_1, ep s2 k_1.toNat, .int .i64 (gt u1 k_1), .int .i64 r_2, .bool (r_1 == r_2)] 11 [] (by kernel_rfl) rfl rfl rfl rfl ?_ ?_
          · refine ⟨?_, ?_, ?_, ?_, ?_, ?_, ?_, ?_, ?_, ?_, ?_, trivial⟩
            · refine TL.move rfl rfl (v := SV.v s1) rfl ?_
              refine TL.done ?_
              exact TC.nrm () () ⟨rfl, trivial⟩ [] rfl
            · refine TL.move rfl rfl (v := .int .i64 i1) rfl ?_
              refine TL.done ?_
              exact TC.nrm () () ⟨rfl, trivial⟩ [] rfl
            · refine TL.ixs i1 i1.toNat (Rd.old h1) h3 Try.underlying53 Try.sizeOf2 rfl rfl rfl rfl (by omega) ?_
              refine TL.done ?_
              exact TC.nrm () () ⟨rfl, trivial⟩ [] rfl
            · refine TL.loadE (Rd.old h1) Try.isAgg2 i1.toNat 0 (gt_spec h3) (v := .int .i64 (gt t1 i1)) rfl (by simp only [show Ei.sz = 1 from rfl]; omega) rfl rfl rfl ?_
              refine TL.done ?_
              exact TC.nrm () () ⟨rfl, trivial⟩ [] rfl
            · refine TL.callH (R := G.spec_l07Edge.R) hr1 Try.call130 rfl rfl rfl (fun w hS => G.spec_l07Edge.calls w (gt t1 i1)) ?_
              rintro _ _ ⟨rfl, rfl⟩
              refine TL.done ?_
              exact TC.nrm () () ⟨rfl, trivial⟩ [] rfl
            · refine TL.move rfl rfl (v := SV.v s2) rfl ?_
              refine TL.done ?_
              exact TC.nrm () () ⟨rfl, trivial⟩ [] rfl
            · refine TL.move rfl rfl (v := .int .i64 k_1) rfl ?_
              refine TL.done ?_
              exact TC.nrm () () ⟨rfl, trivial⟩ [] rfl
            · refine TL.ixs k_1 k_1.toNat (Rd.old h2) h4 Try.underlying53 Try.sizeOf2 rfl rfl rfl rfl (by omega) ?_
              refine TL.done ?_
              exact TC.nrm () () ⟨rfl, trivial⟩ [] rfl
            · refine TL.loadE (Rd.old h2) Try.isAgg2 k_1.toNat 0 (gt_spec h4) (v := .int .i64 (gt u1 k_1)) rfl (by simp only [show Ei.sz = 1 from rfl]; omega) rfl rfl rfl ?_
              refine TL.done ?_
              exact TC.nrm () () ⟨rfl, trivial⟩ [] rfl
            · refine TL.callH (R := G.spec_l07Edge.R) hr2 Try.call130 rfl rfl rfl (fun w hS => G.spec_l07Edge.calls w (gt u1 k_1)) ?_
              rintro _ _ ⟨rfl, rfl⟩
              refine TL.done ?_
              exact TC.nrm () () ⟨rfl, trivial⟩ [] rfl
            · refine TL.bin .i64 r_1 r_2 rfl rfl rfl rfl (v := .bool (r_1 == r_2)) rfl ?_
              refine TL.done ?_
              exact TC.nrm () () ⟨rfl, trivial⟩ [] rfl
          · refine TC.join1 (σ := Bool × Bool) (γ := Unit) (Γ' := (fun p q => match p, q with | (touch3, same3), _ => [(0, SV.v s1), (1, SV.v s2), (6, .bool touch3), (7, .bool same3), (8, .int .i64 i1), (9, .int .i64 k_1)])) (L' := (fun p q => match p, q with | (touch3, same3), _ => [])) ?_ ?_
            · refine TC.cond (b := (r_1 == r_2)) rfl (fun c5 => ?_) (fun c6 => ?_)
              · refine TC.seq ?_
                refine TC.region ?_
                refine TL.assign rfl rfl (v := .bool true) rfl ?_
                refine TL.done ?_
                refine TC.ifB same2 (fun c7 => ?_) (fun c7 => ?_)
                · refine TC.wk (Γ' := [(0, SV.v s1), (1, SV.v s2), (6, .bool true), (8, .int .i64 i1), (9, .int .i64 k_1), (14, .int .i64 k_1), (15, .bool (decide (k_1 < 3))), (18, SV.v s1), (19, .int .i64 i1), (20, ep s1 i1.toNat), (21, .int .i64 (gt t1 i1)), (22, .int .i64 r_1), (23, SV.v s2), (24, .int .i64 k_1), (25, ep s2 k_1.toNat), (26, .int .i64 (gt u1 k_1)), (27, .int .i64 r_2), (28, .bool (r_1 == r_2)), (7, .bool same2)]) ⟨rfl, rfl, rfl, rfl, rfl, rfl, rfl, rfl, rfl, rfl, rfl, rfl, rfl, rfl, rfl, rfl, rfl, rfl, rfl, trivial⟩ ?_
                  refine TC.drawG [(0, SV.v s1), (1, SV.v s2), (6, .bool true), (8, .int .i64 i1), (9, .int .i64 k_1), (14, .int .i64 k_1), (15, .bool (decide (k_1 < 3))), (18, SV.v s1), (19, .int .i64 i1), (20, ep s1 i1.toNat), (21, .int .i64 (gt t1 i1)), (22, .int .i64 r_1), (23, SV.v s2), (24, .int .i64 k_1), (25, ep s2 k_1.toNat), (26, .int .i64 (gt u1 k_1)), (27, .int .i64 r_2), (28, .bool (r_1 == r_2))] [(7, .bool same2, 12)] ⟨rfl, rfl, rfl, rfl, rfl, rfl, rfl, rfl, rfl, rfl, rfl, rfl, rfl, rfl, rfl, rfl, rfl, rfl, trivial⟩ ⟨rfl, trivial⟩ (fun l_ g2 => []) (fun g2 => [.bool true, .bool true, undef, undef, undef, undef, undef, undef, undef, undef, undef, .bool true, .bool true]) [[], [0], [0, 1], [0, 1], [0, 1, 2, 3], [0, 1, 2, 3, 4], [0, 1], [0, 1], [0, 1, 6, 7], [0, 1, 6, 7, 8], [0, 1, 2, 3, 4, 5, 6, 7, 8, 9], [0, 1, 2, 3, 4, 5, 6, 7, 8, 9, 10], [0, 1, 2, 3, 4, 5, 6, 7, 8, 9, 10, 11]] [[some false, some false, some false, some false, some false, some false, some false, some false, some false, some false, some false, some false, some false], [some true, some false, some false, some false, some false, some false, some false, some false, some false, some false, some false, some false, some false], [some true, some true, some false, none, some false, some false, none, none, none, none, some false, some false, some false], [some true, some true, none, some false, some false, some false, none, none, none, none, some false, some false, some false], [some true, some true, some true, some true, some false, some false, none, none, none, none, some false, some false, some false], [some true, some true, some true, some true, some true, some false, none, none, none, none, some false, some false, some false], [some true, some true, none, none, none, none, some false, none, some false, some false, some false, some false, some false], [some true, some true, none, none, none, none, none, some false, some false, some false, some false, some false, some false], [some true, some true, none, none, none, none, some true, some true, some false, some false, some false, some false, some false], [some true, some true, none, none, none, none, some true, some true, some true, some false, some false, some false, some false], [some true, some true, some true, some true, some true, some true, some true, some true, some true, some true, some false, some false, some false], [some true, some true, some true, some true, some true, some true, some true, some true, some true, some true, some true, some false, some false], [some true, some true, some true, some true, some true, some true, some true, some true, some true, some true, some true, some true, some false]] (by kernel_rfl) (fun _ => rfl) rfl rfl rfl rfl rfl (fun _ _ => ⟨⟨⟨⟨⟨⟨⟨⟨⟨⟨⟨⟨⟨trivial, rfl⟩, rfl⟩, rfl⟩, rfl⟩, rfl⟩, rfl⟩, rfl⟩, rfl⟩, rfl⟩, rfl⟩, rfl⟩, rfl⟩, rfl⟩) 0 [] (fun _ => rfl) ?_ ?_
                  · refine ⟨rfl, ?_, rfl, ?_, rfl, ?_, rfl, ?_, rfl, ?_, rfl, ?_, rfl, ?_, rfl, ?_, rfl, ?_, rfl, ?_, rfl, ?_, rfl, ?_, rfl, ?_, trivial⟩
                    · intro g2
                      refine TL.move rfl rfl (v := .bool same2) rfl ?_
                      refine TL.done ?_
                      exact TC.nrm () [] ⟨(by rw [c7]; rfl), trivial⟩ [] rfl
                    · intro g2
                      refine TL.move rfl rfl (v := .bool true) rfl ?_
                      refine TL.done ?_
                      exact TC.nrm () [] ⟨rfl, trivial⟩ [] rfl
                    · intro b3_ b6_ b7_ b8_ b9_ g2
                      refine TL.skip rfl rfl (by decide) ?_
                      refine TL.done ?_
                      exact TC.nrm () [] ⟨rfl, trivial⟩ [] rfl
                    · intro b2_ b6_ b7_ b8_ b9_ g2
                      refine TL.skip rfl rfl (by decide) ?_
                      refine TL.done ?_
                      exact TC.nrm () [] ⟨rfl, trivial⟩ [] rfl
                    · intro b6_ b7_ b8_ b9_ g2
                      refine TL.asL [] rfl ?_
                      refine TL.skip rfl rfl (by decide) ?_
                      refine TL.done ?_
                      exact TC.nrm () [] ⟨rfl, trivial⟩ [] rfl
                    · intro b6_ b7_ b8_ b9_ g2
                      refine TL.asL [] rfl ?_
                      refine TL.skip rfl rfl (by decide) ?_
                      refine TL.done ?_
                      exact TC.nrm () [] ⟨rfl, trivial⟩ [] rfl
                    · intro b2_ b3_ b4_ b5_ b7_ g2
                      refine TL.skip rfl rfl (by decide) ?_
                      refine TL.done ?_
                      exact TC.nrm () [] ⟨rfl, trivial⟩ [] rfl
                    · intro b2_ b3_ b4_ b5_ b6_ g2
                      refine TL.skip rfl rfl (by decide) ?_
                      refine TL.done ?_
                      exact TC.nrm () [] ⟨rfl, trivial⟩ [] rfl
                    · intro b2_ b3_ b4_ b5_ g2
                      refine TL.asL [] rfl ?_
                      refine TL.skip rfl rfl (by decide) ?_
                      refine TL.done ?_
                      exact TC.nrm () [] ⟨rfl, trivial⟩ [] rfl
                    · intro b2_ b3_ b4_ b5_ g2
                      refine TL.asL [] rfl ?_
                      refine TL.skip rfl rfl (by decide) ?_
                      refine TL.done ?_
                      exact TC.nrm () [] ⟨rfl, trivial⟩ [] rfl
                    · intro g2
                      refine TL.skip rfl rfl (by decide) ?_
                      refine TL.done ?_
                      exact TC.nrm () [] ⟨rfl, trivial⟩ [] rfl
                    · intro g2
                      refine TL.pick rfl rfl (b := true) rfl (r := .bool true) rfl ?_
                      refine TL.done ?_
                      exact TC.nrm () [] ⟨rfl, trivial⟩ [] rfl
                    · intro g2
                      refine TL.assign rfl rfl (v := .bool true) rfl ?_
                      refine TL.done ?_
                      exact TC.nrm () [] ⟨rfl, trivial⟩ [] rfl
                  · intro g2
                    refine TC.asL [] rfl ?_
                    exact TC.nrm ((true, true)) (()) ⟨rfl, rfl, rfl, rfl, rfl, rfl, trivial⟩ [] rfl
                · refine TC.wk (Γ' := [(0, SV.v s1), (1, SV.v s2), (6, .bool true), (8, .int .i64 i1), (9, .int .i64 k_1), (14, .int .i64 k_1), (15, .bool (decide (k_1 < 3))), (18, SV.v s1), (19, .int .i64 i1), (20, ep s1 i1.toNat), (21, .int .i64 (gt t1 i1)), (22, .int .i64 r_1), (23, SV.v s2), (24, .int .i64 k_1), (25, ep s2 k_1.toNat), (26, .int .i64 (gt u1 k_1)), (27, .int .i64 r_2), (28, .bool (r_1 == r_2)), (7, .bool same2)]) ⟨rfl, rfl, rfl, rfl, rfl, rfl, rfl, rfl, rfl, rfl, rfl, rfl, rfl, rfl, rfl, rfl, rfl, rfl, rfl, trivial⟩ ?_
                  refine TC.drawG [(0, SV.v s1), (1, SV.v s2), (6, .bool true), (8, .int .i64 i1), (9, .int .i64 k_1), (14, .int .i64 k_1), (15, .bool (decide (k_1 < 3))), (18, SV.v s1), (19, .int .i64 i1), (20, ep s1 i1.toNat), (21, .int .i64 (gt t1 i1)), (22, .int .i64 r_1), (23, SV.v s2), (24, .int .i64 k_1), (25, ep s2 k_1.toNat), (26, .int .i64 (gt u1 k_1)), (27, .int .i64 r_2), (28, .bool (r_1 == r_2))] [(7, .bool same2, 12)] ⟨rfl, rfl, rfl, rfl, rfl, rfl, rfl, rfl, rfl, rfl, rfl, rfl, rfl, rfl, rfl, rfl, rfl, rfl, trivial⟩ ⟨rfl, trivial⟩ (fun l_ g3 => []) (fun g3 => [.bool false, .bool false, SV.v s1, .int .i64 i1, ep s1 i1.toNat, .int .i64 (gt t1 i1), SV.v s2, .int .i64 k_1, ep s2 k_1.toNat, .int .i64 (gt u1 k_1), .bool ((gt t1 i1) == (gt u1 k_1)), .bool ((gt t1 i1) == (gt u1 k_1)), .bool ((gt t1 i1) == (gt u1 k_1))]) [[], [0], [0, 1], [0, 1], [0, 1, 2, 3], [0, 1, 2, 3, 4], [0, 1], [0, 1], [0, 1, 6, 7], [0, 1, 6, 7, 8], [0, 1, 2, 3, 4, 5, 6, 7, 8, 9], [0, 1, 2, 3, 4, 5, 6, 7, 8, 9, 10], [0, 1, 2, 3, 4, 5, 6, 7, 8, 9, 10, 11]] [[some false, some false, some false, some false, some false, some false, some false, some false, some false, some false, some false, some false, some false], [some true, some false, some false, some false, some false, some false, some false, some false, some false, some false, some false, some false, some false], [some true, some true, some false, none, some false, some false, none, none, none, none, some false, some false, some false], [some true, some true, none, some false, some false, some false, none, none, none, none, some false, some false, some false], [some true, some true, some true, some true, some false, some false, none, none, none, none, some false, some false, some false], [some true, some true, some true, some true, some true, some false, none, none, none, none, some false, some false, some false], [some true, some true, none, none, none, none, some false, none, some false, some false, some false, some false, some false], [some true, some true, none, none, none, none, none, some false, some false, some false, some false, some false, some false], [some true, some true, none, none, none, none, some true, some true, some false, some false, some false, some false, some false], [some true, some true, none, none, none, none, some true, some true, some true, some false, some false, some false, some false], [some true, some true, some true, some true, some true, some true, some true, some true, some true, some true, some false, some false, some false], [some true, some true, some true, some true, some true, some true, some true, some true, some true, some true, some true, some false, some false], [some true, some true, some true, some true, some true, some true, some true, some true, some true, some true, some true, some true, some false]] (by kernel_rfl) (fun _ => rfl) rfl rfl rfl rfl rfl (fun _ _ => ⟨⟨⟨⟨⟨⟨⟨⟨⟨⟨⟨⟨⟨trivial, rfl⟩, rfl⟩, rfl⟩, rfl⟩, rfl⟩, rfl⟩, rfl⟩, rfl⟩, rfl⟩, rfl⟩, rfl⟩, rfl⟩, rfl⟩) 0 [] (fun _ => rfl) ?_ ?_
                  · refine ⟨rfl, ?_, rfl, ?_, rfl, ?_, rfl, ?_, rfl, ?_, rfl, ?_, rfl, ?_, rfl, ?_, rfl, ?_, rfl, ?_, rfl, ?_, rfl, ?_, rfl, ?_, trivial⟩
                    · intro g3
                      refine TL.move rfl rfl (v := .bool same2) rfl ?_
                      refine TL.done ?_
                      exact TC.nrm () [] ⟨(by rw [c7]; rfl), trivial⟩ [] rfl
                    · intro g3
                      refine TL.move rfl rfl (v := .bool false) rfl ?_
                      refine TL.done ?_
                      exact TC.nrm () [] ⟨rfl, trivial⟩ [] rfl
                    · intro b3_ b6_ b7_ b8_ b9_ g3
                      refine TL.move rfl rfl (v := SV.v s1) rfl ?_
                      refine TL.done ?_
                      exact TC.nrm () [] ⟨rfl, trivial⟩ [] rfl
                    · intro b2_ b6_ b7_ b8_ b9_ g3
                      refine TL.move rfl rfl (v := .int .i64 i1) rfl ?_
                      refine TL.done ?_
                      exact TC.nrm () [] ⟨rfl, trivial⟩ [] rfl
                    · intro b6_ b7_ b8_ b9_ g3
                      refine TL.asL [] rfl ?_
                      refine TL.ixs i1 i1.toNat (Rd.old h1) h3 Try.underlying53 Try.sizeOf2 rfl rfl rfl rfl (by omega) ?_
                      refine TL.done ?_
                      exact TC.nrm () [] ⟨rfl, trivial⟩ [] rfl
                    · intro b6_ b7_ b8_ b9_ g3
                      refine TL.asL [] rfl ?_
                      refine TL.loadE (Rd.old h1) Try.isAgg2 i1.toNat 0 (gt_spec h3) (v := .int .i64 (gt t1 i1)) rfl (by simp only [show Ei.sz = 1 from rfl]; omega) rfl rfl rfl ?_
                      refine TL.done ?_
                      exact TC.nrm () [] ⟨rfl, trivial⟩ [] rfl
                    · intro b2_ b3_ b4_ b5_ b7_ g3
                      refine TL.move rfl rfl (v := SV.v s2) rfl ?_
                      refine TL.done ?_
                      exact TC.nrm () [] ⟨rfl, trivial⟩ [] rfl
                    · intro b2_ b3_ b4_ b5_ b6_ g3
                      refine TL.move rfl rfl (v := .int .i64 k_1) rfl ?_
                      refine TL.done ?_
                      exact TC.nrm () [] ⟨rfl, trivial⟩ [] rfl
                    · intro b2_ b3_ b4_ b5_ g3
                      refine TL.asL [] rfl ?_
                      refine TL.ixs k_1 k_1.toNat (Rd.old h2) h4 Try.underlying53 Try.sizeOf2 rfl rfl rfl rfl (by omega) ?_
                      refine TL.done ?_
                      exact TC.nrm () [] ⟨rfl, trivial⟩ [] rfl
                    · intro b2_ b3_ b4_ b5_ g3
                      refine TL.asL [] rfl ?_
                      refine TL.loadE (Rd.old h2) Try.isAgg2 k_1.toNat 0 (gt_spec h4) (v := .int .i64 (gt u1 k_1)) rfl (by simp only [show Ei.sz = 1 from rfl]; omega) rfl rfl rfl ?_
                      refine TL.done ?_
                      exact TC.nrm () [] ⟨rfl, trivial⟩ [] rfl
                    · intro g3
                      refine TL.bin .i64 (gt t1 i1) (gt u1 k_1) rfl rfl rfl rfl (v := .bool ((gt t1 i1) == (gt u1 k_1))) rfl ?_
                      refine TL.done ?_
                      exact TC.nrm () [] ⟨rfl, trivial⟩ [] rfl
                    · intro g3
                      refine TL.pick rfl rfl (b := false) rfl (r := .bool ((gt t1 i1) == (gt u1 k_1))) rfl ?_
                      refine TL.done ?_
                      exact TC.nrm () [] ⟨rfl, trivial⟩ [] rfl
                    · intro g3
                      refine TL.assign rfl rfl (v := .bool ((gt t1 i1) == (gt u1 k_1))) rfl ?_
                      refine TL.done ?_
                      exact TC.nrm () [] ⟨rfl, trivial⟩ [] rfl
                  · intro g3
                    refine TC.asL [] rfl ?_
                    exact TC.nrm ((true, ((gt t1 i1) == (gt u1 k_1)))) (()) ⟨rfl, rfl, rfl, rfl, rfl, rfl, trivial⟩ [] rfl
              · refine TC.skip ?_
                exact TC.nrm ((touch2, same2)) (()) ⟨rfl, rfl, rfl, rfl, rfl, rfl, trivial⟩ [] rfl
            · rintro ⟨touch3, same3⟩ _
              refine TC.region ?_
              refine TL.move rfl rfl (v := .int .i64 k_1) rfl ?_
              refine TL.bin .i64 k_1 1 rfl rfl rfl rfl (v := .int .i64 (w64 (k_1 + 1))) rfl ?_
              refine TL.assign rfl rfl (v := .int .i64 (w64 (k_1 + 1))) rfl ?_
              refine TL.done ?_
              exact TC.next1 ((touch3, same3, (w64 (k_1 + 1)))) (()) ⟨rfl, rfl, rfl, rfl, rfl, rfl, trivial⟩ [] rfl
        · exact TC.brk1 ((touch2, same2, k_1)) (()) ⟨rfl, rfl, rfl, rfl, rfl, rfl, trivial⟩ [] rfl
      · rintro ⟨touch2, same2, k_1⟩ _
        refine TC.region ?_
        refine TL.move rfl rfl (v := .int .i64 i1) rfl ?_
        refine TL.bin .i64 i1 1 rfl rfl rfl rfl (v := .int .i64 (w64 (i1 + 1))) rfl ?_
        refine TL.assign rfl rfl (v := .int .i64 (w64 (i1 + 1))) rfl ?_
        refine TL.done ?_
        exact TC.next1 ((touch2, same2, (w64 (i1 + 1)))) (()) ⟨rfl, rfl, rfl, rfl, rfl, trivial⟩ [] rfl
    · exact TC.brk1 ((touch1, same1, i1)) (()) ⟨rfl, rfl, rfl, rfl, rfl, trivial⟩ [] rfl
  · rintro ⟨touch1, same1, i1⟩ _
    refine TC.seq ?_
    refine TC.region ?_
    refine TL.move rfl rfl (v := .bool touch1) rfl ?_
    refine TL.move rfl rfl (v := .bool same1) rfl ?_
    refine TL.assign rfl rfl (v := .bool touch1) rfl ?_
    refine TL.assign rfl rfl (v := .bool same1) rfl ?_
    refine TL.done ?_
    exact TC.retF (Fin.body (fin2 (.inr rfl) rfl (.tmp rfl) (.tmp rfl) [] rfl ⟨rfl, rfl⟩))

end Go.Proofs.Ytnppkcemnjkboaa.G

/- spec.l01Own, as a pure function. -/
set_option linter.unusedVariables false
namespace Go.Proofs.Ytnppkcemnjkboaa.G
open Go Go.Sx Go.Proofs

def spec_l01Own.f (list_1 : List Int) : Option (List Int) := small (([] : List Int).length + list_1.length) (some (([] : List Int) ++ list_1))

def spec_l01Own.R (r : List Int) (v : Value) (L : List Asn) : Prop := ∃ (s0 : SV), v = SV.v s0 ∧ L = [row Ei 2 s0 r]

set_option maxRecDepth 100000 in
set_option maxHeartbeats 4000000 in
theorem spec_l01Own.calls (w : World) (s1 : SV) (list_1 : List Int) (h1 : Reads Ei (hp w) s1 list_1) :
    ∀ r, spec_l01Own.f list_1 = some r → Calls Try.prog 115 #[SV.v s1] w (Ret w (spec_l01Own.R r)) := by

  refine calls_T (n := 6) (Γ := [(0, SV.v s1)]) (R := spec_l01Own.R) Try.func115 rfl rfl (Nat.le_of_ble_eq_true rfl) ⟨rfl, trivial⟩ ?_
  unfold spec_l01Own.f
  refine TC.seq ?_
  refine TC.region ?_
  refine TL.assign rfl rfl (v := SV.v ⟨none, 0, 0⟩) rfl ?_
  refine TL.done ?_
  refine TC.seq ?_
  refine TC.region ?_
  refine TL.bslice0 Ei Try.underlying53 Try.sizeOf2 rfl rfl fun s2 => ?_
  refine TL.move rfl rfl (v := SV.v s1) rfl ?_
  refine TL.small fun h2 => ?_
  refine TL.append 0 rfl (Rd.old h1) Try.underlying53 (info_of Try.type2) (zv := (Try.t2.zero.getD (.bool false))) rfl rfl rfl (by decide) h2 rfl rfl rfl rfl fun s3 => ?_
  refine TL.assign rfl rfl (v := SV.v s3) rfl ?_
  refine TL.done ?_
  exact TC.retF (Fin.body (fin1 (.inr rfl) rfl (.tmp rfl) [0] rfl ⟨s3, rfl, rfl⟩))

end Go.Proofs.Ytnppkcemnjkboaa.G

/- spec.l07Join, as a pure function. -/
set_option linter.unusedVariables false
namespace Go.Proofs.Ytnppkcemnjkboaa.G
open Go Go.Sx Go.Proofs

def spec_l07Join.b0 (leaders1 : List Int) (k_1 : Int) (i1 : Int) : (List Int) × Int → Option (LB ((List Int) × Int)) := fun p => match p with | (out1, j1) => (bif (decide (j1 < (out1.length : Int))) then chk j1 out1.length (((bif ((gt out1 j1) == (gt leaders1 k_1)) then some (out1.set j1.toNat (gt leaders1 i1)) else some out1)).bind (fun out2 => some (.next (out2, (w64 (j1 + 1)))))) else some (.brk (out1, j1)))

def spec_l07Join.f (leaders1 : List Int) (i1 : Int) (k_1 : Int) : Option (List Int) := (G.spec_l01Own.f leaders1).bind (fun r_1 => chk i1 leaders1.length (chk k_1 leaders1.length ((loop1 (spec_l07Join.b0 leaders1 k_1 i1) (r_1, 0)).bind (fun p => match p with | (out1, j1) => some out1))))

def spec_l07Join.R (r : List Int) (v : Value) (L : List Asn) : Prop := ∃ (s0 : SV), v = SV.v s0 ∧ L = [row Ei 2 s0 r]

set_option maxRecDepth 100000 in
set_option maxHeartbeats 4000000 in
theorem spec_l07Join.calls (w : World) (s1 : SV) (leaders1 : List Int) (i1 : Int) (k_1 : Int) (h1 : Reads Ei (hp w) s1 leaders1) :
    ∀ r, spec_l07Join.f leaders1 i1 k_1 = some r → Calls Try.prog 103 #[SV.v s1, .int .i64 i1, .int .i64 k_1] w (Ret w (spec_l07Join.R r)) := by

  refine calls_T (n := 38) (Γ := [(0, SV.v s1), (1, .int .i64 i1), (2, .int .i64 k_1)]) (R := spec_l07Join.R) Try.func103 rfl rfl (Nat.le_of_ble_eq_true rfl) ⟨rfl, rfl, rfl, trivial⟩ ?_
  unfold spec_l07Join.f
  refine TC.seq ?_
  refine TC.region ?_
  refine TL.assign rfl rfl (v := SV.v ⟨none, 0, 0⟩) rfl ?_
  refine TL.done ?_
  refine TC.seq ?_
  refine TC.wk (Γ' := [(0, SV.v s1), (1, .int .i64 i1), (2, .int .i64 k_1), (6, SV.v ⟨none, 0, 0⟩)]) ⟨rfl, rfl, rfl, rfl, trivial⟩ ?_
  refine TC.bindE ?_
  rintro r_1 hr1
  refine TC.chk fun h2 => ?_
  refine TC.chk fun h3 => ?_
  refine TC.drawG [(0, SV.v s1), (1, .int .i64 i1), (2, .int .i64 k_1), (6, SV.v ⟨none, 0, 0⟩)] [] ⟨rfl, rfl, rfl, rfl, trivial⟩ trivial (fun l_ g1 => [(bif nb l_ 1 then row Ei 2 (gs (g1 8)) r_1 else emp)]) (fun g1 => [SV.v s1, SV.v (gs (g1 8)), SV.v s1, .int .i64 i1, ep s1 i1.toNat, .int .i64 (gt leaders1 i1), SV.v s1, .int .i64 k_1, ep s1 k_1.toNat, .int .i64 (gt leaders1 k_1), SV.v (gs (g1 8)), .int .i64 (gt leaders1 i1), .int .i64 (gt leaders1 k_1)]) [[], [0], [], [], [2, 3], [2, 3, 4], [], [], [6, 7], [6, 7, 8], [0, 1], [0, 1, 2, 3, 4, 5, 10], [0, 1, 2, 3, 4, 5, 6, 7, 8, 9, 10, 11]] [[some false, some false, none, none, none, none, none, none, none, none, some false, some false, some false], [some true, some false, none, none, none, none, none, none, none, none, some false, some false, some false], [none, none, some false, none, some false, some false, none, none, none, none, none, some false, some false], [none, none, none, some false, some false, some false, none, none, none, none, none, some false, some false], [none, none, some true, some true, some false, some false, none, none, none, none, none, some false, some false], [none, none, some true, some true, some true, some false, none, none, none, none, none, some false, some false], [none, none, none, none, none, none, some false, none, some false, some false, none, none, some false], [none, none, none, none, none, none, none, some false, some false, some false, none, none, some false], [none, none, none, none, none, none, some true, some true, some false, some false, none, none, some false], [none, none, none, none, none, none, some true, some true, some true, some false, none, none, some false], [some true, some true, none, none, none, none, none, none, none, none, some false, some false, some false], [some true, some true, some true, some true, some true, some true, none, none, none, none, some true, some false, some false], [some true, some true, some true, some true, some true, some true, some true, some true, some true, some true, some true, some true, some false]] (by kernel_rfl) (fun _ => rfl) rfl rfl rfl rfl rfl (fun _ _ => ⟨⟨⟨⟨⟨⟨⟨⟨⟨⟨⟨⟨⟨trivial, rfl⟩, rfl⟩, rfl⟩, rfl⟩, rfl⟩, rfl⟩, rfl⟩, rfl⟩, rfl⟩, rfl⟩, rfl⟩, rfl⟩, rfl⟩) 1 [0] (fun _ => rfl) ?_ ?_
  · refine ⟨rfl, ?_, rfl, ?_, rfl, ?_, rfl, ?_, rfl, ?_, rfl, ?_, rfl, ?_, rfl, ?_, rfl, ?_, rfl, ?_, rfl, ?_, rfl, ?_, rfl, ?_, trivial⟩
    · intro b2_ b3_ b4_ b5_ b6_ b7_ b8_ b9_ g1
      refine TL.move rfl rfl (v := SV.v s1) rfl ?_
      refine TL.done ?_
      exact TC.nrm () [] ⟨rfl, trivial⟩ [0] rfl
    · intro b2_ b3_ b4_ b5_ b6_ b7_ b8_ b9_ g1
      refine TL.asL [emp] rfl ?_
      refine TL.callH (R := G.spec_l01Own.R) hr1 Try.call115 rfl rfl rfl (fun w hS => G.spec_l01Own.calls w s1 leaders1 ((Rd.old h1) w hS)) ?_
      rintro _ _ ⟨s2, rfl, rfl⟩
      refine TL.done ?_
      exact TC.nrm () [[s2]] ⟨rfl, trivial⟩ [0] rfl
    · intro b0_ b1_ b3_ b6_ b7_ b8_ b9_ b10_ g1
      refine TL.move rfl rfl (v := SV.v s1) rfl ?_
      refine TL.done ?_
      exact TC.nrm () [] ⟨rfl, trivial⟩ [0] rfl
    · intro b0_ b1_ b2_ b6_ b7_ b8_ b9_ b10_ g1
      refine TL.move rfl rfl (v := .int .i64 i1) rfl ?_
      refine TL.done ?_
      exact TC.nrm () [] ⟨rfl, trivial⟩ [0] rfl
    · intro b0_ b1_ b6_ b7_ b8_ b9_ b10_ g1
      refine TL.asL [(bif b1_ then row Ei 2 (gs (g1 8)) r_1 else emp)] rfl ?_
      refine TL.ixs i1 i1.toNat (Rd.old h1) h2 Try.underlying53 Try.sizeOf2 rfl rfl rfl rfl (by omega) ?_
      refine TL.done ?_
      exact TC.nrm () [] ⟨rfl, trivial⟩ [0] rfl
    · intro b0_ b1_ b6_ b7_ b8_ b9_ b10_ g1
      refine TL.asL [(bif b1_ then row Ei 2 (gs (g1 8)) r_1 else emp)] rfl ?_
      refine TL.loadE (Rd.old h1) Try.isAgg2 i1.toNat 0 (gt_spec h2) (v := .int .i64 (gt leaders1 i1)) rfl (by simp only [show Ei.sz = 1 from rfl]; omega) rfl rfl rfl ?_
      refine TL.done ?_
      exact TC.nrm () [] ⟨rfl, trivial⟩ [0] rfl
    · intro b0_ b1_ b2_ b3_ b4_ b5_ b7_ b10_ b11_ g1
      refine TL.move rfl rfl (v := SV.v s1) rfl ?_
      refine TL.done ?_
      exact TC.nrm () [] ⟨rfl, trivial⟩ [0] rfl
    · intro b0_ b1_ b2_ b3_ b4_ b5_ b6_ b10_ b11_ g1
      refine TL.move rfl rfl (v := .int .i64 k_1) rfl ?_
      refine TL.done ?_
      exact TC.nrm () [] ⟨rfl, trivial⟩ [0] rfl
    · intro b0_ b1_ b2_ b3_ b4_ b5_ b10_ b11_ g1
      refine TL.asL [(bif b1_ then row Ei 2 (gs (g1 8)) r_1 else emp)] rfl ?_
      refine TL.ixs k_1 k_1.toNat (Rd.old h1) h3 Try.underlying53 Try.sizeOf2 rfl rfl rfl rfl (by omega) ?_
      refine TL.done ?_
      exact TC.nrm () [] ⟨rfl, trivial⟩ [0] rfl
    · intro b0_ b1_ b2_ b3_ b4_ b5_ b10_ b11_ g1
      refine TL.asL [(bif b1_ then row Ei 2 (gs (g1 8)) r_1 else emp)] rfl ?_
      refine TL.loadE (Rd.old h1) Try.isAgg2 k_1.toNat 0 (gt_spec h3) (v := .int .i64 (gt leaders1 k_1)) rfl (by simp only [show Ei.sz = 1 from rfl]; omega) rfl rfl rfl ?_
      refine TL.done ?_
      exact TC.nrm () [] ⟨rfl, trivial⟩ [0] rfl
    · intro b2_ b3_ b4_ b5_ b6_ b7_ b8_ b9_ g1
      refine TL.assign rfl rfl (v := SV.v (gs (g1 8))) rfl ?_
      refine TL.done ?_
      exact TC.nrm () [] ⟨rfl, trivial⟩ [0] rfl
    · intro b6_ b7_ b8_ b9_ g1
      refine TL.assign rfl rfl (v := .int .i64 (gt leaders1 i1)) rfl ?_
      refine TL.done ?_
      exact TC.nrm () [] ⟨rfl, trivial⟩ [0] rfl
    · intro g1
      refine TL.assign rfl rfl (v := .int .i64 (gt leaders1 k_1)) rfl ?_
      refine TL.done ?_
      exact TC.nrm () [] ⟨rfl, trivial⟩ [0] rfl
  · intro g1
    refine TC.asL [row Ei 2 (gs (g1 8)) r_1] rfl ?_
    refine TC.seq ?_
    refine TC.seq ?_
    refine TC.region ?_
    refine TL.assign rfl rfl (v := .int .i64 0) rfl ?_
    refine TL.done ?_
    refine TC.loop1 (σ := (List Int) × Int) (γ := Unit) (Γ' := (fun p q => match p, q with | (out1, j1), _ => [(7, SV.v (gs (g1 8))), (8, .int .i64 (gt leaders1 i1)), (9, .int .i64 (gt leaders1 k_1)), (10, .int .i64 j1)])) (L' := (fun p q => match p, q with | (out1, j1), _ => [row Ei 2 (gs (g1 8)) out1])) (Γb := (fun p q => match p, q with | (out1, j1), _ => [(7, SV.v (gs (g1 8))), (8, .int .i64 (gt leaders1 i1)), (9, .int .i64 (gt leaders1 k_1)), (10, .int .i64 j1)])) (Lb := (fun p q => match p, q with | (out1, j1), _ => [row Ei 2 (gs (g1 8)) out1])) ((r_1, 0)) (()) ⟨rfl, rfl, rfl, rfl, trivial⟩ [0] rfl ?_ ?_
    · rintro ⟨out1, j1⟩ _
      refine TC.seq ?_
      refine TC.seq ?_
      refine TC.region ?_
      refine TL.move rfl rfl (v := .int .i64 j1) rfl ?_
      refine TL.move rfl rfl (v := SV.v (gs (g1 8))) rfl ?_
      refine TL.len (Rd.row 0 rfl) Try.underlying53 rfl rfl rfl ?_
      refine TL.bin .i64 j1 (out1.length : Int) rfl rfl rfl rfl (v := .bool (decide (j1 < (out1.length : Int)))) rfl ?_
      refine TL.done ?_
      refine TC.cond (b := (decide (j1 < (out1.length : Int)))) rfl (fun c1 => ?_) (fun c2 => ?_)
      · refine TC.skip ?_
        refine TC.seq ?_
        refine TC.block (NoEx.loop1 rfl) ?_
        refine TC.seq ?_
        refine TC.region ?_
        refine TL.move rfl rfl (v := SV.v (gs (g1 8))) rfl ?_
        refine TL.move rfl rfl (v := .int .i64 j1) rfl ?_
        refine TL.chk fun h4 => ?_
        refine TL.ixs j1 j1.toNat (Rd.row 0 rfl) h4 Try.underlying53 Try.sizeOf2 rfl rfl rfl rfl (by omega) ?_
        refine TL.loadE (Rd.row 0 rfl) Try.isAgg2 j1.toNat 0 (gt_spec h4) (v := .int .i64 (gt out1 j1)) rfl (by simp only [show Ei.sz = 1 from rfl]; omega) rfl rfl rfl ?_
        refine TL.move rfl rfl (v := .int .i64 (gt leaders1 k_1)) rfl ?_
        refine TL.bin .i64 (gt out1 j1) (gt leaders1 k_1) rfl rfl rfl rfl (v := .bool ((gt out1 j1) == (gt leaders1 k_1))) rfl ?_
        refine TL.done ?_
        refine TC.join1 (σ := (List Int)) (γ := Unit) (Γ' := (fun out2 _ => [(7, SV.v (gs (g1 8))), (8, .int .i64 (gt leaders1 i1)), (9, .int .i64 (gt leaders1 k_1)), (10, .int .i64 j1)])) (L' := (fun out2 _ => [row Ei 2 (gs (g1 8)) out2])) ?_ ?_
        · refine TC.cond (b := ((gt out1 j1) == (gt leaders1 k_1))) rfl (fun c3 => ?_) (fun c4 => ?_)
          · refine TC.region ?_
            refine TL.move rfl rfl (v := SV.v (gs (g1 8))) rfl ?_
            refine TL.move rfl rfl (v := .int .i64 j1) rfl ?_
            refine TL.move rfl rfl (v := .int .i64 (gt leaders1 i1)) rfl ?_
            refine TL.ixs j1 j1.toNat (Rd.row 0 rfl) h4 Try.underlying53 Try.sizeOf2 rfl rfl rfl rfl (by omega) ?_
            refine TL.stE 0 (j1.toNat) (gt leaders1 i1) (v := .int .i64 (gt leaders1 i1)) rfl Try.sizeOf2 rfl rfl rfl (by have h_ := h4; omega) (by simp only [show Ei.sz = 1 from rfl]; omega) rfl rfl rfl ?_
            refine TL.done ?_
            exact TC.nrm ((out1.set j1.toNat (gt leaders1 i1))) (()) ⟨rfl, rfl, rfl, rfl, trivial⟩ [0] rfl
          · refine TC.skip ?_
            exact TC.nrm (out1) (()) ⟨rfl, rfl, rfl, rfl, trivial⟩ [0] rfl
        · rintro out2 _
          refine TC.region ?_
          refine TL.move rfl rfl (v := .int .i64 j1) rfl ?_
          refine TL.bin .i64 j1 1 rfl rfl rfl rfl (v := .int .i64 (w64 (j1 + 1))) rfl ?_
          refine TL.assign rfl rfl (v := .int .i64 (w64 (j1 + 1))) rfl ?_
          refine TL.done ?_
          exact TC.next1 ((out2, (w64 (j1 + 1)))) (()) ⟨rfl, rfl, rfl, rfl, trivial⟩ [0] rfl
      · exact TC.brk1 ((out1, j1)) (()) ⟨rfl, rfl, rfl, rfl, trivial⟩ [0] rfl
    · rintro ⟨out1, j1⟩ _
      refine TC.seq ?_
      refine TC.region ?_
      refine TL.move rfl rfl (v := SV.v (gs (g1 8))) rfl ?_
      refine TL.assign rfl rfl (v := SV.v (gs (g1 8))) rfl ?_
      refine TL.done ?_
      exact TC.retF (Fin.body (fin1 (.inr rfl) rfl (.tmp rfl) [0] rfl ⟨(gs (g1 8)), rfl, rfl⟩))

end Go.Proofs.Ytnppkcemnjkboaa.G

/- spec.l07Pieces, as a pure function. -/
set_option linter.unusedVariables false
namespace Go.Proofs.Ytnppkcemnjkboaa.G
open Go Go.Sx Go.Proofs

def spec_l07Pieces.b0 (i1 : Int) (s1 : List (List Int)) : (List Int) × Int → Option (LB ((List Int) × Int)) := fun p => match p with | (leaders2, k_1) => (bif (decide (k_1 < i1)) then chk i1 s1.length (chk k_1 s1.length ((G.spec_l07Touch.f (gt s1 i1) (gt s1 k_1)).bind (fun p => match p with | (r_2, r_3) => ((bif r_2 then (G.spec_l07Join.f leaders2 i1 k_1).bind (fun r_4 => some r_4) else some leaders2)).bind (fun leaders3 => some (.next (leaders3, (w64 (k_1 + 1)))))))) else some (.brk (leaders2, k_1)))

def spec_l07Pieces.b1 (s1 : List (List Int)) : (List Int) × Int → Option (LB ((List Int) × Int)) := fun p => match p with | (leaders1, i1) => (bif (decide (i1 < (s1.length : Int))) then (loop1 (spec_l07Pieces.b0 i1 s1) (leaders1, 0)).bind (fun p => match p with | (leaders2, k_1) => some (.next (leaders2, (w64 (i1 + 1))))) else some (.brk (leaders1, i1)))

def spec_l07Pieces.f (s1 : List (List Int)) : Option (List Int) := (G.spec_l07Numbers.f (s1.length : Int)).bind (fun r_1 => (loop1 (spec_l07Pieces.b1 s1) (r_1, 0)).bind (fun p => match p with | (leaders1, i1) => some leaders1))

def spec_l07Pieces.R (r : List Int) (v : Value) (L : List Asn) : Prop := ∃ (s0 : SV), v = SV.v s0 ∧ L = [row Ei 2 s0 r]

set_option maxRecDepth 100000 in
set_option maxHeartbeats 4000000 in
theorem spec_l07Pieces.calls (w : World) (s2 : SV) (ss1 : List SV) (s1 : List (List Int)) (h1 : ReadsM Ei (hp w) s2 ss1 s1) :
    ∀ r, spec_l07Pieces.f s1 = some r → Calls Try.prog 66 #[SV.v s2] w (Ret w (spec_l07Pieces.R r)) := by

  refine calls_T (n := 40) (Γ := [(0, SV.v s2)]) (R := spec_l07Pieces.R) Try.func66 rfl rfl (Nat.le_of_ble_eq_true rfl) ⟨rfl, trivial⟩ ?_
  unfold spec_l07Pieces.f
  refine TC.seq ?_
  refine TC.region ?_
  refine TL.assign rfl rfl (v := SV.v ⟨none, 0, 0⟩) rfl ?_
  refine TL.done ?_
  refine TC.seq ?_
  refine TC.region ?_
  refine TL.move rfl rfl (v := SV.v s2) rfl ?_
  refine TL.lenM (RdM.old h1) Try.underlying22 rfl rfl rfl ?_
  refine TL.call (R := G.spec_l07Numbers.R) Try.call101 rfl rfl rfl (fun w hS => G.spec_l07Numbers.calls w (s1.length : Int)) ?_
  rintro r_1 _ _ ⟨s3, rfl, rfl⟩
  refine TL.assign rfl rfl (v := SV.v s3) rfl ?_
  refine TL.done ?_
  refine TC.seq ?_
  refine TC.seq ?_
  refine TC.region ?_
  refine TL.assign rfl rfl (v := .int .i64 0) rfl ?_
  refine TL.done ?_
  refine TC.loop1 (σ := (List Int) × Int) (γ := SV) (Γ' := (fun p q => match p, q with | (leaders1, i1), s4 => [(0, SV.v s2), (3, SV.v s4), (4, .int .i64 i1)])) (L' := (fun p q => match p, q with | (leaders1, i1), s4 => [row Ei 2 s4 leaders1])) (Γb := (fun p q => match p, q with | (leaders1, i1), s4 => [(0, SV.v s2), (3, SV.v s4), (4, .int .i64 i1)])) (Lb := (fun p q => match p, q with | (leaders1, i1), s4 => [row Ei 2 s4 leaders1])) ((r_1, 0)) (s3) ⟨rfl, rfl, rfl, trivial⟩ [0] rfl ?_ ?_
  · rintro ⟨leaders1, i1⟩ s4
    refine TC.seq ?_
    refine TC.seq ?_
    refine TC.region ?_
    refine TL.move rfl rfl (v := .int .i64 i1) rfl ?_
    refine TL.move rfl rfl (v := SV.v s2) rfl ?_
    refine TL.lenM (RdM.old h1) Try.underlying22 rfl rfl rfl ?_
    refine TL.bin .i64 i1 (s1.length : Int) rfl rfl rfl rfl (v := .bool (decide (i1 < (s1.length : Int)))) rfl ?_
    refine TL.done ?_
    refine TC.cond (b := (decide (i1 < (s1.length : Int)))) rfl (fun c1 => ?_) (fun c2 => ?_)
    · refine TC.skip ?_
      refine TC.seq ?_
      refine TC.block (NoEx.loop1 rfl) ?_
      refine TC.seq ?_
      refine TC.region ?_
      refine TL.assign rfl rfl (v := .int .i64 0) rfl ?_
      refine TL.done ?_
      refine TC.loop1 (σ := (List Int) × Int) (γ := SV) (Γ' := (fun p q => match p, q with | (leaders2, k_1), s5 => [(0, SV.v s2), (3, SV.v s5), (4, .int .i64 i1), (5, .int .i64 k_1)])) (L' := (fun p q => match p, q with | (leaders2, k_1), s5 => [row Ei 2 s5 leaders2])) (Γb := (fun p q => match p, q with | (leaders2, k_1), s5 => [(0, SV.v s2), (3, SV.v s5), (4, .int .i64 i1), (5, .int .i64 k_1)])) (Lb := (fun p q => match p, q with | (leaders2, k_1), s5 => [row Ei 2 s5 leaders2])) ((leaders1, 0)) (s4) ⟨rfl, rfl, rfl, rfl, trivial⟩ [0] rfl ?_ ?_
      · rintro ⟨leaders2, k_1⟩ s5
        refine TC.seq ?_
        refine TC.seq ?_
        refine TC.region ?_
        refine TL.move rfl rfl (v := .int .i64 k_1) rfl ?_
        refine TL.move rfl rfl (v := .int .i64 i1) rfl ?_
        refine TL.bin .i64 k_1 i1 rfl rfl rfl rfl (v := .bool (decide (k_1 < i1))) rfl ?_
        refine TL.done ?_
        refine TC.cond (b := (decide (k_1 < i1))) rfl (fun c3 => ?_) (fun c4 => ?_)
        · refine TC.skip ?_
          refine TC.seq ?_
          refine TC.block (NoEx.loop1 rfl) ?_
          refine TC.seq ?_
          refine TC.wk (Γ' := [(0, SV.v s2), (3, SV.v s5), (4, .int .i64 i1), (5, .int .i64 k_1), (17, .int .i64 k_1), (18, .int .i64 i1), (19, .bool (decide (k_1 < i1)))]) ⟨rfl, rfl, rfl, rfl, rfl, rfl, rfl, trivial⟩ ?_
          refine TC.chk fun h2 => ?_
          refine TC.chk fun h3 => ?_
          refine TC.bindE ?_
          rintro ⟨r_2, r_3⟩ hr1
          refine TC.drawG [(0, SV.v s2), (3, SV.v s5), (4, .int .i64 i1), (5, .int .i64 k_1), (17, .int .i64 k_1), (18, .int .i64 i1), (19, .bool (decide (k_1 < i1)))] [] ⟨rfl, rfl, rfl, rfl, rfl, rfl, rfl, trivial⟩ trivial (fun l_ g1 => [row Ei 2 s5 leaders2]) (fun g1 => [SV.v s2, .int .i64 i1, ep s2 i1.toNat, SV.v (gt ss1 i1), SV.v s2, .int .i64 k_1, ep s2 k_1.toNat, SV.v (gt ss1 k_1), .tuple #[.bool r_2, .bool r_3], .tuple #[.bool r_2, .bool r_3], .bool r_2, .bool r_3, .bool r_2, .bool r_3]) [[], [], [0, 1], [0, 1, 2], [], [], [4, 5], [4, 5, 6], [0, 1, 2, 3, 4, 5, 6, 7], [0, 1, 2, 3, 4, 5, 6, 7, 8], [0, 1, 2, 3, 4, 5, 6, 7, 8, 9], [0, 1, 2, 3, 4, 5, 6, 7, 8, 9], [0, 1, 2, 3, 4, 5, 6, 7, 8, 9, 10], [0, 1, 2, 3, 4, 5, 6, 7, 8, 9, 10, 11, 12]] [[some false, none, some false, some false, none, none, none, none, some false, some false, some false, some false, some false, some false], [none, some false, some false, some false, none, none, none, none, some false, some false, some false, some false, some false, some false], [some true, some true, some false, some false, none, none, none, none, some false, some false, some false, some false, some false, some false], [some true, some true, some true, some false, none, none, none, none, some false, some false, some false, some false, some false, some false], [none, none, none, none, some false, none, some false, some false, some false, some false, some false, some false, some false, some false], [none, none, none, none, none, some false, some false, some false, some false, some false, some false, some false, some false, some false], [none, none, none, none, some true, some true, some false, some false, some false, some false, some false, some false, some false, some false], [none, none, none, none, some true, some true, some true, some false, some false, some false, some false, some false, some false, some false], [some true, some true, some true, some true, some true, some true, some true, some true, some false, some false, some false, some false, some false, some false], [some true, some true, some true, some true, some true, some true, some true, some true, some true, some false, some false, some false, some false, some false], [some true, some true, some true, some true, some true, some true, some true, some true, some true, some true, some false, none, some false, some false], [some true, some true, some true, some true, some true, some true, some true, some true, some true, some true, none, some false, none, some false], [some true, some true, some true, some true, some true, some true, some true, some true, some true, some true, some true, none, some false, some false], [some true, some true, some true, some true, some true, some true, some true, some true, some true, some true, some true, some true, some true, some false]] (by kernel_rfl) (fun _ => rfl) rfl rfl rfl rfl rfl (fun _ _ => ⟨⟨⟨⟨⟨⟨⟨⟨⟨⟨⟨⟨⟨⟨trivial, rfl⟩, rfl⟩, rfl⟩, rfl⟩, rfl⟩, rfl⟩, rfl⟩, rfl⟩, rfl⟩, rfl⟩, rfl⟩, rfl⟩, rfl⟩, rfl⟩) 0 [0] (fun _ => rfl) ?_ ?_
          · refine ⟨rfl, ?_, rfl, ?_, rfl, ?_, rfl, ?_, rfl, ?_, rfl, ?_, rfl, ?_, rfl, ?_, rfl, ?_, rfl, ?_, rfl, ?_, rfl, ?_, rfl, ?_, rfl, ?_, trivial⟩
            · intro b1_ b4_ b5_ b6_ b7_ g1
              refine TL.move rfl rfl (v := SV.v s2) rfl ?_
              refine TL.done ?_
              exact TC.nrm () [] ⟨rfl, trivial⟩ [0] rfl
            · intro b0_ b4_ b5_ b6_ b7_ g1
              refine TL.move rfl rfl (v := .int .i64 i1) rfl ?_
              refine TL.done ?_
              exact TC.nrm () [] ⟨rfl, trivial⟩ [0] rfl
            · intro b4_ b5_ b6_ b7_ g1
              refine TL.asL [row Ei 2 s5 leaders2] rfl ?_
              refine TL.ixsM i1 i1.toNat (RdM.old h1) h2 Try.underlying22 Try.sizeOf53 rfl rfl rfl rfl (by omega) ?_
              refine TL.done ?_
              exact TC.nrm () [] ⟨rfl, trivial⟩ [0] rfl
            · intro b4_ b5_ b6_ b7_ g1
              refine TL.asL [row Ei 2 s5 leaders2] rfl ?_
              refine TL.loadM2 (RdM.old h1) Try.isAgg53 i1 h2 (by omega) rfl rfl rfl ?_
              refine TL.done ?_
              exact TC.nrm () [] ⟨rfl, trivial⟩ [0] rfl
            · intro b0_ b1_ b2_ b3_ b5_ g1
              refine TL.move rfl rfl (v := SV.v s2) rfl ?_
              refine TL.done ?_
              exact TC.nrm () [] ⟨rfl, trivial⟩ [0] rfl
            · intro b0_ b1_ b2_ b3_ b4_ g1
              refine TL.move rfl rfl (v := .int .i64 k_1) rfl ?_
              refine TL.done ?_
              exact TC.nrm () [] ⟨rfl, trivial⟩ [0] rfl
            · intro b0_ b1_ b2_ b3_ g1
              refine TL.asL [row Ei 2 s5 leaders2] rfl ?_
              refine TL.ixsM k_1 k_1.toNat (RdM.old h1) h3 Try.underlying22 Try.sizeOf53 rfl rfl rfl rfl (by omega) ?_
              refine TL.done ?_
              exact TC.nrm () [] ⟨rfl, trivial⟩ [0] rfl
            · intro b0_ b1_ b2_ b3_ g1
              refine TL.asL [row Ei 2 s5 leaders2] rfl ?_
              refine TL.loadM2 (RdM.old h1) Try.isAgg53 k_1 h3 (by omega) rfl rfl rfl ?_
              refine TL.done ?_
              exact TC.nrm () [] ⟨rfl, trivial⟩ [0] rfl
            · intro g1
              refine TL.asL [row Ei 2 s5 leaders2] rfl ?_
              refine TL.callH (R := G.spec_l07Touch.R) hr1 Try.call102 rfl rfl rfl (fun w hS => G.spec_l07Touch.calls w (gt ss1 i1) (gt s1 i1) (gt ss1 k_1) (gt s1 k_1) ((RdM.inn (RdM.old h1) h2) w hS) ((RdM.inn (RdM.old h1) h3) w hS)) ?_
              rintro _ _ ⟨rfl, rfl⟩
              refine TL.done ?_
              exact TC.nrm () [] ⟨rfl, trivial⟩ [0] rfl
            · intro g1
              refine TL.move rfl rfl (v := .tuple #[.bool r_2, .bool r_3]) rfl ?_
              refine TL.done ?_
              exact TC.nrm () [] ⟨rfl, trivial⟩ [0] rfl
            · intro b11_ g1
              refine TL.extract rfl rfl rfl (v := .bool r_2) rfl ?_
              refine TL.done ?_
              exact TC.nrm () [] ⟨rfl, trivial⟩ [0] rfl
            · intro b10_ b12_ g1
              refine TL.extract rfl rfl rfl (v := .bool r_3) rfl ?_
              refine TL.done ?_
              exact TC.nrm () [] ⟨rfl, trivial⟩ [0] rfl
            · intro b11_ g1
              refine TL.assign rfl rfl (v := .bool r_2) rfl ?_
              refine TL.done ?_
              exact TC.nrm () [] ⟨rfl, trivial⟩ [0] rfl
            · intro g1
              refine TL.assign rfl rfl (v := .bool r_3) rfl ?_
              refine TL.done ?_
              exact TC.nrm () [] ⟨rfl, trivial⟩ [0] rfl
          · intro g1
            refine TC.asL [row Ei 2 s5 leaders2] rfl ?_
            refine TC.seq ?_
            refine TC.region ?_
            refine TL.move rfl rfl (v := .bool r_2) rfl ?_
            refine TL.done ?_
            refine TC.join1 (σ := (List Int)) (γ := SV) (Γ' := (fun leaders3 s6 => [(0, SV.v s2), (3, SV.v s6), (4, .int .i64 i1), (5, .int .i64 k_1)])) (L' := (fun leaders3 s6 => [row Ei 2 s6 leaders3])) ?_ ?_
            · refine TC.cond (b := r_2) rfl (fun c5 => ?_) (fun c6 => ?_)
              · refine TC.region ?_
                refine TL.move rfl rfl (v := SV.v s5) rfl ?_
                refine TL.move rfl rfl (v := .int .i64 i1) rfl ?_
                refine TL.move rfl rfl (v := .int .i64 k_1) rfl ?_
                refine TL.call (R := G.spec_l07Join.R) Try.call103 rfl rfl rfl (fun w hS => G.spec_l07Join.calls w s5 leaders2 i1 k_1 ((Rd.row 0 rfl) w hS)) ?_
                rintro r_4 _ _ ⟨s7, rfl, rfl⟩
                refine TL.assign rfl rfl (v := SV.v s7) rfl ?_
                refine TL.done ?_
                exact TC.nrm (r_4) (s7) ⟨rfl, rfl, rfl, rfl, trivial⟩ [0] rfl
              · refine TC.skip ?_
                exact TC.nrm (leaders2) (s5) ⟨rfl, rfl, rfl, rfl, trivial⟩ [0] rfl
            · rintro leaders3 s6
              refine TC.region ?_
              refine TL.move rfl rfl (v := .int .i64 k_1) rfl ?_
              refine TL.bin .i64 k_1 1 rfl rfl rfl rfl (v := .int .i64 (w64 (k_1 + 1))) rfl ?_
              refine TL.assign rfl rfl (v := .int .i64 (w64 (k_1 + 1))) rfl ?_
              refine TL.done ?_
              exact TC.next1 ((leaders3, (w64 (k_1 + 1)))) (s6) ⟨rfl, rfl, rfl, rfl, trivial⟩ [0] rfl
        · exact TC.brk1 ((leaders2, k_1)) (s5) ⟨rfl, rfl, rfl, rfl, trivial⟩ [0] rfl
      · rintro ⟨leaders2, k_1⟩ s5
        refine TC.region ?_
        refine TL.move rfl rfl (v := .int .i64 i1) rfl ?_
        refine TL.bin .i64 i1 1 rfl rfl rfl rfl (v := .int .i64 (w64 (i1 + 1))) rfl ?_
        refine TL.assign rfl rfl (v := .int .i64 (w64 (i1 + 1))) rfl ?_
        refine TL.done ?_
        exact TC.next1 ((leaders2, (w64 (i1 + 1)))) (s5) ⟨rfl, rfl, rfl, trivial⟩ [0] rfl
    · exact TC.brk1 ((leaders1, i1)) (s4) ⟨rfl, rfl, rfl, trivial⟩ [0] rfl
  · rintro ⟨leaders1, i1⟩ s4
    refine TC.seq ?_
    refine TC.region ?_
    refine TL.move rfl rfl (v := SV.v s4) rfl ?_
    refine TL.assign rfl rfl (v := SV.v s4) rfl ?_
    refine TL.done ?_
    exact TC.retF (Fin.body (fin1 (.inr rfl) rfl (.tmp rfl) [0] rfl ⟨s4, rfl, rfl⟩))

end Go.Proofs.Ytnppkcemnjkboaa.G

/- spec.l07End, as a pure function. -/
set_option linter.unusedVariables false
namespace Go.Proofs.Ytnppkcemnjkboaa.G
open Go Go.Sx Go.Proofs

def spec_l07End.f (side1 : Int) (end_1 : Bool) : Option Int := ((bif (decide (side1 < 0)) then some ((w64 (0 - side1)), (!end_1)) else some (side1, end_1))).bind (fun p => match p with | (side2, end_2) => (bif end_2 then some (w64 ((w64 (2 * side2)) - 1)) else some (w64 ((w64 (2 * side2)) - 2))))

def spec_l07End.R (r : Int) (v : Value) (L : List Asn) : Prop := v = .int .i64 r ∧ L = []

set_option maxRecDepth 100000 in
set_option maxHeartbeats 4000000 in
theorem spec_l07End.calls (w : World) (side1 : Int) (end_1 : Bool) :
    ∀ r, spec_l07End.f side1 end_1 = some r → Calls Try.prog 107 #[.int .i64 side1, .bool end_1] w (Ret w (spec_l07End.R r)) := by

  refine calls_T (n := 18) (Γ := [(0, .int .i64 side1), (1, .bool end_1)]) (R := spec_l07End.R) Try.func107 rfl rfl (Nat.le_of_ble_eq_true rfl) ⟨rfl, rfl, trivial⟩ ?_
  unfold spec_l07End.f
  refine TC.seq ?_
  refine TC.region ?_
  refine TL.assign rfl rfl (v := .int .i64 0) rfl ?_
  refine TL.done ?_
  refine TC.seq ?_
  refine TC.seq ?_
  refine TC.region ?_
  refine TL.move rfl rfl (v := .int .i64 side1) rfl ?_
  refine TL.bin .i64 side1 0 rfl rfl rfl rfl (v := .bool (decide (side1 < 0))) rfl ?_
  refine TL.done ?_
  refine TC.join1 (σ := Int × Bool) (γ := Unit) (Γ' := (fun p q => match p, q with | (side2, end_2), _ => [(0, .int .i64 side2), (1, .bool end_2)])) (L' := (fun p q => match p, q with | (side2, end_2), _ => [])) ?_ ?_
  · refine TC.cond (b := (decide (side1 < 0))) rfl (fun c1 => ?_) (fun c2 => ?_)
    · refine TC.seq ?_
      refine TC.region ?_
      refine TL.move rfl rfl (v := .int .i64 side1) rfl ?_
      refine TL.neg .i64 side1 rfl rfl rfl ?_
      refine TL.assign rfl rfl (v := .int .i64 (w64 (0 - side1))) rfl ?_
      refine TL.done ?_
      refine TC.region ?_
      refine TL.move rfl rfl (v := .bool end_1) rfl ?_
      refine TL.not end_1 rfl rfl rfl ?_
      refine TL.assign rfl rfl (v := .bool (!end_1)) rfl ?_
      refine TL.done ?_
      exact TC.nrm (((w64 (0 - side1)), (!end_1))) (()) ⟨rfl, rfl, trivial⟩ [] rfl
    · refine TC.skip ?_
      exact TC.nrm ((side1, end_1)) (()) ⟨rfl, rfl, trivial⟩ [] rfl
  · rintro ⟨side2, end_2⟩ _
    refine TC.seq ?_
    refine TC.seq ?_
    refine TC.region ?_
    refine TL.move rfl rfl (v := .bool end_2) rfl ?_
    refine TL.done ?_
    refine TC.cond (b := end_2) rfl (fun c3 => ?_) (fun c4 => ?_)
    · refine TC.seq ?_
      refine TC.region ?_
      refine TL.move rfl rfl (v := .int .i64 side2) rfl ?_
      refine TL.bin .i64 2 side2 rfl rfl rfl rfl (v := .int .i64 (w64 (2 * side2))) rfl ?_
      refine TL.bin .i64 (w64 (2 * side2)) 1 rfl rfl rfl rfl (v := .int .i64 (w64 ((w64 (2 * side2)) - 1))) rfl ?_
      refine TL.assign rfl rfl (v := .int .i64 (w64 ((w64 (2 * side2)) - 1))) rfl ?_
      refine TL.done ?_
      exact TC.retF (Fin.body (fin1 (.inr rfl) rfl (.tmp rfl) [] rfl ⟨rfl, rfl⟩))
    · refine TC.skip ?_
      refine TC.seq ?_
      refine TC.region ?_
      refine TL.move rfl rfl (v := .int .i64 side2) rfl ?_
      refine TL.bin .i64 2 side2 rfl rfl rfl rfl (v := .int .i64 (w64 (2 * side2))) rfl ?_
      refine TL.bin .i64 (w64 (2 * side2)) 2 rfl rfl rfl rfl (v := .int .i64 (w64 ((w64 (2 * side2)) - 2))) rfl ?_
      refine TL.assign rfl rfl (v := .int .i64 (w64 ((w64 (2 * side2)) - 2))) rfl ?_
      refine TL.done ?_
      exact TC.retF (Fin.body (fin1 (.inr rfl) rfl (.tmp rfl) [] rfl ⟨rfl, rfl⟩))

end Go.Proofs.Ytnppkcemnjkboaa.G

/- spec.l07Vertices, as a pure function. -/
set_option linter.unusedVariables false
namespace Go.Proofs.Ytnppkcemnjkboaa.G
open Go Go.Sx Go.Proofs

def spec_l07Vertices.b0 (i1 : Int) (s1 : List (List Int)) : (List Int) × Int → Option (LB ((List Int) × Int)) := fun p => match p with | (leaders2, k_1) => (bif (decide (k_1 < 3)) then chk i1 s1.length (chk k_1 ((gt s1 i1).length) ((G.spec_l07End.f (gt (gt s1 i1) k_1) true).bind (fun r_2 => chk (Int.tmod (w64 (k_1 + 1)) 3) ((gt s1 i1).length) ((G.spec_l07End.f (gt (gt s1 i1) (Int.tmod (w64 (k_1 + 1)) 3)) false).bind (fun r_3 => (G.spec_l07Join.f leaders2 r_2 r_3).bind (fun r_4 => some (.next (r_4, (w64 (k_1 + 1)))))))))) else some (.brk (leaders2, k_1)))

def spec_l07Vertices.b1 (s1 : List (List Int)) : (List Int) × Int → Option (LB ((List Int) × Int)) := fun p => match p with | (leaders1, i1) => (bif (decide (i1 < (s1.length : Int))) then (loop1 (spec_l07Vertices.b0 i1 s1) (leaders1, 0)).bind (fun p => match p with | (leaders2, k_1) => some (.next (leaders2, (w64 (i1 + 1))))) else some (.brk (leaders1, i1)))

def spec_l07Vertices.f (s1 : List (List Int)) : Option Int := (G.spec_l07Numbers.f (w64 ((s1.length : Int) * 3))).bind (fun r_1 => (loop1 (spec_l07Vertices.b1 s1) (r_1, 0)).bind (fun p => match p with | (leaders1, i1) => (G.spec_l07Different.f leaders1).bind (fun r_5 => some r_5)))

def spec_l07Vertices.R (r : Int) (v : Value) (L : List Asn) : Prop := v = .int .i64 r ∧ L = []

set_option maxRecDepth 100000 in
set_option maxHeartbeats 4000000 in
theorem spec_l07Vertices.calls (w : World) (s2 : SV) (ss1 : List SV) (s1 : List (List Int)) (h1 : ReadsM Ei (hp w) s2 ss1 s1) :
    ∀ r, spec_l07Vertices.f s1 = some r → Calls Try.prog 69 #[SV.v s2] w (Ret w (spec_l07Vertices.R r)) := by

  refine calls_T (n := 42) (Γ := [(0, SV.v s2)]) (R := spec_l07Vertices.R) Try.func69 rfl rfl (Nat.le_of_ble_eq_true rfl) ⟨rfl, trivial⟩ ?_
  unfold spec_l07Vertices.f
  refine TC.seq ?_
  refine TC.region ?_
  refine TL.assign rfl rfl (v := .int .i64 0) rfl ?_
  refine TL.done ?_
  refine TC.seq ?_
  refine TC.region ?_
  refine TL.move rfl rfl (v := SV.v s2) rfl ?_
  refine TL.lenM (RdM.old h1) Try.underlying22 rfl rfl rfl ?_
  refine TL.bin .i64 (s1.length : Int) 3 rfl rfl rfl rfl (v := .int .i64 (w64 ((s1.length : Int) * 3))) rfl ?_
  refine TL.call (R := G.spec_l07Numbers.R) Try.call101 rfl rfl rfl (fun w hS => G.spec_l07Numbers.calls w (w64 ((s1.length : Int) * 3))) ?_
  rintro r_1 _ _ ⟨s3, rfl, rfl⟩
  refine TL.assign rfl rfl (v := SV.v s3) rfl ?_
  refine TL.done ?_
  refine TC.seq ?_
  refine TC.seq ?_
  refine TC.region ?_
  refine TL.assign rfl rfl (v := .int .i64 0) rfl ?_
  refine TL.done ?_
  refine TC.loop1 (σ := (List Int) × Int) (γ := SV) (Γ' := (fun p q => match p, q with | (leaders1, i1), s4 => [(0, SV.v s2), (3, SV.v s4), (4, .int .i64 i1)])) (L' := (fun p q => match p, q with | (leaders1, i1), s4 => [row Ei 2 s4 leaders1])) (Γb := (fun p q => match p, q with | (leaders1, i1), s4 => [(0, SV.v s2), (3, SV.v s4), (4, .int .i64 i1)])) (Lb := (fun p q => match p, q with | (leaders1, i1), s4 => [row Ei 2 s4 leaders1])) ((r_1, 0)) (s3) ⟨rfl, rfl, rfl, trivial⟩ [0] rfl ?_ ?_
  · rintro ⟨leaders1, i1⟩ s4
    refine TC.seq ?_
    refine TC.seq ?_
    refine TC.region ?_
    refine TL.move rfl rfl (v := .int .i64 i1) rfl ?_
    refine TL.move rfl rfl (v := SV.v s2) rfl ?_
    refine TL.lenM (RdM.old h1) Try.underlying22 rfl rfl rfl ?_
    refine TL.bin .i64 i1 (s1.length : Int) rfl rfl rfl rfl (v := .bool (decide (i1 < (s1.length : Int)))) rfl ?_
    refine TL.done ?_
    refine TC.cond (b := (decide (i1 < (s1.length : Int)))) rfl (fun c1 => ?_) (fun c2 => ?_)
    · refine TC.skip ?_
      refine TC.seq ?_
      refine TC.block (NoEx.loop1 rfl) ?_
      refine TC.seq ?_
      refine TC.region ?_
      refine TL.assign rfl rfl (v := .int .i64 0) rfl ?_
      refine TL.done ?_
      refine TC.loop1 (σ := (List Int) × Int) (γ := SV) (Γ' := (fun p q => match p, q with | (leaders2, k_1), s5 => [(0, SV.v s2), (3, SV.v s5), (4, .int .i64 i1), (5, .int .i64 k_1)])) (L' := (fun p q => match p, q with | (leaders2, k_1), s5 => [row Ei 2 s5 leaders2])) (Γb := (fun p q => match p, q with | (leaders2, k_1), s5 => [(0, SV.v s2), (3, SV.v s5), (4, .int .i64 i1), (5, .int .i64 k_1)])) (Lb := (fun p q => match p, q with | (leaders2, k_1), s5 => [row Ei 2 s5 leaders2])) ((leaders1, 0)) (s4) ⟨rfl, rfl, rfl, rfl, trivial⟩ [0] rfl ?_ ?_
      · rintro ⟨leaders2, k_1⟩ s5
        refine TC.seq ?_
        refine TC.seq ?_
        refine TC.region ?_
        refine TL.move rfl rfl (v := .int .i64 k_1) rfl ?_
        refine TL.bin .i64 k_1 3 rfl rfl rfl rfl (v := .bool (decide (k_1 < 3))) rfl ?_
        refine TL.done ?_
        refine TC.cond (b := (decide (k_1 < 3))) rfl (fun c3 => ?_) (fun c4 => ?_)
        · refine TC.skip ?_
          refine TC.seq ?_
          refine TC.block (NoEx.loop1 rfl) ?_
          refine TC.wk (Γ' := [(0, SV.v s2), (4, .int .i64 i1), (5, .int .i64 k_1), (16, .int .i64 k_1), (17, .bool (decide (k_1 < 3))), (3, SV.v s5)]) ⟨rfl, rfl, rfl, rfl, rfl, rfl, trivial⟩ ?_
          refine TC.chk fun h2 => ?_
          refine TC.chk fun h3 => ?_
          refine TC.bindE ?_
          rintro r_2 hr1
          refine TC.chk fun h4 => ?_
          refine TC.bindE ?_
          rintro r_3 hr2
          refine TC.bindE ?_
          rintro r_4 hr3
          refine TC.drawG [(0, SV.v s2), (4, .int .i64 i1), (5, .int .i64 k_1), (16, .int .i64 k_1), (17, .bool (decide (k_1 < 3)))] [(3, SV.v s5, 20)] ⟨rfl, rfl, rfl, rfl, rfl, trivial⟩ ⟨rfl, trivial⟩ (fun l_ g1 => [row Ei 2 s5 leaders2, (bif nb l_ 19 then row Ei 2 (gs (g1 152)) r_4 else emp)]) (fun g1 => [SV.v s5, SV.v s2, .int .i64 i1, ep s2 i1.toNat, SV.v (gt ss1 i1), .int .i64 k_1, ep (gt ss1 i1) k_1.toNat, .int .i64 (gt (gt s1 i1) k_1), .int .i64 r_2, SV.v s2, .int .i64 i1, ep s2 i1.toNat, SV.v (gt ss1 i1), .int .i64 k_1, .int .i64 (w64 (k_1 + 1)), .int .i64 (Int.tmod (w64 (k_1 + 1)) 3), ep (gt ss1 i1) ((Int.tmod (w64 (k_1 + 1)) 3).toNat), .int .i64 (gt (gt s1 i1) (Int.tmod (w64 (k_1 + 1)) 3)), .int .i64 r_3, SV.v (gs (g1 152)), SV.v (gs (g1 152))]) [[], [], [], [1, 2], [1, 2, 3], [], [1, 2, 3, 4, 5], [1, 2, 3, 4, 5, 6], [1, 2, 3, 4, 5, 6, 7], [], [], [9, 10], [9, 10, 11], [], [13], [13, 14], [9, 10, 11, 12, 13, 14, 15], [9, 10, 11, 12, 13, 14, 15, 16], [1, 2, 3, 4, 5, 6, 7, 8, 9, 10, 11, 12, 13, 14, 15, 16, 17], [0, 1, 2, 3, 4, 5, 6, 7, 8, 9, 10, 11, 12, 13, 14, 15, 16, 17, 18], [0, 1, 2, 3, 4, 5, 6, 7, 8, 9, 10, 11, 12, 13, 14, 15, 16, 17, 18, 19]] [[some false, none, none, none, none, none, none, none, none, none, none, none, none, none, none, none, none, none, none, some false, some false], [none, some false, none, some false, some false, none, some false, some false, some false, none, none, none, none, none, none, none, none, none, some false, some false, some false], [none, none, some false, some false, some false, none, some false, some false, some false, none, none, none, none, none, none, none, none, none, some false, some false, some false], [none, some true, some true, some false, some false, none, some false, some false, some false, none, none, none, none, none, none, none, none, none, some false, some false, some false], [none, some true, some true, some true, some false, none, some false, some false, some false, none, none, none, none, none, none, none, none, none, some false, some false, some false], [none, none, none, none, none, some false, some false, some false, some false, none, none, none, none, none, none, none, none, none, some false, some false, some false], [none, some true, some true, some true, some true, some true, some false, some false, some false, none, none, none, none, none, none, none, none, none, some false, some false, some false], [none, some true, some true, some true, some true, some true, some true, some false, some false, none, none, none, none, none, none, none, none, none, some false, some false, some false], [none, some true, some true, some true, some true, some true, some true, some true, some false, none, none, none, none, none, none, none, none, none, some false, some false, some false], [none, none, none, none, none, none, none, none, none, some false, none, some false, some false, none, none, none, some false, some false, some false, some false, some false], [none, none, none, none, none, none, none, none, none, none, some false, some false, some false, none, none, none, some false, some false, some false, some false, some false], [none, none, none, none, none, none, none, none, none, some true, some true, some false, some false, none, none, none, some false, some false, some false, some false, some false], [none, none, none, none, none, none, none, none, none, some true, some true, some true, some false, none, none, none, some false, some false, some false, some false, some false], [none, none, none, none, none, none, none, none, none, none, none, none, none, some false, some false, some false, some false, some false, some false, some false, some false], [none, none, none, none, none, none, none, none, none, none, none, none, none, some true, some false, some false, some false, some false, some false, some false, some false], [none, none, none, none, none, none, none, none, none, none, none, none, none, some true, some true, some false, some false, some false, some false, some false, some false], [none, none, none, none, none, none, none, none, none, some true, some true, some true, some true, some true, some true, some true, some false, some false, some false, some false, some false], [none, none, none, none, none, none, none, none, none, some true, some true, some true, some true, some true, some true, some true, some true, some false, some false, some false, some false], [none, some true, some true, some true, some true, some true, some true, some true, some true, some true, some true, some true, some true, some true, some true, some true, some true, some true, some false, some false, some false], [some true, some true, some true, some true, some true, some true, some true, some true, some true, some true, some true, some true, some true, some true, some true, some true, some true, some true, some true, some false, some false], [some true, some true, some true, some true, some true, some true, some true, some true, some true, some true, some true, some true, some true, some true, some true, some true, some true, some true, some true, some true, some false]] (by kernel_rfl) (fun _ => rfl) rfl rfl rfl rfl rfl (fun _ _ => ⟨⟨⟨⟨⟨⟨⟨⟨⟨⟨⟨⟨⟨⟨⟨⟨⟨⟨⟨⟨⟨trivial, rfl⟩, rfl⟩, rfl⟩, rfl⟩, rfl⟩, rfl⟩, rfl⟩, rfl⟩, rfl⟩, rfl⟩, rfl⟩, rfl⟩, rfl⟩, rfl⟩, rfl⟩, rfl⟩, rfl⟩, rfl⟩, rfl⟩, rfl⟩, rfl⟩) 1 [1, 0] (fun _ => rfl) ?_ ?_
          · refine ⟨rfl, ?_, rfl, ?_, rfl, ?_, rfl, ?_, rfl, ?_, rfl, ?_, rfl, ?_, rfl, ?_, rfl, ?_, rfl, ?_, rfl, ?_, rfl, ?_, rfl, ?_, rfl, ?_, rfl, ?_, rfl, ?_, rfl, ?_, rfl, ?_, rfl, ?_, rfl, ?_, rfl, ?_, trivial⟩
            · intro b1_ b2_ b3_ b4_ b5_ b6_ b7_ b8_ b9_ b10_ b11_ b12_ b13_ b14_ b15_ b16_ b17_ b18_ g1
              refine TL.move rfl rfl (v := SV.v s5) rfl ?_
              refine TL.done ?_
              exact TC.nrm () [] ⟨rfl, trivial⟩ [0, 0] rfl
            · intro b0_ b2_ b5_ b9_ b10_ b11_ b12_ b13_ b14_ b15_ b16_ b17_ g1
              refine TL.move rfl rfl (v := SV.v s2) rfl ?_
              refine TL.done ?_
              exact TC.nrm () [] ⟨rfl, trivial⟩ [0, 0] rfl
            · intro b0_ b1_ b5_ b9_ b10_ b11_ b12_ b13_ b14_ b15_ b16_ b17_ g1
              refine TL.move rfl rfl (v := .int .i64 i1) rfl ?_
              refine TL.done ?_
              exact TC.nrm () [] ⟨rfl, trivial⟩ [0, 0] rfl
            · intro b0_ b5_ b9_ b10_ b11_ b12_ b13_ b14_ b15_ b16_ b17_ g1
              refine TL.asL [row Ei 2 s5 leaders2, emp] rfl ?_
              refine TL.ixsM i1 i1.toNat (RdM.old h1) h2 Try.underlying22 Try.sizeOf53 rfl rfl rfl rfl (by omega) ?_
              refine TL.done ?_
              exact TC.nrm () [] ⟨rfl, trivial⟩ [0, 0] rfl
            · intro b0_ b5_ b9_ b10_ b11_ b12_ b13_ b14_ b15_ b16_ b17_ g1
              refine TL.asL [row Ei 2 s5 leaders2, emp] rfl ?_
              refine TL.loadM2 (RdM.old h1) Try.isAgg53 i1 h2 (by omega) rfl rfl rfl ?_
              refine TL.done ?_
              exact TC.nrm () [] ⟨rfl, trivial⟩ [0, 0] rfl
            · intro b0_ b1_ b2_ b3_ b4_ b9_ b10_ b11_ b12_ b13_ b14_ b15_ b16_ b17_ g1
              refine TL.move rfl rfl (v := .int .i64 k_1) rfl ?_
              refine TL.done ?_
              exact TC.nrm () [] ⟨rfl, trivial⟩ [0, 0] rfl
            · intro b0_ b9_ b10_ b11_ b12_ b13_ b14_ b15_ b16_ b17_ g1
              refine TL.asL [row Ei 2 s5 leaders2, emp] rfl ?_
              refine TL.ixs k_1 k_1.toNat (RdM.inn (RdM.old h1) h2) h3 Try.underlying53 Try.sizeOf2 rfl rfl rfl rfl (by omega) ?_
              refine TL.done ?_
              exact TC.nrm () [] ⟨rfl, trivial⟩ [0, 0] rfl
            · intro b0_ b9_ b10_ b11_ b12_ b13_ b14_ b15_ b16_ b17_ g1
              refine TL.asL [row Ei 2 s5 leaders2, emp] rfl ?_
              refine TL.loadE (RdM.inn (RdM.old h1) h2) Try.isAgg2 k_1.toNat 0 (gt_spec h3) (v := .int .i64 (gt (gt s1 i1) k_1)) rfl (by simp only [show Ei.sz = 1 from rfl]; omega) rfl rfl rfl ?_
              refine TL.done ?_
              exact TC.nrm () [] ⟨rfl, trivial⟩ [0, 0] rfl
            · intro b0_ b9_ b10_ b11_ b12_ b13_ b14_ b15_ b16_ b17_ g1
              refine TL.asL [row Ei 2 s5 leaders2, emp] rfl ?_
              refine TL.callH (R := G.spec_l07End.R) hr1 Try.call107 rfl rfl rfl (fun w hS => G.spec_l07End.calls w (gt (gt s1 i1) k_1) true) ?_
              rintro _ _ ⟨rfl, rfl⟩
              refine TL.done ?_
              exact TC.nrm () [] ⟨rfl, trivial⟩ [0, 0] rfl
            · intro b0_ b1_ b2_ b3_ b4_ b5_ b6_ b7_ b8_ b10_ b13_ b14_ b15_ g1
              refine TL.move rfl rfl (v := SV.v s2) rfl ?_
              refine TL.done ?_
              exact TC.nrm () [] ⟨rfl, trivial⟩ [0, 0] rfl
            · intro b0_ b1_ b2_ b3_ b4_ b5_ b6_ b7_ b8_ b9_ b13_ b14_ b15_ g1
              refine TL.move rfl rfl (v := .int .i64 i1) rfl ?_
              refine TL.done ?_
              exact TC.nrm () [] ⟨rfl, trivial⟩ [0, 0] rfl
            · intro b0_ b1_ b2_ b3_ b4_ b5_ b6_ b7_ b8_ b13_ b14_ b15_ g1
              refine TL.asL [row Ei 2 s5 leaders2, emp] rfl ?_
              refine TL.ixsM i1 i1.toNat (RdM.old h1) h2 Try.underlying22 Try.sizeOf53 rfl rfl rfl rfl (by omega) ?_
              refine TL.done ?_
              exact TC.nrm () [] ⟨rfl, trivial⟩ [0, 0] rfl
            · intro b0_ b1_ b2_ b3_ b4_ b5_ b6_ b7_ b8_ b13_ b14_ b15_ g1
              refine TL.asL [row Ei 2 s5 leaders2, emp] rfl ?_
              refine TL.loadM2 (RdM.old h1) Try.isAgg53 i1 h2 (by omega) rfl rfl rfl ?_
              refine TL.done ?_
              exact TC.nrm () [] ⟨rfl, trivial⟩ [0, 0] rfl
            · intro b0_ b1_ b2_ b3_ b4_ b5_ b6_ b7_ b8_ b9_ b10_ b11_ b12_ g1
              refine TL.move rfl rfl (v := .int .i64 k_1) rfl ?_
              refine TL.done ?_
              exact TC.nrm () [] ⟨rfl, trivial⟩ [0, 0] rfl
            · intro b0_ b1_ b2_ b3_ b4_ b5_ b6_ b7_ b8_ b9_ b10_ b11_ b12_ g1
              refine TL.bin .i64 k_1 1 rfl rfl rfl rfl (v := .int .i64 (w64 (k_1 + 1))) rfl ?_
              refine TL.done ?_
              exact TC.nrm () [] ⟨rfl, trivial⟩ [0, 0] rfl
            · intro b0_ b1_ b2_ b3_ b4_ b5_ b6_ b7_ b8_ b9_ b10_ b11_ b12_ g1
              refine TL.rem .i64 (w64 (k_1 + 1)) 3 (by decide) rfl rfl rfl rfl ?_
              refine TL.done ?_
              exact TC.nrm () [] ⟨rfl, trivial⟩ [0, 0] rfl
            · intro b0_ b1_ b2_ b3_ b4_ b5_ b6_ b7_ b8_ g1
              refine TL.asL [row Ei 2 s5 leaders2, emp] rfl ?_
              refine TL.ixs (Int.tmod (w64 (k_1 + 1)) 3) ((Int.tmod (w64 (k_1 + 1)) 3).toNat) (RdM.inn (RdM.old h1) h2) h4 Try.underlying53 Try.sizeOf2 rfl rfl rfl rfl (by omega) ?_
              refine TL.done ?_
              exact TC.nrm () [] ⟨rfl, trivial⟩ [0, 0] rfl
            · intro b0_ b1_ b2_ b3_ b4_ b5_ b6_ b7_ b8_ g1
              refine TL.asL [row Ei 2 s5 leaders2, emp] rfl ?_
              refine TL.loadE (RdM.inn (RdM.old h1) h2) Try.isAgg2 (Int.tmod (w64 (k_1 + 1)) 3).toNat 0 (gt_spec h4) (v := .int .i64 (gt (gt s1 i1) (Int.tmod (w64 (k_1 + 1)) 3))) rfl (by simp only [show Ei.sz = 1 from rfl]; omega) rfl rfl rfl ?_
              refine TL.done ?_
              exact TC.nrm () [] ⟨rfl, trivial⟩ [0, 0] rfl
            · intro b0_ g1
              refine TL.asL [row Ei 2 s5 leaders2, emp] rfl ?_
              refine TL.callH (R := G.spec_l07End.R) hr2 Try.call107 rfl rfl rfl (fun w hS => G.spec_l07End.calls w (gt (gt s1 i1) (Int.tmod (w64 (k_1 + 1)) 3)) false) ?_
              rintro _ _ ⟨rfl, rfl⟩
              refine TL.done ?_
              exact TC.nrm () [] ⟨rfl, trivial⟩ [0, 0] rfl
            · intro g1
              refine TL.asL [row Ei 2 s5 leaders2, emp] rfl ?_
              refine TL.callH (R := G.spec_l07Join.R) hr3 Try.call103 rfl rfl rfl (fun w hS => G.spec_l07Join.calls w s5 leaders2 r_2 r_3 ((Rd.row 0 rfl) w hS)) ?_
              rintro _ _ ⟨s6, rfl, rfl⟩
              refine TL.done ?_
              exact TC.nrm () [[s6]] ⟨rfl, trivial⟩ [1, 0] rfl
            · intro g1
              refine TL.assign rfl rfl (v := SV.v (gs (g1 152))) rfl ?_
              refine TL.done ?_
              exact TC.nrm () [] ⟨rfl, trivial⟩ [0, 0] rfl
          · intro g1
            refine TC.asL [row Ei 2 s5 leaders2, row Ei 2 (gs (g1 152)) r_4] rfl ?_
            refine TC.region ?_
            refine TL.move rfl rfl (v := .int .i64 k_1) rfl ?_
            refine TL.bin .i64 k_1 1 rfl rfl rfl rfl (v := .int .i64 (w64 (k_1 + 1))) rfl ?_
            refine TL.assign rfl rfl (v := .int .i64 (w64 (k_1 + 1))) rfl ?_
            refine TL.done ?_
            exact TC.next1 ((r_4, (w64 (k_1 + 1)))) ((gs (g1 152))) ⟨rfl, rfl, rfl, rfl, trivial⟩ [1] rfl
        · exact TC.brk1 ((leaders2, k_1)) (s5) ⟨rfl, rfl, rfl, rfl, trivial⟩ [0] rfl
      · rintro ⟨leaders2, k_1⟩ s5
        refine TC.region ?_
        refine TL.move rfl rfl (v := .int .i64 i1) rfl ?_
        refine TL.bin .i64 i1 1 rfl rfl rfl rfl (v := .int .i64 (w64 (i1 + 1))) rfl ?_
        refine TL.assign rfl rfl (v := .int .i64 (w64 (i1 + 1))) rfl ?_
        refine TL.done ?_
        exact TC.next1 ((leaders2, (w64 (i1 + 1)))) (s5) ⟨rfl, rfl, rfl, trivial⟩ [0] rfl
    · exact TC.brk1 ((leaders1, i1)) (s4) ⟨rfl, rfl, rfl, trivial⟩ [0] rfl
  · rintro ⟨leaders1, i1⟩ s4
    refine TC.seq ?_
    refine TC.region ?_
    refine TL.move rfl rfl (v := SV.v s4) rfl ?_
    refine TL.call (R := G.spec_l07Different.R) Try.call65 rfl rfl rfl (fun w hS => G.spec_l07Different.calls w s4 leaders1 ((Rd.row 0 rfl) w hS)) ?_
    rintro r_5 _ _ ⟨rfl, rfl⟩
    refine TL.assign rfl rfl (v := .int .i64 r_5) rfl ?_
    refine TL.done ?_
    exact TC.retF (Fin.body (fin1 (.inr rfl) rfl (.tmp rfl) [] rfl ⟨rfl, rfl⟩))

end Go.Proofs.Ytnppkcemnjkboaa.G

/- spec.l07Euler, as a pure function. -/
set_option linter.unusedVariables false
namespace Go.Proofs.Ytnppkcemnjkboaa.G
open Go Go.Sx Go.Proofs

def spec_l07Euler.f (s1 : List (List Int)) : Option Int := (G.spec_l07Vertices.f s1).bind (fun r_1 => some (w64 (r_1 - (w64 (Int.tdiv (s1.length : Int) 2)))))

def spec_l07Euler.R (r : Int) (v : Value) (L : List Asn) : Prop := v = .int .i64 r ∧ L = []

set_option maxRecDepth 100000 in
set_option maxHeartbeats 4000000 in
theorem spec_l07Euler.calls (w : World) (s2 : SV) (ss1 : List SV) (s1 : List (List Int)) (h1 : ReadsM Ei (hp w) s2 ss1 s1) :
    ∀ r, spec_l07Euler.f s1 = some r → Calls Try.prog 71 #[SV.v s2] w (Ret w (spec_l07Euler.R r)) := by

  refine calls_T (n := 9) (Γ := [(0, SV.v s2)]) (R := spec_l07Euler.R) Try.func71 rfl rfl (Nat.le_of_ble_eq_true rfl) ⟨rfl, trivial⟩ ?_
  unfold spec_l07Euler.f
  refine TC.seq ?_
  refine TC.region ?_
  refine TL.assign rfl rfl (v := .int .i64 0) rfl ?_
  refine TL.done ?_
  refine TC.seq ?_
  refine TC.region ?_
  refine TL.move rfl rfl (v := SV.v s2) rfl ?_
  refine TL.call (R := G.spec_l07Vertices.R) Try.call69 rfl rfl rfl (fun w hS => G.spec_l07Vertices.calls w s2 ss1 s1 ((RdM.old h1) w hS)) ?_
  rintro r_1 _ _ ⟨rfl, rfl⟩
  refine TL.move rfl rfl (v := SV.v s2) rfl ?_
  refine TL.lenM (RdM.old h1) Try.underlying22 rfl rfl rfl ?_
  refine TL.quo .i64 (s1.length : Int) 2 (by decide) rfl rfl rfl rfl ?_
  refine TL.bin .i64 r_1 (w64 (Int.tdiv (s1.length : Int) 2)) rfl rfl rfl rfl (v := .int .i64 (w64 (r_1 - (w64 (Int.tdiv (s1.length : Int) 2))))) rfl ?_
  refine TL.assign rfl rfl (v := .int .i64 (w64 (r_1 - (w64 (Int.tdiv (s1.length : Int) 2))))) rfl ?_
  refine TL.done ?_
  exact TC.retF (Fin.body (fin1 (.inr rfl) rfl (.tmp rfl) [] rfl ⟨rfl, rfl⟩))

end Go.Proofs.Ytnppkcemnjkboaa.G

/- spec.GenusOf, as a pure function. -/
set_option linter.unusedVariables false
namespace Go.Proofs.Ytnppkcemnjkboaa.G
open Go Go.Sx Go.Proofs

def spec_GenusOf.f (s1 : List (List Int)) : Option (Int × Int) := (G.spec_l07Is.f s1).bind (fun r_1 => (bif (!r_1) then some (0, 1) else (G.spec_l07Oriented.f s1).bind (fun r_2 => (bif (!r_2) then some true else (G.spec_l07Pieces.f s1).bind (fun r_3 => (G.spec_l07Different.f r_3).bind (fun r_4 => some (decide (r_4 > 1))))).bind (fun b_1 => (bif b_1 then some (0, 5) else (G.spec_l07Euler.f s1).bind (fun r_5 => some ((w64 (1 - (w64 (Int.tdiv r_5 2)))), 0)))))))

def spec_GenusOf.R (r : Int × Int) (v : Value) (L : List Asn) : Prop := v = .tuple #[.int .i64 r.1, .int .i64 r.2] ∧ L = []

set_option maxRecDepth 100000 in
set_option maxHeartbeats 4000000 in
theorem spec_GenusOf.calls (w : World) (s2 : SV) (ss1 : List SV) (s1 : List (List Int)) (h1 : ReadsM Ei (hp w) s2 ss1 s1) :
    ∀ r, spec_GenusOf.f s1 = some r → Calls Try.prog 32 #[SV.v s2] w (Ret w (spec_GenusOf.R r)) := by

  refine calls_T (n := 22) (Γ := [(0, SV.v s2)]) (R := spec_GenusOf.R) Try.func32 rfl rfl (Nat.le_of_ble_eq_true rfl) ⟨rfl, trivial⟩ ?_
  unfold spec_GenusOf.f
  refine TC.seq ?_
  refine TC.region ?_
  refine TL.assign rfl rfl (v := .int .i64 0) rfl ?_
  refine TL.assign rfl rfl (v := .int .i64 0) rfl ?_
  refine TL.done ?_
  refine TC.seq ?_
  refine TC.block NoEx.body ?_
  refine TC.seq ?_
  refine TC.region ?_
  refine TL.move rfl rfl (v := SV.v s2) rfl ?_
  refine TL.call (R := G.spec_l07Is.R) Try.call53 rfl rfl rfl (fun w hS => G.spec_l07Is.calls w s2 ss1 s1 ((RdM.old h1) w hS)) ?_
  rintro r_1 _ _ ⟨rfl, rfl⟩
  refine TL.not r_1 rfl rfl rfl ?_
  refine TL.assign rfl rfl (v := .bool (!r_1)) rfl ?_
  refine TL.done ?_
  refine TC.cond (b := (!r_1)) rfl (fun c1 => ?_) (fun c2 => ?_)
  · refine TC.seq ?_
    refine TC.region ?_
    refine TL.assign rfl rfl (v := .int .i64 0) rfl ?_
    refine TL.assign rfl rfl (v := .int .i64 1) rfl ?_
    refine TL.done ?_
    exact TC.retF (Fin.body (fin2 (.inr rfl) rfl (.tmp rfl) (.tmp rfl) [] rfl ⟨rfl, rfl⟩))
  · refine TC.seq ?_
    refine TC.region ?_
    refine TL.move rfl rfl (v := SV.v s2) rfl ?_
    refine TL.call (R := G.spec_l07Oriented.R) Try.call54 rfl rfl rfl (fun w hS => G.spec_l07Oriented.calls w s2 ss1 s1 ((RdM.old h1) w hS)) ?_
    rintro r_2 _ _ ⟨rfl, rfl⟩
    refine TL.not r_2 rfl rfl rfl ?_
    refine TL.move rfl rfl (v := .bool (!r_2)) rfl ?_
    refine TL.cutJ (σ := Bool) (γ := Unit) (Γ' := fun b_1 _ => [(17, .bool b_1), (0, SV.v s2), (2, .int .i64 0), (3, .int .i64 0), (5, SV.v s2), (6, .bool r_1), (7, .bool (!r_1)), (4, .bool (!r_1)), (9, SV.v s2), (10, .bool r_2), (11, .bool (!r_2)), (12, .bool (!r_2))]) (L' := fun _ _ => []) 5 ?_ ?_
    · refine TL.ifb (t := 12) (b := (!r_2)) rfl (fun c3 => ?_) (fun c4 => ?_)
      · refine TL.skip rfl rfl (by decide) ?_
        refine TL.skip rfl rfl (by decide) ?_
        refine TL.skip rfl rfl (by decide) ?_
        refine TL.skip rfl rfl (by decide) ?_
        refine TL.pick rfl rfl (b := true) rfl (r := .bool true) rfl ?_
        refine TL.done ?_
        exact TC.nrm (true) () ⟨rfl, rfl, rfl, rfl, rfl, rfl, rfl, rfl, rfl, rfl, rfl, (by rw [c3]; rfl), trivial⟩ [] rfl
      · refine TL.move rfl rfl (v := SV.v s2) rfl ?_
        refine TL.call (R := G.spec_l07Pieces.R) Try.call66 rfl rfl rfl (fun w hS => G.spec_l07Pieces.calls w s2 ss1 s1 ((RdM.old h1) w hS)) ?_
        rintro r_3 _ _ ⟨s3, rfl, rfl⟩
        refine TL.call (R := G.spec_l07Different.R) Try.call65 rfl rfl rfl (fun w hS => G.spec_l07Different.calls w s3 r_3 ((Rd.row 0 rfl) w hS)) ?_
        rintro r_4 _ _ ⟨rfl, rfl⟩
        refine TL.bin .i64 r_4 1 rfl rfl rfl rfl (v := .bool (decide (r_4 > 1))) rfl ?_
        refine TL.pick rfl rfl (b := false) rfl (r := .bool (decide (r_4 > 1))) rfl ?_
        refine TL.done ?_
        exact TC.nrm ((decide (r_4 > 1))) () ⟨rfl, rfl, rfl, rfl, rfl, rfl, rfl, rfl, rfl, rfl, rfl, (by rw [c4]; rfl), trivial⟩ [] rfl
    · rintro b_1 _
      refine TL.assign rfl rfl (v := .bool b_1) rfl ?_
      refine TL.done ?_
      refine TC.cond (b := b_1) rfl (fun c5 => ?_) (fun c6 => ?_)
      · refine TC.seq ?_
        refine TC.region ?_
        refine TL.assign rfl rfl (v := .int .i64 0) rfl ?_
        refine TL.assign rfl rfl (v := .int .i64 5) rfl ?_
        refine TL.done ?_
        exact TC.retF (Fin.body (fin2 (.inr rfl) rfl (.tmp rfl) (.tmp rfl) [] rfl ⟨rfl, rfl⟩))
      · refine TC.skip ?_
        refine TC.seq ?_
        refine TC.region ?_
        refine TL.move rfl rfl (v := SV.v s2) rfl ?_
        refine TL.call (R := G.spec_l07Euler.R) Try.call71 rfl rfl rfl (fun w hS => G.spec_l07Euler.calls w s2 ss1 s1 ((RdM.old h1) w hS)) ?_
        rintro r_5 _ _ ⟨rfl, rfl⟩
        refine TL.quo .i64 r_5 2 (by decide) rfl rfl rfl rfl ?_
        refine TL.bin .i64 1 (w64 (Int.tdiv r_5 2)) rfl rfl rfl rfl (v := .int .i64 (w64 (1 - (w64 (Int.tdiv r_5 2))))) rfl ?_
        refine TL.assign rfl rfl (v := .int .i64 (w64 (1 - (w64 (Int.tdiv r_5 2))))) rfl ?_
        refine TL.assign rfl rfl (v := .int .i64 0) rfl ?_
        refine TL.done ?_
        exact TC.retF (Fin.body (fin2 (.inr rfl) rfl (.tmp rfl) (.tmp rfl) [] rfl ⟨rfl, rfl⟩))

end Go.Proofs.Ytnppkcemnjkboaa.G

/- impl.in, as a pure function. -/
set_option linter.unusedVariables false
namespace Go.Proofs.Ytnppkcemnjkboaa.G
open Go Go.Sx Go.Proofs

def impl_in.f (n_1 : Int) (low1 : Int) (high1 : Int) : Option Bool := some ((decide (n_1 ≥ low1)) && (decide (n_1 ≤ high1)))

def impl_in.R (r : Bool) (v : Value) (L : List Asn) : Prop := v = .bool r ∧ L = []

set_option maxRecDepth 100000 in
set_option maxHeartbeats 4000000 in
theorem impl_in.calls (w : World) (n_1 : Int) (low1 : Int) (high1 : Int) :
    ∀ r, impl_in.f n_1 low1 high1 = some r → Calls Try.prog 60 #[.int .i64 n_1, .int .i64 low1, .int .i64 high1] w (Ret w (impl_in.R r)) := by

  refine calls_T (n := 15) (Γ := [(0, .int .i64 n_1), (1, .int .i64 low1), (2, .int .i64 high1)]) (R := impl_in.R) Try.func60 rfl rfl (Nat.le_of_ble_eq_true rfl) ⟨rfl, rfl, rfl, trivial⟩ ?_
  unfold impl_in.f
  refine TC.seq ?_
  refine TC.region ?_
  refine TL.assign rfl rfl (v := .bool false) rfl ?_
  refine TL.done ?_
  refine TC.seq ?_
  refine TC.region ?_
  refine TL.move rfl rfl (v := .int .i64 n_1) rfl ?_
  refine TL.move rfl rfl (v := .int .i64 low1) rfl ?_
  refine TL.bin .i64 n_1 low1 rfl rfl rfl rfl (v := .bool (decide (n_1 ≥ low1))) rfl ?_
  refine TL.move rfl rfl (v := .bool (decide (n_1 ≥ low1))) rfl ?_
  refine TL.cutU 4 [(14, .bool ((decide (n_1 ≥ low1)) && (decide (n_1 ≤ high1)))), (0, .int .i64 n_1), (1, .int .i64 low1), (2, .int .i64 high1), (6, .bool false), (7, .int .i64 n_1), (8, .int .i64 low1), (9, .bool (decide (n_1 ≥ low1))), (10, .bool (decide (n_1 ≥ low1)))] [] ?_ ?_
  · refine TL.cases (t := 10) (b := (decide (n_1 ≥ low1))) rfl (fun c1 => ?_) (fun c2 => ?_)
    · refine TL.move rfl rfl (v := .int .i64 n_1) rfl ?_
      refine TL.move rfl rfl (v := .int .i64 high1) rfl ?_
      refine TL.bin .i64 n_1 high1 rfl rfl rfl rfl (v := .bool (decide (n_1 ≤ high1))) rfl ?_
      refine TL.pick rfl rfl (b := true) rfl (r := .bool (decide (n_1 ≤ high1))) rfl ?_
      refine TL.done ?_
      exact TC.nrm () () ⟨(by rw [c1]; rfl), rfl, rfl, rfl, rfl, rfl, rfl, rfl, (by rw [c1]; rfl), trivial⟩ [] rfl
    · refine TL.skip rfl rfl (by decide) ?_
      refine TL.skip rfl rfl (by decide) ?_
      refine TL.skip rfl rfl (by decide) ?_
      refine TL.pick rfl rfl (b := false) rfl (r := .bool false) rfl ?_
      refine TL.done ?_
      exact TC.nrm () () ⟨(by rw [c2]; rfl), rfl, rfl, rfl, rfl, rfl, rfl, rfl, (by rw [c2]; rfl), trivial⟩ [] rfl
  · refine TL.assign rfl rfl (v := .bool ((decide (n_1 ≥ low1)) && (decide (n_1 ≤ high1)))) rfl ?_
    refine TL.done ?_
    exact TC.retF (Fin.body (fin1 (.inr rfl) rfl (.tmp rfl) [] rfl ⟨rfl, rfl⟩))

end Go.Proofs.Ytnppkcemnjkboaa.G

/- impl.edgesOf, as a pure function. -/
set_option linter.unusedVariables false
namespace Go.Proofs.Ytnppkcemnjkboaa.G
open Go Go.Sx Go.Proofs

def impl_edgesOf.f (s1 : List (List Int)) : Option Int := some (w64 (Int.tdiv (w64 ((s1.length : Int) * 3)) 2))

def impl_edgesOf.R (r : Int) (v : Value) (L : List Asn) : Prop := v = .int .i64 r ∧ L = []

set_option maxRecDepth 100000 in
set_option maxHeartbeats 4000000 in
theorem impl_edgesOf.calls (w : World) (s2 : SV) (ss1 : List SV) (s1 : List (List Int)) (h1 : ReadsM Ei (hp w) s2 ss1 s1) :
    ∀ r, impl_edgesOf.f s1 = some r → Calls Try.prog 62 #[SV.v s2] w (Ret w (impl_edgesOf.R r)) := by

  refine calls_T (n := 7) (Γ := [(0, SV.v s2)]) (R := impl_edgesOf.R) Try.func62 rfl rfl (Nat.le_of_ble_eq_true rfl) ⟨rfl, trivial⟩ ?_
  unfold impl_edgesOf.f
  refine TC.seq ?_
  refine TC.region ?_
  refine TL.assign rfl rfl (v := .int .i64 0) rfl ?_
  refine TL.done ?_
  refine TC.seq ?_
  refine TC.region ?_
  refine TL.move rfl rfl (v := SV.v s2) rfl ?_
  refine TL.lenM (RdM.old h1) Try.underlying22 rfl rfl rfl ?_
  refine TL.bin .i64 (s1.length : Int) 3 rfl rfl rfl rfl (v := .int .i64 (w64 ((s1.length : Int) * 3))) rfl ?_
  refine TL.quo .i64 (w64 ((s1.length : Int) * 3)) 2 (by decide) rfl rfl rfl rfl ?_
  refine TL.assign rfl rfl (v := .int .i64 (w64 (Int.tdiv (w64 ((s1.length : Int) * 3)) 2))) rfl ?_
  refine TL.done ?_
  exact TC.retF (Fin.body (fin1 (.inr rfl) rfl (.tmp rfl) [] rfl ⟨rfl, rfl⟩))

end Go.Proofs.Ytnppkcemnjkboaa.G

/- impl.size, as a pure function. -/
set_option linter.unusedVariables false
namespace Go.Proofs.Ytnppkcemnjkboaa.G
open Go Go.Sx Go.Proofs

def impl_size.f (k_1 : Int) : Option Int := some (if (w64 (0 - k_1)) > k_1 then (w64 (0 - k_1)) else k_1)

def impl_size.R (r : Int) (v : Value) (L : List Asn) : Prop := v = .int .i64 r ∧ L = []

set_option maxRecDepth 100000 in
set_option maxHeartbeats 4000000 in
theorem impl_size.calls (w : World) (k_1 : Int) :
    ∀ r, impl_size.f k_1 = some r → Calls Try.prog 110 #[.int .i64 k_1] w (Ret w (impl_size.R r)) := by

  refine calls_T (n := 7) (Γ := [(0, .int .i64 k_1)]) (R := impl_size.R) Try.func110 rfl rfl (Nat.le_of_ble_eq_true rfl) ⟨rfl, trivial⟩ ?_
  unfold impl_size.f
  refine TC.seq ?_
  refine TC.region ?_
  refine TL.assign rfl rfl (v := .int .i64 0) rfl ?_
  refine TL.done ?_
  refine TC.seq ?_
  refine TC.region ?_
  refine TL.move rfl rfl (v := .int .i64 k_1) rfl ?_
  refine TL.move rfl rfl (v := .int .i64 k_1) rfl ?_
  refine TL.neg .i64 k_1 rfl rfl rfl ?_
  refine TL.max2 rfl rfl rfl rfl ?_
  refine TL.assign rfl rfl (v := .int .i64 (if (w64 (0 - k_1)) > k_1 then (w64 (0 - k_1)) else k_1)) rfl ?_
  refine TL.done ?_
  exact TC.retF (Fin.body (fin1 (.inr rfl) rfl (.tmp rfl) [] rfl ⟨rfl, rfl⟩))

end Go.Proofs.Ytnppkcemnjkboaa.G

/- impl.sidesOfEdges, as a pure function. -/
set_option linter.unusedVariables false
namespace Go.Proofs.Ytnppkcemnjkboaa.G
open Go Go.Sx Go.Proofs

def impl_sidesOfEdges.b0 (s1 : List (List Int)) (x1 : Int) : (List (List (Int × Int))) × Int → Option (LB ((List (List (Int × Int))) × Int)) := fun p => match p with | (out2, x2) => (bif (decide (x2 < ((gt s1 x1).length : Int))) then chk x2 ((gt s1 x1).length) ((G.impl_size.f (gt (gt s1 x1) x2)).bind (fun r_2 => chk r_2 out2.length (small ((gt out2 r_2).length + ([(x1, x2)] : List (Int × Int)).length) (some (.next ((out2.set r_2.toNat ((gt out2 r_2) ++ ([(x1, x2)] : List (Int × Int)))), (w64 (x2 + 1)))))))) else some (.brk (out2, x2)))

def impl_sidesOfEdges.b1 (s1 : List (List Int)) : (List (List (Int × Int))) × Int → Option (LB ((List (List (Int × Int))) × Int)) := fun p => match p with | (out1, x1) => (bif (decide (x1 < (s1.length : Int))) then chk x1 s1.length ((loop1 (impl_sidesOfEdges.b0 s1 x1) (out1, 0)).bind (fun p => match p with | (out2, x2) => some (.next (out2, (w64 (x1 + 1)))))) else some (.brk (out1, x1)))

def impl_sidesOfEdges.f (s1 : List (List Int)) : Option (List (List (Int × Int))) := (G.impl_edgesOf.f s1).bind (fun r_1 => grd (decide (0 ≤ (w64 (r_1 + 1)))) (small (w64 (r_1 + 1)).toNat ((loop1 (impl_sidesOfEdges.b1 s1) ((List.replicate (w64 (r_1 + 1)).toNat ([] : List (Int × Int))), 0)).bind (fun p => match p with | (out1, x1) => some out1))))

def impl_sidesOfEdges.R (r : List (List (Int × Int))) (v : Value) (L : List Asn) : Prop := ∃ (s0 : SV) (ss0 : List SV), v = SV.v s0 ∧ L = [mat Eii 68 64 s0 ss0 r]

set_option maxRecDepth 100000 in
set_option maxHeartbeats 4000000 in
theorem impl_sidesOfEdges.calls (w : World) (s2 : SV) (ss1 : List SV) (s1 : List (List Int)) (h1 : ReadsM Ei (hp w) s2 ss1 s1) :
    ∀ r, impl_sidesOfEdges.f s1 = some r → Calls Try.prog 74 #[SV.v s2] w (Ret w (impl_sidesOfEdges.R r)) := by

  refine calls_T (n := 43) (Γ := [(0, SV.v s2)]) (R := impl_sidesOfEdges.R) Try.func74 rfl rfl (Nat.le_of_ble_eq_true rfl) ⟨rfl, trivial⟩ ?_
  unfold impl_sidesOfEdges.f
  refine TC.seq ?_
  refine TC.region ?_
  refine TL.assign rfl rfl (v := SV.v ⟨none, 0, 0⟩) rfl ?_
  refine TL.done ?_
  refine TC.seq ?_
  refine TC.region ?_
  refine TL.move rfl rfl (v := SV.v s2) rfl ?_
  refine TL.call (R := G.impl_edgesOf.R) Try.call62 rfl rfl rfl (fun w hS => G.impl_edgesOf.calls w s2 ss1 s1 ((RdM.old h1) w hS)) ?_
  rintro r_1 _ _ ⟨rfl, rfl⟩
  refine TL.bin .i64 r_1 1 rfl rfl rfl rfl (v := .int .i64 (w64 (r_1 + 1))) rfl ?_
  refine TL.grd fun h3 => ?_
  refine TL.small fun h2 => ?_
  refine TL.mkslice Ev (⟨none, 0, 0⟩ : SV) (w64 (r_1 + 1)) Try.underlying65 (info_of Try.type64) (zv := (Try.t64.zero.getD (.bool false))) rfl rfl rfl (by simp [Ev]) (by decide) (by simpa using h3) (by omega) rfl rfl rfl rfl fun s3 => ?_
  refine TL.rowsRep Eii 68 ((w64 (r_1 + 1)).toNat) ?_
  refine TL.matmk 1 0 rfl rfl ?_
  refine TL.drop 1 rfl ?_
  refine TL.asL [mat Eii 68 64 s3 (List.replicate (w64 (r_1 + 1)).toNat (⟨none, 0, 0⟩ : SV)) (List.replicate (w64 (r_1 + 1)).toNat ([] : List (Int × Int)))] rfl ?_
  refine TL.assign rfl rfl (v := SV.v s3) rfl ?_
  refine TL.done ?_
  refine TC.seq ?_
  refine TC.seq ?_
  refine TC.region ?_
  refine TL.move rfl rfl (v := SV.v s2) rfl ?_
  refine TL.lenM (RdM.old h1) Try.underlying22 rfl rfl rfl ?_
  refine TL.move rfl rfl (v := .int .i64 0) rfl ?_
  refine TL.done ?_
  refine TC.loop1 (σ := (List (List (Int × Int))) × Int) (γ := (List SV)) (Γ' := (fun p q => match p, q with | (out1, x1), ss2 => [(3, SV.v s3), (12, SV.v s2), (13, .int .i64 (s1.length : Int)), (14, .int .i64 x1)])) (L' := (fun p q => match p, q with | (out1, x1), ss2 => [mat Eii 68 64 s3 ss2 out1])) (Γb := (fun p q => match p, q with | (out1, x1), ss2 => [(3, SV.v s3), (12, SV.v s2), (13, .int .i64 (s1.length : Int)), (14, .int .i64 x1)])) (Lb := (fun p q => match p, q with | (out1, x1), ss2 => [mat Eii 68 64 s3 ss2 out1])) (((List.replicate (w64 (r_1 + 1)).toNat ([] : List (Int × Int))), 0)) ((List.replicate (w64 (r_1 + 1)).toNat (⟨none, 0, 0⟩ : SV))) ⟨rfl, rfl, rfl, rfl, trivial⟩ [0] rfl ?_ ?_
  · rintro ⟨out1, x1⟩ ss2
    refine TC.seq ?_
    refine TC.region ?_
    refine TL.bin .i64 x1 (s1.length : Int) rfl rfl rfl rfl (v := .bool (decide (x1 < (s1.length : Int)))) rfl ?_
    refine TL.done ?_
    refine TC.seq ?_
    refine TC.cond (b := (decide (x1 < (s1.length : Int)))) rfl (fun c1 => ?_) (fun c2 => ?_)
    · refine TC.skip ?_
      refine TC.seq ?_
      refine TC.block (NoEx.loop1 rfl) ?_
      refine TC.seq ?_
      refine TC.region ?_
      refine TL.move rfl rfl (v := .int .i64 x1) rfl ?_
      refine TL.chk fun h4 => ?_
      refine TL.ixsM x1 x1.toNat (RdM.old h1) h4 Try.underlying22 Try.sizeOf53 rfl rfl rfl rfl (by omega) ?_
      refine TL.loadM2 (RdM.old h1) Try.isAgg53 x1 h4 (by omega) rfl rfl rfl ?_
      refine TL.assign rfl rfl (v := .int .i64 x1) rfl ?_
      refine TL.assign rfl rfl (v := SV.v (gt ss1 x1)) rfl ?_
      refine TL.done ?_
      refine TC.seq ?_
      refine TC.region ?_
      refine TL.move rfl rfl (v := SV.v (gt ss1 x1)) rfl ?_
      refine TL.len (RdM.inn (RdM.old h1) h4) Try.underlying53 rfl rfl rfl ?_
      refine TL.move rfl rfl (v := .int .i64 0) rfl ?_
      refine TL.done ?_
      refine TC.loop1 (σ := (List (List (Int × Int))) × Int) (γ := (List SV)) (Γ' := (fun p q => match p, q with | (out2, x2), ss3 => [(3, SV.v s3), (4, .int .i64 x1), (12, SV.v s2), (13, .int .i64 (s1.length : Int)), (14, .int .i64 x1), (19, SV.v (gt ss1 x1)), (20, .int .i64 ((gt s1 x1).length : Int)), (21, .int .i64 x2)])) (L' := (fun p q => match p, q with | (out2, x2), ss3 => [mat Eii 68 64 s3 ss3 out2])) (Γb := (fun p q => match p, q with | (out2, x2), ss3 => [(3, SV.v s3), (4, .int .i64 x1), (12, SV.v s2), (13, .int .i64 (s1.length : Int)), (14, .int .i64 x1), (19, SV.v (gt ss1 x1)), (20, .int .i64 ((gt s1 x1).length : Int)), (21, .int .i64 x2)])) (Lb := (fun p q => match p, q with | (out2, x2), ss3 => [mat Eii 68 64 s3 ss3 out2])) ((out1, 0)) (ss2) ⟨rfl, rfl, rfl, rfl, rfl, rfl, rfl, rfl, trivial⟩ [0] rfl ?_ ?_
      · rintro ⟨out2, x2⟩ ss3
        refine TC.seq ?_
        refine TC.region ?_
        refine TL.bin .i64 x2 ((gt s1 x1).length : Int) rfl rfl rfl rfl (v := .bool (decide (x2 < ((gt s1 x1).length : Int)))) rfl ?_
        refine TL.done ?_
        refine TC.seq ?_
        refine TC.cond (b := (decide (x2 < ((gt s1 x1).length : Int)))) rfl (fun c3 => ?_) (fun c4 => ?_)
        · refine TC.skip ?_
          refine TC.seq ?_
          refine TC.block (NoEx.loop1 rfl) ?_
          refine TC.seq ?_
          refine TC.region ?_
          refine TL.move rfl rfl (v := .int .i64 x2) rfl ?_
          refine TL.chk fun h5 => ?_
          refine TL.ixs x2 x2.toNat (RdM.inn (RdM.old h1) h4) h5 Try.underlying53 Try.sizeOf2 rfl rfl rfl rfl (by omega) ?_
          refine TL.loadE (RdM.inn (RdM.old h1) h4) Try.isAgg2 x2.toNat 0 (gt_spec h5) (v := .int .i64 (gt (gt s1 x1) x2)) rfl (by simp only [show Ei.sz = 1 from rfl]; omega) rfl rfl rfl ?_
          refine TL.assign rfl rfl (v := .int .i64 x2) rfl ?_
          refine TL.assign rfl rfl (v := .int .i64 (gt (gt s1 x1) x2)) rfl ?_
          refine TL.done ?_
          refine TC.region ?_
          refine TL.move rfl rfl (v := SV.v s3) rfl ?_
          refine TL.move rfl rfl (v := .int .i64 (gt (gt s1 x1) x2)) rfl ?_
          refine TL.bindE ?_
          rintro r_2 hr1
          refine TL.callH (R := G.impl_size.R) hr1 Try.call110 rfl rfl rfl (fun w hS => G.impl_size.calls w (gt (gt s1 x1) x2)) ?_
          rintro _ _ ⟨rfl, rfl⟩
          refine TL.move rfl rfl (v := SV.v s3) rfl ?_
          refine TL.move rfl rfl (v := .int .i64 (gt (gt s1 x1) x2)) rfl ?_
          refine TL.callH (R := G.impl_size.R) hr1 Try.call110 rfl rfl rfl (fun w hS => G.impl_size.calls w (gt (gt s1 x1) x2)) ?_
          rintro _ _ ⟨rfl, rfl⟩
          refine TL.chk fun h6 => ?_
          refine TL.ixsM r_2 r_2.toNat (RdM.mat 0 rfl) h6 Try.underlying65 Try.sizeOf64 rfl rfl rfl rfl (by omega) ?_
          refine TL.loadM2 (RdM.mat 0 rfl) Try.isAgg64 r_2 h6 (by omega) rfl rfl rfl ?_
          refine TL.move rfl rfl (v := .int .i64 x1) rfl ?_
          refine TL.move rfl rfl (v := .int .i64 x2) rfl ?_
          refine TL.buildS (segs0 := [.one (.int .i64 0), .one (.int .i64 0)]) (segs := [.one (.int .i64 x1), .one (.int .i64 x2)]) [1, 1] Try.underlying68 ⟨Try.sizeOf3, Try.sizeOf3, trivial⟩ Try.zeroValue68 rfl [(0, .int .i64 x1), (1, .int .i64 x2)] rfl (fun pl hpl => by subst hpl; exact fill_one 0 rfl rfl rfl rfl (fill_one 1 rfl rfl rfl rfl (rfl))) rfl rfl ?_
          refine TL.blit Eii ([(x1, x2)] : List (Int × Int)) Try.underlying64 Try.sizeOf68 Try.zeroValue68 rfl rfl rfl [(0, sval [.one (.int .i64 x1), .one (.int .i64 x2)])] rfl ⟨rfl, rfl, trivial⟩ rfl rfl fun s4 => ?_
          refine TL.matopen 1 r_2 rfl h6 ?_
          refine TL.small fun h7 => ?_
          refine TL.append 0 rfl (Rd.row 1 rfl) Try.underlying64 (info_of Try.type68) (zv := (Try.t68.zero.getD (.bool false))) rfl rfl rfl (by decide) h7 rfl rfl rfl rfl fun s5 => ?_
          refine TL.ixsX r_2 r_2.toNat 2 rfl h6 Try.underlying65 Try.sizeOf64 rfl rfl rfl rfl (by omega) ?_
          refine TL.matXlen 2 rfl fun h8 => ?_
          refine TL.matXcut 2 rfl ?_
          refine TL.stE 0 (r_2.toNat) s5 (v := SV.v s5) rfl Try.sizeOf64 rfl rfl rfl (by have h_ := h6; have l_ := h8; (try simp only [List.length_set] at h_ l_ ⊢); omega) (by simp only [show Ev.sz = 1 from rfl]; omega) rfl rfl rfl ?_
          refine TL.rowsPut 1 3 rfl rfl ?_
          refine TL.matmk 0 3 rfl rfl ?_
          refine TL.drop 0 rfl ?_
          refine TL.asL [emp, row Eii 68 s4 ([(x1, x2)] : List (Int × Int)), mat Eii 68 64 s3 (ss3.set r_2.toNat s5) (out2.set r_2.toNat ((gt out2 r_2) ++ ([(x1, x2)] : List (Int × Int))))] rfl ?_
          refine TL.done ?_
          refine TC.region ?_
          refine TL.bin .i64 x2 1 rfl rfl rfl rfl (v := .int .i64 (w64 (x2 + 1))) rfl ?_
          refine TL.move rfl rfl (v := .int .i64 (w64 (x2 + 1))) rfl ?_
          refine TL.done ?_
          exact TC.next1 (((out2.set r_2.toNat ((gt out2 r_2) ++ ([(x1, x2)] : List (Int × Int)))), (w64 (x2 + 1)))) ((ss3.set r_2.toNat s5)) ⟨rfl, rfl, rfl, rfl, rfl, rfl, rfl, rfl, trivial⟩ [2] rfl
        · exact TC.brk1 ((out2, x2)) (ss3) ⟨rfl, rfl, rfl, rfl, rfl, rfl, rfl, rfl, trivial⟩ [0] rfl
      · rintro ⟨out2, x2⟩ ss3
        refine TC.region ?_
        refine TL.bin .i64 x1 1 rfl rfl rfl rfl (v := .int .i64 (w64 (x1 + 1))) rfl ?_
        refine TL.move rfl rfl (v := .int .i64 (w64 (x1 + 1))) rfl ?_
        refine TL.done ?_
        exact TC.next1 ((out2, (w64 (x1 + 1)))) (ss3) ⟨rfl, rfl, rfl, rfl, trivial⟩ [0] rfl
    · exact TC.brk1 ((out1, x1)) (ss2) ⟨rfl, rfl, rfl, rfl, trivial⟩ [0] rfl
  · rintro ⟨out1, x1⟩ ss2
    refine TC.seq ?_
    refine TC.region ?_
    refine TL.move rfl rfl (v := SV.v s3) rfl ?_
    refine TL.assign rfl rfl (v := SV.v s3) rfl ?_
    refine TL.done ?_
    exact TC.retF (Fin.body (fin1 (.inr rfl) rfl (.tmp rfl) [0] rfl ⟨s3, ss2, rfl, rfl⟩))

end Go.Proofs.Ytnppkcemnjkboaa.G

/- slices.IndexFunc[[]int64,int64], as a pure function. -/
set_option linter.unusedVariables false
namespace Go.Proofs.Ytnppkcemnjkboaa.G
open Go Go.Sx Go.Proofs

def slices_IndexFunc_int64_int64.b0 (s1 : List Int) (f2 : Int → Option Bool) : Int → Option (LR Int Int) := fun x1 => (bif (decide (x1 < (s1.length : Int))) then chk x1 s1.length ((f2 (gt s1 x1)).bind (fun r_1 => (bif r_1 then some (.ret (x1)) else some (.next (w64 (x1 + 1)))))) else some (.brk x1))

def slices_IndexFunc_int64_int64.f (s1 : List Int) (f2 : Int → Option Bool) : Option Int := (loop (slices_IndexFunc_int64_int64.b0 s1 f2) 0).bind (ln (fun x1 => some (-1)))

def slices_IndexFunc_int64_int64.R (r : Int) (v : Value) (L : List Asn) : Prop := v = .int .i64 r ∧ L = []

set_option maxRecDepth 100000 in
set_option maxHeartbeats 4000000 in
theorem slices_IndexFunc_int64_int64.calls (w : World) (s2 : SV) (s1 : List Int) (f1 : Nat) (fst1 : List Value) (cap1 : List Value) (f2 : Int → Option Bool) (h1 : Reads Ei (hp w) s2 s1) (hc1 : ∀ (args_ : Array Value) (w_ : World), (callFunc f1 args_).run Try.prog w_ = .ok (.enter f1 args_) w_) (hf1 : ∀ w_, Hle (hp w) (hp w_) → ∀ (x0_ : Int), ∀ r_, f2 x0_ = some r_ → Calls Try.prog f1 (fst1 ++ ([.int .i64 x0_] : List Value) ++ cap1).toArray w_ (Ret w_ (fun (v_ : Value) (L_ : List Asn) => v_ = .bool r_ ∧ L_ = []))) :
    ∀ r, slices_IndexFunc_int64_int64.f s1 f2 = some r → Calls Try.prog 112 #[SV.v s2, .func (.func f1) fst1.toArray cap1.toArray] w (Ret w (slices_IndexFunc_int64_int64.R r)) := by

  refine calls_T (n := 19) (Γ := [(0, SV.v s2), (1, .func (.func f1) fst1.toArray cap1.toArray)]) (R := slices_IndexFunc_int64_int64.R) Try.func112 rfl rfl (Nat.le_of_ble_eq_true rfl) ⟨rfl, rfl, trivial⟩ ?_
  unfold slices_IndexFunc_int64_int64.f
  refine TC.seq ?_
  refine TC.region ?_
  refine TL.assign rfl rfl (v := .int .i64 0) rfl ?_
  refine TL.done ?_
  refine TC.seq ?_
  refine TC.seq ?_
  refine TC.region ?_
  refine TL.move rfl rfl (v := SV.v s2) rfl ?_
  refine TL.len (Rd.old h1) Try.underlying53 rfl rfl rfl ?_
  refine TL.move rfl rfl (v := .int .i64 0) rfl ?_
  refine TL.done ?_
  refine TC.loopK (σ := Int) (γ := Unit) (Γ' := (fun x1 _ => [(0, SV.v s2), (1, .func (.func f1) fst1.toArray cap1.toArray), (7, .int .i64 (s1.length : Int)), (8, .int .i64 x1)])) (L' := (fun x1 _ => [])) (Γb := (fun x1 _ => [(0, SV.v s2), (1, .func (.func f1) fst1.toArray cap1.toArray), (7, .int .i64 (s1.length : Int)), (8, .int .i64 x1)])) (Lb := (fun x1 _ => [])) (0) (()) ⟨rfl, rfl, rfl, rfl, trivial⟩ [] rfl ?_ ?_
  · rintro x1 _
    refine TC.seq ?_
    refine TC.region ?_
    refine TL.bin .i64 x1 (s1.length : Int) rfl rfl rfl rfl (v := .bool (decide (x1 < (s1.length : Int)))) rfl ?_
    refine TL.done ?_
    refine TC.seq ?_
    refine TC.cond (b := (decide (x1 < (s1.length : Int)))) rfl (fun c1 => ?_) (fun c2 => ?_)
    · refine TC.skip ?_
      refine TC.seq ?_
      refine TC.block (NoEx.loop rfl NoEx.body) ?_
      refine TC.seq ?_
      refine TC.region ?_
      refine TL.move rfl rfl (v := .int .i64 x1) rfl ?_
      refine TL.assign rfl rfl (v := .int .i64 x1) rfl ?_
      refine TL.done ?_
      refine TC.seq ?_
      refine TC.region ?_
      refine TL.move rfl rfl (v := .func (.func f1) fst1.toArray cap1.toArray) rfl ?_
      refine TL.move rfl rfl (v := SV.v s2) rfl ?_
      refine TL.move rfl rfl (v := .int .i64 x1) rfl ?_
      refine TL.chk fun h2 => ?_
      refine TL.ixs x1 x1.toNat (Rd.old h1) h2 Try.underlying53 Try.sizeOf2 rfl rfl rfl rfl (by omega) ?_
      refine TL.loadE (Rd.old h1) Try.isAgg2 x1.toNat 0 (gt_spec h2) (v := .int .i64 (gt s1 x1)) rfl (by simp only [show Ei.sz = 1 from rfl]; omega) rfl rfl rfl ?_
      refine TL.callv (R := (fun r_ => (fun (v_ : Value) (L_ : List Asn) => v_ = .bool r_ ∧ L_ = []))) (vs := [.int .i64 (gt s1 x1)]) hc1 rfl rfl rfl rfl (fun w hS => hf1 w hS.iw (gt s1 x1)) ?_
      rintro r_1 _ _ ⟨rfl, rfl⟩
      refine TL.done ?_
      refine TC.cond (b := r_1) rfl (fun c3 => ?_) (fun c4 => ?_)
      · refine TC.seq ?_
        refine TC.region ?_
        refine TL.move rfl rfl (v := .int .i64 x1) rfl ?_
        refine TL.assign rfl rfl (v := .int .i64 x1) rfl ?_
        refine TL.done ?_
        exact TC.retF (Fin.loop Far.ret (Fin.body (fin1 (.inr rfl) rfl (.tmp rfl) [] rfl ⟨rfl, rfl⟩)))
      · refine TC.skip ?_
        refine TC.region ?_
        refine TL.bin .i64 x1 1 rfl rfl rfl rfl (v := .int .i64 (w64 (x1 + 1))) rfl ?_
        refine TL.move rfl rfl (v := .int .i64 (w64 (x1 + 1))) rfl ?_
        refine TL.done ?_
        exact TC.next ((w64 (x1 + 1))) (()) ⟨rfl, rfl, rfl, rfl, trivial⟩ [] rfl
    · exact TC.brk (x1) (()) ⟨rfl, rfl, rfl, rfl, trivial⟩ [] rfl
  · rintro x1 _
    refine TC.seq ?_
    refine TC.region ?_
    refine TL.assign rfl rfl (v := .int .i64 (-1)) rfl ?_
    refine TL.done ?_
    exact TC.retF (Fin.body (fin1 (.inr rfl) rfl (.tmp rfl) [] rfl ⟨rfl, rfl⟩))

end Go.Proofs.Ytnppkcemnjkboaa.G

/- slices.ContainsFunc[[]int64,int64], as a pure function. -/
set_option linter.unusedVariables false
namespace Go.Proofs.Ytnppkcemnjkboaa.G
open Go Go.Sx Go.Proofs

def slices_ContainsFunc_int64_int64.f (s1 : List Int) (f2 : Int → Option Bool) : Option Bool := (G.slices_IndexFunc_int64_int64.f s1 f2).bind (fun r_1 => some (decide (r_1 ≥ 0)))

def slices_ContainsFunc_int64_int64.R (r : Bool) (v : Value) (L : List Asn) : Prop := v = .bool r ∧ L = []

set_option maxRecDepth 100000 in
set_option maxHeartbeats 4000000 in
theorem slices_ContainsFunc_int64_int64.calls (w : World) (s2 : SV) (s1 : List Int) (f1 : Nat) (fst1 : List Value) (cap1 : List Value) (f2 : Int → Option Bool) (h1 : Reads Ei (hp w) s2 s1) (hc1 : ∀ (args_ : Array Value) (w_ : World), (callFunc f1 args_).run Try.prog w_ = .ok (.enter f1 args_) w_) (hf1 : ∀ w_, Hle (hp w) (hp w_) → ∀ (x0_ : Int), ∀ r_, f2 x0_ = some r_ → Calls Try.prog f1 (fst1 ++ ([.int .i64 x0_] : List Value) ++ cap1).toArray w_ (Ret w_ (fun (v_ : Value) (L_ : List Asn) => v_ = .bool r_ ∧ L_ = []))) :
    ∀ r, slices_ContainsFunc_int64_int64.f s1 f2 = some r → Calls Try.prog 77 #[SV.v s2, .func (.func f1) fst1.toArray cap1.toArray] w (Ret w (slices_ContainsFunc_int64_int64.R r)) := by

  refine calls_T (n := 9) (Γ := [(0, SV.v s2), (1, .func (.func f1) fst1.toArray cap1.toArray)]) (R := slices_ContainsFunc_int64_int64.R) Try.func77 rfl rfl (Nat.le_of_ble_eq_true rfl) ⟨rfl, rfl, trivial⟩ ?_
  unfold slices_ContainsFunc_int64_int64.f
  refine TC.seq ?_
  refine TC.region ?_
  refine TL.assign rfl rfl (v := .bool false) rfl ?_
  refine TL.done ?_
  refine TC.seq ?_
  refine TC.region ?_
  refine TL.move rfl rfl (v := SV.v s2) rfl ?_
  refine TL.move rfl rfl (v := .func (.func f1) fst1.toArray cap1.toArray) rfl ?_
  refine TL.call (R := G.slices_IndexFunc_int64_int64.R) Try.call112 rfl rfl rfl (fun w hS => G.slices_IndexFunc_int64_int64.calls w s2 s1 f1 fst1 cap1 f2 ((Rd.old h1) w hS) hc1 (fun w_ hle_ => hf1 w_ (hS.iw.trans hle_))) ?_
  rintro r_1 _ _ ⟨rfl, rfl⟩
  refine TL.bin .i64 r_1 0 rfl rfl rfl rfl (v := .bool (decide (r_1 ≥ 0))) rfl ?_
  refine TL.assign rfl rfl (v := .bool (decide (r_1 ≥ 0))) rfl ?_
  refine TL.done ?_
  exact TC.retF (Fin.body (fin1 (.inr rfl) rfl (.tmp rfl) [] rfl ⟨rfl, rfl⟩))

end Go.Proofs.Ytnppkcemnjkboaa.G
