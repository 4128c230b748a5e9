/- impl.CommutingPairs, as a pure function. -/
import Derived.Test.YtgljkechjkllgaaProg
import Derived.Test.YtgljkechjkllgaaSx9
import Derived.Test.YtgljkechjkllgaaQ26
import Derived.Test.YtgljkechjkllgaaQ58
import Derived.Test.YtgljkechjkllgaaQ59
set_option linter.unusedVariables false
namespace Go.Proofs.Ytgljkechjkllgaa.G
open Go Go.Sx Go.Proofs

def impl_CommutingPairs.b0 (r_3 : Int) (g1 : Int) (g2 : Nat → UInt8) (x1 : Int) : Int × Int → Option (LB (Int × Int)) := fun p => match p with | (many_2, x2) => (bif (decide (x2 < r_3)) then (G.impl_Group_times.f g1 g2 x1 x2).bind (fun r_4 => (G.impl_Group_times.f g1 g2 x2 x1).bind (fun r_5 => ((bif (r_4 == r_5) then some (w64 (many_2 + 1)) else some many_2)).bind (fun many_3 => some (.next (many_3, (w64 (x2 + 1))))))) else some (.brk (many_2, x2)))

def impl_CommutingPairs.b1 (r_2 : Int) (g1 : Int) (g2 : Nat → UInt8) : Int × Int → Option (LB (Int × Int)) := fun p => match p with | (many_1, x1) => (bif (decide (x1 < r_2)) then (G.impl_Group_n.f g1 g2).bind (fun r_3 => (loop1 (impl_CommutingPairs.b0 r_3 g1 g2 x1) (many_1, 0)).bind (fun p => match p with | (many_2, x2) => some (.next (many_2, (w64 (x1 + 1)))))) else some (.brk (many_1, x1)))

def impl_CommutingPairs.f (g1 : Int) (g2 : Nat → UInt8) : Option (Int × Int) := (G.impl_IsGroup.f g1 g2).bind (fun r_1 => (bif (!r_1) then some (0, 1) else (G.impl_Group_n.f g1 g2).bind (fun r_2 => (loop1 (impl_CommutingPairs.b1 r_2 g1 g2) (0, 0)).bind (fun p => match p with | (many_1, x1) => some (many_1, 0)))))

def impl_CommutingPairs.R (r : Int × Int) (v : Value) (L : List Asn) : Prop := v = .tuple #[.int .i64 r.1, .int .i64 r.2] ∧ L = []

set_option maxRecDepth 100000 in
set_option maxHeartbeats 4000000 in
theorem impl_CommutingPairs.calls (w : World) (g1 : Int) (g2 : Nat → UInt8) :
    ∀ r, impl_CommutingPairs.f g1 g2 = some r → Calls Try.prog 43 #[sval [.one (.int .i64 g1), .arr 36 (enf u8v g2)]] w (Ret w (impl_CommutingPairs.R r)) := by

  refine calls_T (n := 30) (Γ := [(0, sval [.one (.int .i64 g1), .arr 36 (enf u8v g2)])]) (R := impl_CommutingPairs.R) Try.func43 rfl rfl (Nat.le_of_ble_eq_true rfl) ⟨rfl, trivial⟩ ?_
  unfold impl_CommutingPairs.f
  refine TC.seq ?_
  refine TC.region ?_
  refine TL.box [.one (.int .i64 g1), .arr 36 (enf u8v g2)] rfl rfl rfl rfl fun b_1 => ?_
  refine TL.assign rfl rfl (v := .int .i64 0) rfl ?_
  refine TL.assign rfl rfl (v := .int .i64 0) rfl ?_
  refine TL.done ?_
  refine TC.seq ?_
  refine TC.seq ?_
  refine TC.region ?_
  refine TL.loadM 0 2 (Src.box 0 rfl) Try.isAgg38 Try.sizeOf38 (mid := [.one (.int .i64 g1), .arr 36 (enf u8v g2)]) rfl rfl rfl rfl rfl rfl ?_
  refine TL.call (R := G.impl_IsGroup.R) Try.call26 rfl rfl rfl (fun w hS => G.impl_IsGroup.calls w g1 g2) ?_
  rintro r_1 _ _ ⟨rfl, rfl⟩
  refine TL.not r_1 rfl rfl rfl ?_
  refine TL.done ?_
  refine TC.cond (b := (!r_1)) rfl (fun c1 => ?_) (fun c2 => ?_)
  · refine TC.seq ?_
    refine TC.region ?_
    refine TL.assign rfl rfl (v := .int .i64 0) rfl ?_
    refine TL.assign rfl rfl (v := .int .i64 1) rfl ?_
    refine TL.done ?_
    exact TC.retF (Fin.body (fin2 (.inr rfl) rfl (.tmp rfl) (.tmp rfl) [] rfl ⟨rfl, rfl⟩))
  · refine TC.skip ?_
    refine TC.seq ?_
    refine TC.region ?_
    refine TL.assign rfl rfl (v := .int .i64 0) rfl ?_
    refine TL.done ?_
    refine TC.seq ?_
    refine TC.seq ?_
    refine TC.region ?_
    refine TL.call (R := G.impl_Group_n.R) Try.call58 rfl rfl rfl (fun w hS => G.impl_Group_n.calls w b_1 g1 g2 ((Src.box 0 rfl) w hS)) ?_
    rintro r_2 _ _ ⟨rfl, rfl⟩
    refine TL.move rfl rfl (v := .int .i64 0) rfl ?_
    refine TL.done ?_
    refine TC.loop1 (σ := Int × Int) (γ := Unit) (Γ' := (fun p q => match p, q with | (many_1, x1), _ => [(1, bp b_1 0), (4, .int .i64 many_1), (10, .int .i64 r_2), (11, .int .i64 x1)])) (L' := (fun p q => match p, q with | (many_1, x1), _ => [box b_1 38 [.one (.int .i64 g1), .arr 36 (enf u8v g2)]])) (Γb := (fun p q => match p, q with | (many_1, x1), _ => [(1, bp b_1 0), (4, .int .i64 many_1), (10, .int .i64 r_2), (11, .int .i64 x1)])) (Lb := (fun p q => match p, q with | (many_1, x1), _ => [box b_1 38 [.one (.int .i64 g1), .arr 36 (enf u8v g2)]])) ((0, 0)) (()) ⟨rfl, rfl, rfl, rfl, trivial⟩ [0] rfl ?_ ?_
    · rintro ⟨many_1, x1⟩ _
      refine TC.seq ?_
      refine TC.region ?_
      refine TL.bin .i64 x1 r_2 rfl rfl rfl rfl (v := .bool (decide (x1 < r_2))) rfl ?_
      refine TL.done ?_
      refine TC.seq ?_
      refine TC.cond (b := (decide (x1 < r_2))) rfl (fun c3 => ?_) (fun c4 => ?_)
      · refine TC.skip ?_
        refine TC.seq ?_
        refine TC.block (NoEx.loop1 rfl) ?_
        refine TC.seq ?_
        refine TC.region ?_
        refine TL.move rfl rfl (v := .int .i64 x1) rfl ?_
        refine TL.assign rfl rfl (v := .int .i64 x1) rfl ?_
        refine TL.done ?_
        refine TC.seq ?_
        refine TC.region ?_
        refine TL.call (R := G.impl_Group_n.R) Try.call58 rfl rfl rfl (fun w hS => G.impl_Group_n.calls w b_1 g1 g2 ((Src.box 0 rfl) w hS)) ?_
        rintro r_3 _ _ ⟨rfl, rfl⟩
        refine TL.move rfl rfl (v := .int .i64 0) rfl ?_
        refine TL.done ?_
        refine TC.loop1 (σ := Int × Int) (γ := Unit) (Γ' := (fun p q => match p, q with | (many_2, x2), _ => [(1, bp b_1 0), (4, .int .i64 many_2), (5, .int .i64 x1), (10, .int .i64 r_2), (11, .int .i64 x1), (14, .int .i64 r_3), (15, .int .i64 x2)])) (L' := (fun p q => match p, q with | (many_2, x2), _ => [box b_1 38 [.one (.int .i64 g1), .arr 36 (enf u8v g2)]])) (Γb := (fun p q => match p, q with | (many_2, x2), _ => [(1, bp b_1 0), (4, .int .i64 many_2), (5, .int .i64 x1), (10, .int .i64 r_2), (11, .int .i64 x1), (14, .int .i64 r_3), (15, .int .i64 x2)])) (Lb := (fun p q => match p, q with | (many_2, x2), _ => [box b_1 38 [.one (.int .i64 g1), .arr 36 (enf u8v g2)]])) ((many_1, 0)) (()) ⟨rfl, rfl, rfl, rfl, rfl, rfl, rfl, trivial⟩ [0] rfl ?_ ?_
        · rintro ⟨many_2, x2⟩ _
          refine TC.seq ?_
          refine TC.region ?_
          refine TL.bin .i64 x2 r_3 rfl rfl rfl rfl (v := .bool (decide (x2 < r_3))) rfl ?_
          refine TL.done ?_
          refine TC.seq ?_
          refine TC.cond (b := (decide (x2 < r_3))) rfl (fun c5 => ?_) (fun c6 => ?_)
          · refine TC.skip ?_
            refine TC.seq ?_
            refine TC.block (NoEx.loop1 rfl) ?_
            refine TC.seq ?_
            refine TC.region ?_
            refine TL.move rfl rfl (v := .int .i64 x2) rfl ?_
            refine TL.assign rfl rfl (v := .int .i64 x2) rfl ?_
            refine TL.done ?_
            refine TC.seq ?_
            refine TC.region ?_
            refine TL.move rfl rfl (v := .int .i64 x1) rfl ?_
            refine TL.move rfl rfl (v := .int .i64 x2) rfl ?_
            refine TL.call (R := G.impl_Group_times.R) Try.call59 rfl rfl rfl (fun w hS => G.impl_Group_times.calls w b_1 g1 g2 x1 x2 ((Src.box 0 rfl) w hS)) ?_
            rintro r_4 _ _ ⟨rfl, rfl⟩
            refine TL.move rfl rfl (v := .int .i64 x2) rfl ?_
            refine TL.move rfl rfl (v := .int .i64 x1) rfl ?_
            refine TL.call (R := G.impl_Group_times.R) Try.call59 rfl rfl rfl (fun w hS => G.impl_Group_times.calls w b_1 g1 g2 x2 x1 ((Src.box 0 rfl) w hS)) ?_
            rintro r_5 _ _ ⟨rfl, rfl⟩
            refine TL.bin .i64 r_4 r_5 rfl rfl rfl rfl (v := .bool (r_4 == r_5)) rfl ?_
            refine TL.done ?_
            refine TC.join1 (σ := Int) (γ := Unit) (Γ' := (fun many_3 _ => [(1, bp b_1 0), (4, .int .i64 many_3), (5, .int .i64 x1), (10, .int .i64 r_2), (11, .int .i64 x1), (14, .int .i64 r_3), (15, .int .i64 x2)])) (L' := (fun many_3 _ => [box b_1 38 [.one (.int .i64 g1), .arr 36 (enf u8v g2)]])) ?_ ?_
            · refine TC.cond (b := (r_4 == r_5)) rfl (fun c7 => ?_) (fun c8 => ?_)
              · refine TC.region ?_
                refine TL.move rfl rfl (v := .int .i64 many_2) rfl ?_
                refine TL.bin .i64 many_2 1 rfl rfl rfl rfl (v := .int .i64 (w64 (many_2 + 1))) rfl ?_
                refine TL.assign rfl rfl (v := .int .i64 (w64 (many_2 + 1))) rfl ?_
                refine TL.done ?_
                exact TC.nrm ((w64 (many_2 + 1))) (()) ⟨rfl, rfl, rfl, rfl, rfl, rfl, rfl, trivial⟩ [0] rfl
              · refine TC.skip ?_
                exact TC.nrm (many_2) (()) ⟨rfl, rfl, rfl, rfl, rfl, rfl, rfl, trivial⟩ [0] rfl
            · rintro many_3 _
              refine TC.region ?_
              refine TL.bin .i64 x2 1 rfl rfl rfl rfl (v := .int .i64 (w64 (x2 + 1))) rfl ?_
              refine TL.move rfl rfl (v := .int .i64 (w64 (x2 + 1))) rfl ?_
              refine TL.done ?_
              exact TC.next1 ((many_3, (w64 (x2 + 1)))) (()) ⟨rfl, rfl, rfl, rfl, rfl, rfl, rfl, trivial⟩ [0] rfl
          · exact TC.brk1 ((many_2, x2)) (()) ⟨rfl, rfl, rfl, rfl, rfl, rfl, rfl, trivial⟩ [0] rfl
        · rintro ⟨many_2, x2⟩ _
          refine TC.region ?_
          refine TL.bin .i64 x1 1 rfl rfl rfl rfl (v := .int .i64 (w64 (x1 + 1))) rfl ?_
          refine TL.move rfl rfl (v := .int .i64 (w64 (x1 + 1))) rfl ?_
          refine TL.done ?_
          exact TC.next1 ((many_2, (w64 (x1 + 1)))) (()) ⟨rfl, rfl, rfl, rfl, trivial⟩ [0] rfl
      · exact TC.brk1 ((many_1, x1)) (()) ⟨rfl, rfl, rfl, rfl, trivial⟩ [0] rfl
    · rintro ⟨many_1, x1⟩ _
      refine TC.seq ?_
      refine TC.region ?_
      refine TL.move rfl rfl (v := .int .i64 many_1) rfl ?_
      refine TL.assign rfl rfl (v := .int .i64 many_1) rfl ?_
      refine TL.assign rfl rfl (v := .int .i64 0) rfl ?_
      refine TL.done ?_
      exact TC.retF (Fin.body (fin2 (.inr rfl) rfl (.tmp rfl) (.tmp rfl) [] rfl ⟨rfl, rfl⟩))

end Go.Proofs.Ytgljkechjkllgaa.G
