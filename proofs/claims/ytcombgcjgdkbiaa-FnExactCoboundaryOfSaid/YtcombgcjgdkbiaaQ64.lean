/- impl.IsGroup, as a pure function. -/
import Derived.Test.YtcombgcjgdkbiaaProg
import Derived.Test.YtcombgcjgdkbiaaSx9
import Derived.Test.YtcombgcjgdkbiaaQ57
import Derived.Test.YtcombgcjgdkbiaaQ65
import Derived.Test.YtcombgcjgdkbiaaQ66
import Derived.Test.YtcombgcjgdkbiaaQ72
import Derived.Test.YtcombgcjgdkbiaaQ114
set_option linter.unusedVariables false
namespace Go.Proofs.Ytcombgcjgdkbiaa.G
open Go Go.Sx Go.Proofs

def impl_IsGroup.b0 (r_8 : Int) (g1 : Int) (g2 : Nat → UInt8) (x1 : Int) (x2 : Int) : Int → Option (LR Int (LR Int (LR Int Bool))) := fun x3 => (bif (decide (x3 < r_8)) then (G.impl_Group_times.f g1 g2 x1 x2).bind (fun r_9 => (G.impl_Group_times.f g1 g2 r_9 x3).bind (fun r_10 => (G.impl_Group_times.f g1 g2 x2 x3).bind (fun r_11 => (G.impl_Group_times.f g1 g2 x1 r_11).bind (fun r_12 => (bif (r_10 != r_12) then some (.ret (.ret (.ret (false)))) else some (.next (w64 (x3 + 1)))))))) else some (.brk x3))

def impl_IsGroup.b1 (r_7 : Int) (g1 : Int) (g2 : Nat → UInt8) (x1 : Int) : Int → Option (LR Int (LR Int Bool)) := fun x2 => (bif (decide (x2 < r_7)) then (G.impl_Group_n.f g1 g2).bind (fun r_8 => (loop (impl_IsGroup.b0 r_8 g1 g2 x1 x2) 0).bind (ln (fun x3 => some (.next (w64 (x2 + 1)))))) else some (.brk x2))

def impl_IsGroup.b2 (r_3 : Int) (g1 : Int) (g2 : Nat → UInt8) : Int → Option (LR Int Bool) := fun x1 => (bif (decide (x1 < r_3)) then (G.impl_Group_times.f g1 g2 0 x1).bind (fun r_4 => (bif (r_4 != x1) then some true else (G.impl_Group_times.f g1 g2 x1 0).bind (fun r_5 => some (r_5 != x1))).bind (fun b_3 => (bif b_3 then some true else (G.impl_Group_inverse.f g1 g2 x1).bind (fun r_6 => some (decide (r_6 < 0)))).bind (fun b_4 => (bif b_4 then some (.ret (false)) else (G.impl_Group_n.f g1 g2).bind (fun r_7 => (loop (impl_IsGroup.b1 r_7 g1 g2 x1) 0).bind (ln (fun x2 => some (.next (w64 (x1 + 1)))))))))) else some (.brk x1))

def impl_IsGroup.f (g1 : Int) (g2 : Nat → UInt8) : Option Bool := (G.impl_in.f g1 1 6).bind (fun r_1 => (bif (!r_1) then some true else (G.impl_Group_entriesOk.f g1 g2).bind (fun r_2 => some (!r_2))).bind (fun b_2 => (bif b_2 then some false else (G.impl_Group_n.f g1 g2).bind (fun r_3 => (loop (impl_IsGroup.b2 r_3 g1 g2) 0).bind (ln (fun x1 => some true))))))

def impl_IsGroup.R (r : Bool) (v : Value) (L : List Asn) : Prop := v = .bool r ∧ L = []

set_option maxRecDepth 100000 in
set_option maxHeartbeats 4000000 in
theorem impl_IsGroup.calls (w : World) (g1 : Int) (g2 : Nat → UInt8) :
    ∀ r, impl_IsGroup.f g1 g2 = some r → Calls Try.prog 64 #[sval [.one (.int .i64 g1), .arr 36 (enf u8v g2)]] w (Ret w (impl_IsGroup.R r)) := by

  refine calls_T (n := 55) (Γ := [(0, sval [.one (.int .i64 g1), .arr 36 (enf u8v g2)])]) (R := impl_IsGroup.R) Try.func64 rfl rfl (Nat.le_of_ble_eq_true rfl) ⟨rfl, trivial⟩ ?_
  unfold impl_IsGroup.f
  refine TC.seq ?_
  refine TC.region ?_
  refine TL.box [.one (.int .i64 g1), .arr 36 (enf u8v g2)] rfl rfl rfl rfl fun b_1 => ?_
  refine TL.assign rfl rfl (v := .bool false) rfl ?_
  refine TL.done ?_
  refine TC.seq ?_
  refine TC.seq ?_
  refine TC.region ?_
  refine TL.fa Try.underlying37 rfl Try.sizeOf2 rfl 0 rfl rfl rfl rfl ?_
  refine TL.load1 0 (Src.box 0 rfl) Try.isAgg2 rfl rfl rfl rfl rfl ?_
  refine TL.call (R := G.impl_in.R) Try.call57 rfl rfl rfl (fun w hS => G.impl_in.calls w g1 1 6) ?_
  rintro r_1 _ _ ⟨rfl, rfl⟩
  refine TL.not r_1 rfl rfl rfl ?_
  refine TL.move rfl rfl (v := .bool (!r_1)) rfl ?_
  refine TL.cutJ (σ := Bool) (γ := Unit) (Γ' := fun b_2 _ => [(13, .bool b_2), (0, sval [.one (.int .i64 g1), .arr 36 (enf u8v g2)]), (1, bp b_1 0), (2, .bool false), (6, bp b_1 0), (7, .int .i64 g1), (8, .bool r_1), (9, .bool (!r_1)), (10, .bool (!r_1))]) (L' := fun _ _ => [box b_1 37 [.one (.int .i64 g1), .arr 36 (enf u8v g2)]]) 3 ?_ ?_
  · refine TL.ifb (t := 10) (b := (!r_1)) rfl (fun c1 => ?_) (fun c2 => ?_)
    · refine TL.skip rfl rfl (by decide) ?_
      refine TL.skip rfl rfl (by decide) ?_
      refine TL.pick rfl rfl (b := true) rfl (r := .bool true) rfl ?_
      refine TL.done ?_
      exact TC.nrm (true) () ⟨rfl, rfl, rfl, rfl, rfl, rfl, rfl, rfl, (by rw [c1]; rfl), trivial⟩ [0] rfl
    · refine TL.call (R := G.impl_Group_entriesOk.R) Try.call114 rfl rfl rfl (fun w hS => G.impl_Group_entriesOk.calls w b_1 g1 g2 ((Src.box 0 rfl) w hS)) ?_
      rintro r_2 _ _ ⟨rfl, rfl⟩
      refine TL.not r_2 rfl rfl rfl ?_
      refine TL.pick rfl rfl (b := false) rfl (r := .bool (!r_2)) rfl ?_
      refine TL.done ?_
      exact TC.nrm ((!r_2)) () ⟨rfl, rfl, rfl, rfl, rfl, rfl, rfl, rfl, (by rw [c2]; rfl), trivial⟩ [0] rfl
  · rintro b_2 _
    refine TL.done ?_
    refine TC.cond (b := b_2) rfl (fun c3 => ?_) (fun c4 => ?_)
    · refine TC.seq ?_
      refine TC.region ?_
      refine TL.assign rfl rfl (v := .bool false) rfl ?_
      refine TL.done ?_
      exact TC.retF (Fin.body (fin1 (.inr rfl) rfl (.tmp rfl) [] rfl ⟨rfl, rfl⟩))
    · refine TC.skip ?_
      refine TC.seq ?_
      refine TC.seq ?_
      refine TC.region ?_
      refine TL.call (R := G.impl_Group_n.R) Try.call65 rfl rfl rfl (fun w hS => G.impl_Group_n.calls w b_1 g1 g2 ((Src.box 0 rfl) w hS)) ?_
      rintro r_3 _ _ ⟨rfl, rfl⟩
      refine TL.move rfl rfl (v := .int .i64 0) rfl ?_
      refine TL.done ?_
      refine TC.loopK (σ := Int) (γ := Unit) (Γ' := (fun x1 _ => [(1, bp b_1 0), (14, .int .i64 r_3), (15, .int .i64 x1)])) (L' := (fun x1 _ => [box b_1 37 [.one (.int .i64 g1), .arr 36 (enf u8v g2)]])) (Γb := (fun x1 _ => [(1, bp b_1 0), (14, .int .i64 r_3), (15, .int .i64 x1)])) (Lb := (fun x1 _ => [box b_1 37 [.one (.int .i64 g1), .arr 36 (enf u8v g2)]])) (0) (()) ⟨rfl, rfl, rfl, trivial⟩ [0] rfl ?_ ?_
      · rintro x1 _
        refine TC.seq ?_
        refine TC.region ?_
        refine TL.bin .i64 x1 r_3 rfl rfl rfl rfl (v := .bool (decide (x1 < r_3))) rfl ?_
        refine TL.done ?_
        refine TC.seq ?_
        refine TC.cond (b := (decide (x1 < r_3))) rfl (fun c5 => ?_) (fun c6 => ?_)
        · refine TC.skip ?_
          refine TC.seq ?_
          refine TC.block (NoEx.loop rfl NoEx.body) ?_
          refine TC.seq ?_
          refine TC.region ?_
          refine TL.move rfl rfl (v := .int .i64 x1) rfl ?_
          refine TL.assign rfl rfl (v := .int .i64 x1) rfl ?_
          refine TL.done ?_
          refine TC.seq ?_
          refine TC.seq ?_
          refine TC.region ?_
          refine TL.move rfl rfl (v := .int .i64 x1) rfl ?_
          refine TL.call (R := G.impl_Group_times.R) Try.call66 rfl rfl rfl (fun w hS => G.impl_Group_times.calls w b_1 g1 g2 0 x1 ((Src.box 0 rfl) w hS)) ?_
          rintro r_4 _ _ ⟨rfl, rfl⟩
          refine TL.move rfl rfl (v := .int .i64 x1) rfl ?_
          refine TL.bin .i64 r_4 x1 rfl rfl rfl rfl (v := .bool (r_4 != x1)) rfl ?_
          refine TL.move rfl rfl (v := .bool (r_4 != x1)) rfl ?_
          refine TL.cutJ (σ := Bool) (γ := Unit) (Γ' := fun b_3 _ => [(27, .bool b_3), (1, bp b_1 0), (14, .int .i64 r_3), (15, .int .i64 x1), (16, .bool (decide (x1 < r_3))), (17, .int .i64 x1), (3, .int .i64 x1), (18, .int .i64 x1), (19, .int .i64 r_4), (20, .int .i64 x1), (21, .bool (r_4 != x1)), (22, .bool (r_4 != x1))]) (L' := fun _ _ => [box b_1 37 [.one (.int .i64 g1), .arr 36 (enf u8v g2)]]) 5 ?_ ?_
          · refine TL.ifb (t := 22) (b := (r_4 != x1)) rfl (fun c7 => ?_) (fun c8 => ?_)
            · refine TL.skip rfl rfl (by decide) ?_
              refine TL.skip rfl rfl (by decide) ?_
              refine TL.skip rfl rfl (by decide) ?_
              refine TL.skip rfl rfl (by decide) ?_
              refine TL.pick rfl rfl (b := true) rfl (r := .bool true) rfl ?_
              refine TL.done ?_
              exact TC.nrm (true) () ⟨rfl, rfl, rfl, rfl, rfl, rfl, rfl, rfl, rfl, rfl, rfl, (by rw [c7]; rfl), trivial⟩ [0] rfl
            · refine TL.move rfl rfl (v := .int .i64 x1) rfl ?_
              refine TL.call (R := G.impl_Group_times.R) Try.call66 rfl rfl rfl (fun w hS => G.impl_Group_times.calls w b_1 g1 g2 x1 0 ((Src.box 0 rfl) w hS)) ?_
              rintro r_5 _ _ ⟨rfl, rfl⟩
              refine TL.move rfl rfl (v := .int .i64 x1) rfl ?_
              refine TL.bin .i64 r_5 x1 rfl rfl rfl rfl (v := .bool (r_5 != x1)) rfl ?_
              refine TL.pick rfl rfl (b := false) rfl (r := .bool (r_5 != x1)) rfl ?_
              refine TL.done ?_
              exact TC.nrm ((r_5 != x1)) () ⟨rfl, rfl, rfl, rfl, rfl, rfl, rfl, rfl, rfl, rfl, rfl, (by rw [c8]; rfl), trivial⟩ [0] rfl
          · rintro b_3 _
            refine TL.move rfl rfl (v := .bool b_3) rfl ?_
            refine TL.cutJ (σ := Bool) (γ := Unit) (Γ' := fun b_4 _ => [(32, .bool b_4), (1, bp b_1 0), (14, .int .i64 r_3), (15, .int .i64 x1), (16, .bool (decide (x1 < r_3))), (17, .int .i64 x1), (3, .int .i64 x1), (18, .int .i64 x1), (19, .int .i64 r_4), (20, .int .i64 x1), (21, .bool (r_4 != x1)), (22, .bool (r_4 != x1)), (27, .bool b_3), (28, .bool b_3)]) (L' := fun _ _ => [box b_1 37 [.one (.int .i64 g1), .arr 36 (enf u8v g2)]]) 4 ?_ ?_
            · refine TL.ifb (t := 28) (b := b_3) rfl (fun c9 => ?_) (fun c10 => ?_)
              · refine TL.skip rfl rfl (by decide) ?_
                refine TL.skip rfl rfl (by decide) ?_
                refine TL.skip rfl rfl (by decide) ?_
                refine TL.pick rfl rfl (b := true) rfl (r := .bool true) rfl ?_
                refine TL.done ?_
                exact TC.nrm (true) () ⟨rfl, rfl, rfl, rfl, rfl, rfl, rfl, rfl, rfl, rfl, rfl, rfl, rfl, (by rw [c9]; rfl), trivial⟩ [0] rfl
              · refine TL.move rfl rfl (v := .int .i64 x1) rfl ?_
                refine TL.call (R := G.impl_Group_inverse.R) Try.call72 rfl rfl rfl (fun w hS => G.impl_Group_inverse.calls w b_1 g1 g2 x1 ((Src.box 0 rfl) w hS)) ?_
                rintro r_6 _ _ ⟨rfl, rfl⟩
                refine TL.bin .i64 r_6 0 rfl rfl rfl rfl (v := .bool (decide (r_6 < 0))) rfl ?_
                refine TL.pick rfl rfl (b := false) rfl (r := .bool (decide (r_6 < 0))) rfl ?_
                refine TL.done ?_
                exact TC.nrm ((decide (r_6 < 0))) () ⟨rfl, rfl, rfl, rfl, rfl, rfl, rfl, rfl, rfl, rfl, rfl, rfl, rfl, (by rw [c10]; rfl), trivial⟩ [0] rfl
            · rintro b_4 _
              refine TL.done ?_
              refine TC.cond (b := b_4) rfl (fun c11 => ?_) (fun c12 => ?_)
              · refine TC.seq ?_
                refine TC.region ?_
                refine TL.assign rfl rfl (v := .bool false) rfl ?_
                refine TL.done ?_
                exact TC.retF (Fin.loop Far.ret (Fin.body (fin1 (.inr rfl) rfl (.tmp rfl) [] rfl ⟨rfl, rfl⟩)))
              · refine TC.skip ?_
                refine TC.seq ?_
                refine TC.region ?_
                refine TL.call (R := G.impl_Group_n.R) Try.call65 rfl rfl rfl (fun w hS => G.impl_Group_n.calls w b_1 g1 g2 ((Src.box 0 rfl) w hS)) ?_
                rintro r_7 _ _ ⟨rfl, rfl⟩
                refine TL.move rfl rfl (v := .int .i64 0) rfl ?_
                refine TL.done ?_
                refine TC.loopK (σ := Int) (γ := Unit) (Γ' := (fun x2 _ => [(1, bp b_1 0), (3, .int .i64 x1), (14, .int .i64 r_3), (15, .int .i64 x1), (33, .int .i64 r_7), (34, .int .i64 x2)])) (L' := (fun x2 _ => [box b_1 37 [.one (.int .i64 g1), .arr 36 (enf u8v g2)]])) (Γb := (fun x2 _ => [(1, bp b_1 0), (3, .int .i64 x1), (14, .int .i64 r_3), (15, .int .i64 x1), (33, .int .i64 r_7), (34, .int .i64 x2)])) (Lb := (fun x2 _ => [box b_1 37 [.one (.int .i64 g1), .arr 36 (enf u8v g2)]])) (0) (()) ⟨rfl, rfl, rfl, rfl, rfl, rfl, trivial⟩ [0] rfl ?_ ?_
                · rintro x2 _
                  refine TC.seq ?_
                  refine TC.region ?_
                  refine TL.bin .i64 x2 r_7 rfl rfl rfl rfl (v := .bool (decide (x2 < r_7))) rfl ?_
                  refine TL.done ?_
                  refine TC.seq ?_
                  refine TC.cond (b := (decide (x2 < r_7))) rfl (fun c13 => ?_) (fun c14 => ?_)
                  · refine TC.skip ?_
                    refine TC.seq ?_
                    refine TC.block (NoEx.loop rfl (NoEx.loop rfl NoEx.body)) ?_
                    refine TC.seq ?_
                    refine TC.region ?_
                    refine TL.move rfl rfl (v := .int .i64 x2) rfl ?_
                    refine TL.assign rfl rfl (v := .int .i64 x2) rfl ?_
                    refine TL.done ?_
                    refine TC.seq ?_
                    refine TC.region ?_
                    refine TL.call (R := G.impl_Group_n.R) Try.call65 rfl rfl rfl (fun w hS => G.impl_Group_n.calls w b_1 g1 g2 ((Src.box 0 rfl) w hS)) ?_
                    rintro r_8 _ _ ⟨rfl, rfl⟩
                    refine TL.move rfl rfl (v := .int .i64 0) rfl ?_
                    refine TL.done ?_
                    refine TC.loopK (σ := Int) (γ := Unit) (Γ' := (fun x3 _ => [(1, bp b_1 0), (3, .int .i64 x1), (4, .int .i64 x2), (14, .int .i64 r_3), (15, .int .i64 x1), (33, .int .i64 r_7), (34, .int .i64 x2), (37, .int .i64 r_8), (38, .int .i64 x3)])) (L' := (fun x3 _ => [box b_1 37 [.one (.int .i64 g1), .arr 36 (enf u8v g2)]])) (Γb := (fun x3 _ => [(1, bp b_1 0), (3, .int .i64 x1), (4, .int .i64 x2), (14, .int .i64 r_3), (15, .int .i64 x1), (33, .int .i64 r_7), (34, .int .i64 x2), (37, .int .i64 r_8), (38, .int .i64 x3)])) (Lb := (fun x3 _ => [box b_1 37 [.one (.int .i64 g1), .arr 36 (enf u8v g2)]])) (0) (()) ⟨rfl, rfl, rfl, rfl, rfl, rfl, rfl, rfl, rfl, trivial⟩ [0] rfl ?_ ?_
                    · rintro x3 _
                      refine TC.seq ?_
                      refine TC.region ?_
                      refine TL.bin .i64 x3 r_8 rfl rfl rfl rfl (v := .bool (decide (x3 < r_8))) rfl ?_
                      refine TL.done ?_
                      refine TC.seq ?_
                      refine TC.cond (b := (decide (x3 < r_8))) rfl (fun c15 => ?_) (fun c16 => ?_)
                      · refine TC.skip ?_
                        refine TC.seq ?_
                        refine TC.block (NoEx.loop rfl (NoEx.loop rfl (NoEx.loop rfl NoEx.body))) ?_
                        refine TC.seq ?_
                        refine TC.region ?_
                        refine TL.move rfl rfl (v := .int .i64 x3) rfl ?_
                        refine TL.assign rfl rfl (v := .int .i64 x3) rfl ?_
                        refine TL.done ?_
                        refine TC.seq ?_
                        refine TC.region ?_
                        refine TL.move rfl rfl (v := .int .i64 x1) rfl ?_
                        refine TL.move rfl rfl (v := .int .i64 x2) rfl ?_
                        refine TL.call (R := G.impl_Group_times.R) Try.call66 rfl rfl rfl (fun w hS => G.impl_Group_times.calls w b_1 g1 g2 x1 x2 ((Src.box 0 rfl) w hS)) ?_
                        rintro r_9 _ _ ⟨rfl, rfl⟩
                        refine TL.move rfl rfl (v := .int .i64 x3) rfl ?_
                        refine TL.call (R := G.impl_Group_times.R) Try.call66 rfl rfl rfl (fun w hS => G.impl_Group_times.calls w b_1 g1 g2 r_9 x3 ((Src.box 0 rfl) w hS)) ?_
                        rintro r_10 _ _ ⟨rfl, rfl⟩
                        refine TL.move rfl rfl (v := .int .i64 x1) rfl ?_
                        refine TL.move rfl rfl (v := .int .i64 x2) rfl ?_
                        refine TL.move rfl rfl (v := .int .i64 x3) rfl ?_
                        refine TL.call (R := G.impl_Group_times.R) Try.call66 rfl rfl rfl (fun w hS => G.impl_Group_times.calls w b_1 g1 g2 x2 x3 ((Src.box 0 rfl) w hS)) ?_
                        rintro r_11 _ _ ⟨rfl, rfl⟩
                        refine TL.call (R := G.impl_Group_times.R) Try.call66 rfl rfl rfl (fun w hS => G.impl_Group_times.calls w b_1 g1 g2 x1 r_11 ((Src.box 0 rfl) w hS)) ?_
                        rintro r_12 _ _ ⟨rfl, rfl⟩
                        refine TL.bin .i64 r_10 r_12 rfl rfl rfl rfl (v := .bool (r_10 != r_12)) rfl ?_
                        refine TL.done ?_
                        refine TC.cond (b := (r_10 != r_12)) rfl (fun c17 => ?_) (fun c18 => ?_)
                        · refine TC.seq ?_
                          refine TC.region ?_
                          refine TL.assign rfl rfl (v := .bool false) rfl ?_
                          refine TL.done ?_
                          exact TC.retF (Fin.loop Far.ret (Fin.loop Far.ret (Fin.loop Far.ret (Fin.body (fin1 (.inr rfl) rfl (.tmp rfl) [] rfl ⟨rfl, rfl⟩)))))
                        · refine TC.skip ?_
                          refine TC.region ?_
                          refine TL.bin .i64 x3 1 rfl rfl rfl rfl (v := .int .i64 (w64 (x3 + 1))) rfl ?_
                          refine TL.move rfl rfl (v := .int .i64 (w64 (x3 + 1))) rfl ?_
                          refine TL.done ?_
                          exact TC.next ((w64 (x3 + 1))) (()) ⟨rfl, rfl, rfl, rfl, rfl, rfl, rfl, rfl, rfl, trivial⟩ [0] rfl
                      · exact TC.brk (x3) (()) ⟨rfl, rfl, rfl, rfl, rfl, rfl, rfl, rfl, rfl, trivial⟩ [0] rfl
                    · rintro x3 _
                      refine TC.region ?_
                      refine TL.bin .i64 x2 1 rfl rfl rfl rfl (v := .int .i64 (w64 (x2 + 1))) rfl ?_
                      refine TL.move rfl rfl (v := .int .i64 (w64 (x2 + 1))) rfl ?_
                      refine TL.done ?_
                      exact TC.next ((w64 (x2 + 1))) (()) ⟨rfl, rfl, rfl, rfl, rfl, rfl, trivial⟩ [0] rfl
                  · exact TC.brk (x2) (()) ⟨rfl, rfl, rfl, rfl, rfl, rfl, trivial⟩ [0] rfl
                · rintro x2 _
                  refine TC.region ?_
                  refine TL.bin .i64 x1 1 rfl rfl rfl rfl (v := .int .i64 (w64 (x1 + 1))) rfl ?_
                  refine TL.move rfl rfl (v := .int .i64 (w64 (x1 + 1))) rfl ?_
                  refine TL.done ?_
                  exact TC.next ((w64 (x1 + 1))) (()) ⟨rfl, rfl, rfl, trivial⟩ [0] rfl
        · exact TC.brk (x1) (()) ⟨rfl, rfl, rfl, trivial⟩ [0] rfl
      · rintro x1 _
        refine TC.seq ?_
        refine TC.region ?_
        refine TL.assign rfl rfl (v := .bool true) rfl ?_
        refine TL.done ?_
        exact TC.retF (Fin.body (fin1 (.inr rfl) rfl (.tmp rfl) [] rfl ⟨rfl, rfl⟩))

end Go.Proofs.Ytcombgcjgdkbiaa.G
