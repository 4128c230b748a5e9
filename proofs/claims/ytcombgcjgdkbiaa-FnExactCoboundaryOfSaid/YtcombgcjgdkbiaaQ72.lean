/- impl.Group).inverse, as a pure function. -/
import Derived.Test.YtcombgcjgdkbiaaProg
import Derived.Test.YtcombgcjgdkbiaaSx9
import Derived.Test.YtcombgcjgdkbiaaQ65
import Derived.Test.YtcombgcjgdkbiaaQ66
set_option linter.unusedVariables false
namespace Go.Proofs.Ytcombgcjgdkbiaa.G
open Go Go.Sx Go.Proofs

def impl_Group_inverse.b0 (r_1 : Int) (g1 : Int) (g2 : Nat → UInt8) (i1 : Int) : Int → Option (LR Int Int) := fun x1 => (bif (decide (x1 < r_1)) then (G.impl_Group_times.f g1 g2 i1 x1).bind (fun r_2 => (bif (r_2 == 0) then (G.impl_Group_times.f g1 g2 x1 i1).bind (fun r_3 => some (r_3 == 0)) else some false).bind (fun b_2 => (bif b_2 then some (.ret (x1)) else some (.next (w64 (x1 + 1)))))) else some (.brk x1))

def impl_Group_inverse.f (g1 : Int) (g2 : Nat → UInt8) (i1 : Int) : Option Int := (G.impl_Group_n.f g1 g2).bind (fun r_1 => (loop (impl_Group_inverse.b0 r_1 g1 g2 i1) 0).bind (ln (fun x1 => some (-1))))

def impl_Group_inverse.R (r : Int) (v : Value) (L : List Asn) : Prop := v = .int .i64 r ∧ L = []

set_option maxRecDepth 100000 in
set_option maxHeartbeats 4000000 in
theorem impl_Group_inverse.calls (w : World) (b_1 : Nat) (g1 : Int) (g2 : Nat → UInt8) (i1 : Int) (h1 : At (hp w) b_1 [.one (.int .i64 g1), .arr 36 (enf u8v g2)]) :
    ∀ r, impl_Group_inverse.f g1 g2 i1 = some r → Calls Try.prog 72 #[bp b_1 0, .int .i64 i1] w (Ret w (impl_Group_inverse.R r)) := by

  refine calls_T (n := 25) (Γ := [(0, bp b_1 0), (1, .int .i64 i1)]) (R := impl_Group_inverse.R) Try.func72 rfl rfl (Nat.le_of_ble_eq_true rfl) ⟨rfl, rfl, trivial⟩ ?_
  unfold impl_Group_inverse.f
  refine TC.seq ?_
  refine TC.region ?_
  refine TL.assign rfl rfl (v := .int .i64 0) rfl ?_
  refine TL.done ?_
  refine TC.seq ?_
  refine TC.seq ?_
  refine TC.region ?_
  refine TL.move rfl rfl (v := bp b_1 0) rfl ?_
  refine TL.call (R := G.impl_Group_n.R) Try.call65 rfl rfl rfl (fun w hS => G.impl_Group_n.calls w b_1 g1 g2 ((Src.at h1) w hS)) ?_
  rintro r_1 _ _ ⟨rfl, rfl⟩
  refine TL.move rfl rfl (v := .int .i64 0) rfl ?_
  refine TL.done ?_
  refine TC.loopK (σ := Int) (γ := Unit) (Γ' := (fun x1 _ => [(0, bp b_1 0), (1, .int .i64 i1), (7, .int .i64 r_1), (8, .int .i64 x1)])) (L' := (fun x1 _ => [])) (Γb := (fun x1 _ => [(0, bp b_1 0), (1, .int .i64 i1), (7, .int .i64 r_1), (8, .int .i64 x1)])) (Lb := (fun x1 _ => [])) (0) (()) ⟨rfl, rfl, rfl, rfl, trivial⟩ [] rfl ?_ ?_
  · rintro x1 _
    refine TC.seq ?_
    refine TC.region ?_
    refine TL.bin .i64 x1 r_1 rfl rfl rfl rfl (v := .bool (decide (x1 < r_1))) rfl ?_
    refine TL.done ?_
    refine TC.seq ?_
    refine TC.cond (b := (decide (x1 < r_1))) rfl (fun c1 => ?_) (fun c2 => ?_)
    · refine TC.skip ?_
      refine TC.seq ?_
      refine TC.block (NoEx.loop rfl NoEx.body) ?_
      refine TC.seq ?_
      refine TC.region ?_
      refine TL.move rfl rfl (v := .int .i64 x1) rfl ?_
      refine TL.assign rfl rfl (v := .int .i64 x1) rfl ?_
      refine TL.done ?_
      refine TC.seq ?_
      refine TC.region ?_
      refine TL.move rfl rfl (v := bp b_1 0) rfl ?_
      refine TL.move rfl rfl (v := .int .i64 i1) rfl ?_
      refine TL.move rfl rfl (v := .int .i64 x1) rfl ?_
      refine TL.call (R := G.impl_Group_times.R) Try.call66 rfl rfl rfl (fun w hS => G.impl_Group_times.calls w b_1 g1 g2 i1 x1 ((Src.at h1) w hS)) ?_
      rintro r_2 _ _ ⟨rfl, rfl⟩
      refine TL.bin .i64 r_2 0 rfl rfl rfl rfl (v := .bool (r_2 == 0)) rfl ?_
      refine TL.move rfl rfl (v := .bool (r_2 == 0)) rfl ?_
      refine TL.cutJ (σ := Bool) (γ := Unit) (Γ' := fun b_2 _ => [(22, .bool b_2), (0, bp b_1 0), (1, .int .i64 i1), (7, .int .i64 r_1), (8, .int .i64 x1), (9, .bool (decide (x1 < r_1))), (10, .int .i64 x1), (5, .int .i64 x1), (11, bp b_1 0), (12, .int .i64 i1), (13, .int .i64 x1), (14, .int .i64 r_2), (15, .bool (r_2 == 0)), (16, .bool (r_2 == 0))]) (L' := fun _ _ => []) 6 ?_ ?_
      · refine TL.ifb (t := 16) (b := (r_2 == 0)) rfl (fun c3 => ?_) (fun c4 => ?_)
        · refine TL.move rfl rfl (v := bp b_1 0) rfl ?_
          refine TL.move rfl rfl (v := .int .i64 x1) rfl ?_
          refine TL.move rfl rfl (v := .int .i64 i1) rfl ?_
          refine TL.call (R := G.impl_Group_times.R) Try.call66 rfl rfl rfl (fun w hS => G.impl_Group_times.calls w b_1 g1 g2 x1 i1 ((Src.at h1) w hS)) ?_
          rintro r_3 _ _ ⟨rfl, rfl⟩
          refine TL.bin .i64 r_3 0 rfl rfl rfl rfl (v := .bool (r_3 == 0)) rfl ?_
          refine TL.pick rfl rfl (b := true) rfl (r := .bool (r_3 == 0)) rfl ?_
          refine TL.done ?_
          exact TC.nrm ((r_3 == 0)) () ⟨rfl, rfl, rfl, rfl, rfl, rfl, rfl, rfl, rfl, rfl, rfl, rfl, rfl, (by rw [c3]; rfl), trivial⟩ [] rfl
        · refine TL.skip rfl rfl (by decide) ?_
          refine TL.skip rfl rfl (by decide) ?_
          refine TL.skip rfl rfl (by decide) ?_
          refine TL.skip rfl rfl (by decide) ?_
          refine TL.skip rfl rfl (by decide) ?_
          refine TL.pick rfl rfl (b := false) rfl (r := .bool false) rfl ?_
          refine TL.done ?_
          exact TC.nrm (false) () ⟨rfl, rfl, rfl, rfl, rfl, rfl, rfl, rfl, rfl, rfl, rfl, rfl, rfl, (by rw [c4]; rfl), trivial⟩ [] rfl
      · rintro b_2 _
        refine TL.done ?_
        refine TC.cond (b := b_2) rfl (fun c5 => ?_) (fun c6 => ?_)
        · refine TC.seq ?_
          refine TC.region ?_
          refine TL.move rfl rfl (v := .int .i64 x1) rfl ?_
          refine TL.assign rfl rfl (v := .int .i64 x1) rfl ?_
          refine TL.done ?_
          exact TC.retF (Fin.loop Far.ret (Fin.body (fin1 (.inr rfl) rfl (.tmp rfl) [] rfl ⟨rfl, rfl⟩)))
        · refine TC.skip ?_
          refine TC.region ?_
          refine TL.bin .i64 x1 1 rfl rfl rfl rfl (v := .int .i64 (w64 (x1 + 1))) rfl ?_
          refine TL.move rfl rfl (v := .int .i64 (w64 (x1 + 1))) rfl ?_
          refine TL.done ?_
          exact TC.next ((w64 (x1 + 1))) (()) ⟨rfl, rfl, rfl, rfl, trivial⟩ [] rfl
    · exact TC.brk (x1) (()) ⟨rfl, rfl, rfl, rfl, trivial⟩ [] rfl
  · rintro x1 _
    refine TC.seq ?_
    refine TC.region ?_
    refine TL.assign rfl rfl (v := .int .i64 (-1)) rfl ?_
    refine TL.done ?_
    exact TC.retF (Fin.body (fin1 (.inr rfl) rfl (.tmp rfl) [] rfl ⟨rfl, rfl⟩))

end Go.Proofs.Ytcombgcjgdkbiaa.G
