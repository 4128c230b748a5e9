/- laws.FnExactIsSurface, as a pure function. -/
import Derived.Test.YtgljkechjkllgaaProg
import Derived.Test.YtgljkechjkllgaaSx9
import Derived.Test.YtgljkechjkllgaaQ21
import Derived.Test.YtgljkechjkllgaaQ38
import Derived.Test.YtgljkechjkllgaaQ39
import Derived.Test.YtgljkechjkllgaaQ40
import Derived.Test.YtgljkechjkllgaaQ41
set_option linter.unusedVariables false
namespace Go.Proofs.Ytgljkechjkllgaa.G
open Go Go.Sx Go.Proofs

def laws_FnExactIsSurface.f (aS1 : List (List Int)) : Option Bool := (G.laws_szInt64SS.f aS1 1048576).bind (fun r_1 => (bif (decide (r_1 < 0)) then some true else (G.laws_toInt64SS.f aS1).bind (fun r_2 => (G.spec_IsSurface.f r_2).bind (fun r_3 => (G.laws_toInt64SS.f aS1).bind (fun r_4 => (G.impl_IsSurface.f r_4).bind (fun r_5 => (bif (r_5 != r_3) then some false else (G.laws_toInt64SS.f aS1).bind (fun r_6 => (G.laws_eqInt64SS.f r_4 r_6).bind (fun r_7 => (bif (!r_7) then some false else some true))))))))))

def laws_FnExactIsSurface.R (r : Bool) (v : Value) (L : List Asn) : Prop := v = .bool r ∧ L = []

set_option maxRecDepth 100000 in
set_option maxHeartbeats 4000000 in
theorem laws_FnExactIsSurface.calls (w : World) (s1 : SV) (ss1 : List SV) (aS1 : List (List Int)) (h1 : ReadsM Ei (hp w) s1 ss1 aS1) :
    ∀ r, laws_FnExactIsSurface.f aS1 = some r → Calls Try.prog 10 #[SV.v s1] w (Ret w (laws_FnExactIsSurface.R r)) := by

  refine calls_T (n := 27) (Γ := [(0, SV.v s1)]) (R := laws_FnExactIsSurface.R) Try.func10 rfl rfl (Nat.le_of_ble_eq_true rfl) ⟨rfl, trivial⟩ ?_
  unfold laws_FnExactIsSurface.f
  refine TC.seq ?_
  refine TC.region ?_
  refine TL.assign rfl rfl (v := .bool false) rfl ?_
  refine TL.done ?_
  refine TC.seq ?_
  refine TC.region ?_
  refine TL.assign rfl rfl (v := .int .i64 1048576) rfl ?_
  refine TL.done ?_
  refine TC.seq ?_
  refine TC.region ?_
  refine TL.move rfl rfl (v := SV.v s1) rfl ?_
  refine TL.move rfl rfl (v := .int .i64 1048576) rfl ?_
  refine TL.call (R := G.laws_szInt64SS.R) Try.call38 rfl rfl rfl (fun w hS => G.laws_szInt64SS.calls w s1 ss1 aS1 1048576 ((RdM.old h1) w hS)) ?_
  rintro r_1 _ _ ⟨rfl, rfl⟩
  refine TL.assign rfl rfl (v := .int .i64 r_1) rfl ?_
  refine TL.done ?_
  refine TC.seq ?_
  refine TC.seq ?_
  refine TC.region ?_
  refine TL.move rfl rfl (v := .int .i64 r_1) rfl ?_
  refine TL.bin .i64 r_1 0 rfl rfl rfl rfl (v := .bool (decide (r_1 < 0))) rfl ?_
  refine TL.done ?_
  refine TC.cond (b := (decide (r_1 < 0))) rfl (fun c1 => ?_) (fun c2 => ?_)
  · refine TC.seq ?_
    refine TC.region ?_
    refine TL.assign rfl rfl (v := .bool true) rfl ?_
    refine TL.done ?_
    exact TC.retF (Fin.body (fin1 (.inr rfl) rfl (.tmp rfl) [] rfl ⟨rfl, rfl⟩))
  · refine TC.skip ?_
    refine TC.seq ?_
    refine TC.region ?_
    refine TL.move rfl rfl (v := SV.v s1) rfl ?_
    refine TL.call (R := G.laws_toInt64SS.R) Try.call40 rfl rfl rfl (fun w hS => G.laws_toInt64SS.calls w s1 ss1 aS1 ((RdM.old h1) w hS)) ?_
    rintro r_2 _ _ ⟨s2, ss2, rfl, rfl⟩
    refine TL.call (R := G.spec_IsSurface.R) Try.call39 rfl rfl rfl (fun w hS => G.spec_IsSurface.calls w s2 ss2 r_2 ((RdM.mat 0 rfl) w hS)) ?_
    rintro r_3 _ _ ⟨rfl, rfl⟩
    refine TL.assign rfl rfl (v := .bool r_3) rfl ?_
    refine TL.done ?_
    refine TC.seq ?_
    refine TC.region ?_
    refine TL.move rfl rfl (v := SV.v s1) rfl ?_
    refine TL.call (R := G.laws_toInt64SS.R) Try.call40 rfl rfl rfl (fun w hS => G.laws_toInt64SS.calls w s1 ss1 aS1 ((RdM.old h1) w hS)) ?_
    rintro r_4 _ _ ⟨s3, ss3, rfl, rfl⟩
    refine TL.assign rfl rfl (v := SV.v s3) rfl ?_
    refine TL.done ?_
    refine TC.seq ?_
    refine TC.region ?_
    refine TL.move rfl rfl (v := SV.v s3) rfl ?_
    refine TL.call (R := G.impl_IsSurface.R) Try.call41 rfl rfl rfl (fun w hS => G.impl_IsSurface.calls w s3 ss3 r_4 ((RdM.mat 0 rfl) w hS)) ?_
    rintro r_5 _ _ ⟨rfl, rfl⟩
    refine TL.assign rfl rfl (v := .bool r_5) rfl ?_
    refine TL.done ?_
    refine TC.seq ?_
    refine TC.seq ?_
    refine TC.region ?_
    refine TL.move rfl rfl (v := .bool r_5) rfl ?_
    refine TL.move rfl rfl (v := .bool r_3) rfl ?_
    refine TL.boolNe r_5 r_3 Try.underlying4 rfl rfl rfl rfl ?_
    refine TL.done ?_
    refine TC.cond (b := (r_5 != r_3)) rfl (fun c3 => ?_) (fun c4 => ?_)
    · refine TC.seq ?_
      refine TC.region ?_
      refine TL.assign rfl rfl (v := .bool false) rfl ?_
      refine TL.done ?_
      exact TC.retF (Fin.body (fin1 (.inr rfl) rfl (.tmp rfl) [] rfl ⟨rfl, rfl⟩))
    · refine TC.skip ?_
      refine TC.seq ?_
      refine TC.seq ?_
      refine TC.region ?_
      refine TL.move rfl rfl (v := SV.v s3) rfl ?_
      refine TL.move rfl rfl (v := SV.v s1) rfl ?_
      refine TL.call (R := G.laws_toInt64SS.R) Try.call40 rfl rfl rfl (fun w hS => G.laws_toInt64SS.calls w s1 ss1 aS1 ((RdM.old h1) w hS)) ?_
      rintro r_6 _ _ ⟨s4, ss4, rfl, rfl⟩
      refine TL.call (R := G.laws_eqInt64SS.R) Try.call21 rfl rfl rfl (fun w hS => G.laws_eqInt64SS.calls w s3 ss3 r_4 s4 ss4 r_6 ((RdM.mat 1 rfl) w hS) ((RdM.mat 0 rfl) w hS)) ?_
      rintro r_7 _ _ ⟨rfl, rfl⟩
      refine TL.not r_7 rfl rfl rfl ?_
      refine TL.done ?_
      refine TC.cond (b := (!r_7)) rfl (fun c5 => ?_) (fun c6 => ?_)
      · refine TC.seq ?_
        refine TC.region ?_
        refine TL.assign rfl rfl (v := .bool false) rfl ?_
        refine TL.done ?_
        exact TC.retF (Fin.body (fin1 (.inr rfl) rfl (.tmp rfl) [] rfl ⟨rfl, rfl⟩))
      · refine TC.skip ?_
        refine TC.seq ?_
        refine TC.region ?_
        refine TL.assign rfl rfl (v := .bool true) rfl ?_
        refine TL.done ?_
        exact TC.retF (Fin.body (fin1 (.inr rfl) rfl (.tmp rfl) [] rfl ⟨rfl, rfl⟩))

end Go.Proofs.Ytgljkechjkllgaa.G
