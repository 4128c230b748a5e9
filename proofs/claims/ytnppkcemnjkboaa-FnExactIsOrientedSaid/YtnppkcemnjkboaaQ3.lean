/- laws.FnExactIsOriented, as a pure function. -/
import Derived.Test.YtnppkcemnjkboaaProg
import Derived.Test.YtnppkcemnjkboaaSx9
import Derived.Test.YtnppkcemnjkboaaQ13
import Derived.Test.YtnppkcemnjkboaaQ14
import Derived.Test.YtnppkcemnjkboaaQ15
import Derived.Test.YtnppkcemnjkboaaQ16
import Derived.Test.YtnppkcemnjkboaaQ17
set_option linter.unusedVariables false
namespace Go.Proofs.Ytnppkcemnjkboaa.G
open Go Go.Sx Go.Proofs

def laws_FnExactIsOriented.f (aS1 : List (List Int)) : Option Bool := (G.laws_szInt64SS.f aS1 1048576).bind (fun r_1 => (bif (decide (r_1 < 0)) then some true else (G.laws_toInt64SS.f aS1).bind (fun r_2 => (G.spec_IsOriented.f r_2).bind (fun p => match p with | (r_3, r_4) => (G.laws_toInt64SS.f aS1).bind (fun r_5 => (G.impl_IsOriented.f r_5).bind (fun p => match p with | (r_6, r_7) => (bif ((r_6 != r_3) || (r_7 != r_4)) then some false else (G.laws_toInt64SS.f aS1).bind (fun r_8 => (G.laws_eqInt64SS.f r_5 r_8).bind (fun r_9 => (bif (!r_9) then some false else some true))))))))))

def laws_FnExactIsOriented.R (r : Bool) (v : Value) (L : List Asn) : Prop := v = .bool r ∧ L = []

set_option maxRecDepth 100000 in
set_option maxHeartbeats 4000000 in
theorem laws_FnExactIsOriented.calls (w : World) (s1 : SV) (ss1 : List SV) (aS1 : List (List Int)) (h1 : ReadsM Ei (hp w) s1 ss1 aS1) :
    ∀ r, laws_FnExactIsOriented.f aS1 = some r → Calls Try.prog 3 #[SV.v s1] w (Ret w (laws_FnExactIsOriented.R r)) := by

  refine calls_T (n := 40) (Γ := [(0, SV.v s1)]) (R := laws_FnExactIsOriented.R) Try.func3 rfl rfl (Nat.le_of_ble_eq_true rfl) ⟨rfl, trivial⟩ ?_
  unfold laws_FnExactIsOriented.f
  refine TC.seq ?_
  refine TC.region ?_
  refine TL.assign rfl rfl (v := .bool false) rfl ?_
  refine TL.done ?_
  refine TC.seq ?_
  refine TC.region ?_
  refine TL.assign rfl rfl (v := .int .i64 1048576) rfl ?_
  refine TL.done ?_
  refine TC.seq ?_
  refine TC.region ?_
  refine TL.move rfl rfl (v := SV.v s1) rfl ?_
  refine TL.move rfl rfl (v := .int .i64 1048576) rfl ?_
  refine TL.call (R := G.laws_szInt64SS.R) Try.call13 rfl rfl rfl (fun w hS => G.laws_szInt64SS.calls w s1 ss1 aS1 1048576 ((RdM.old h1) w hS)) ?_
  rintro r_1 _ _ ⟨rfl, rfl⟩
  refine TL.assign rfl rfl (v := .int .i64 r_1) rfl ?_
  refine TL.done ?_
  refine TC.seq ?_
  refine TC.seq ?_
  refine TC.region ?_
  refine TL.move rfl rfl (v := .int .i64 r_1) rfl ?_
  refine TL.bin .i64 r_1 0 rfl rfl rfl rfl (v := .bool (decide (r_1 < 0))) rfl ?_
  refine TL.done ?_
  refine TC.cond (b := (decide (r_1 < 0))) rfl (fun c1 => ?_) (fun c2 => ?_)
  · refine TC.seq ?_
    refine TC.region ?_
    refine TL.assign rfl rfl (v := .bool true) rfl ?_
    refine TL.done ?_
    exact TC.retF (Fin.body (fin1 (.inr rfl) rfl (.tmp rfl) [] rfl ⟨rfl, rfl⟩))
  · refine TC.skip ?_
    refine TC.seq ?_
    refine TC.region ?_
    refine TL.move rfl rfl (v := SV.v s1) rfl ?_
    refine TL.call (R := G.laws_toInt64SS.R) Try.call15 rfl rfl rfl (fun w hS => G.laws_toInt64SS.calls w s1 ss1 aS1 ((RdM.old h1) w hS)) ?_
    rintro r_2 _ _ ⟨s2, ss2, rfl, rfl⟩
    refine TL.call (R := G.spec_IsOriented.R) Try.call14 rfl rfl rfl (fun w hS => G.spec_IsOriented.calls w s2 ss2 r_2 ((RdM.mat 0 rfl) w hS)) ?_
    rintro ⟨r_3, r_4⟩ _ _ ⟨rfl, rfl⟩
    refine TL.move rfl rfl (v := .tuple #[.bool r_3, .int .i64 r_4]) rfl ?_
    refine TL.extract rfl rfl rfl (v := .bool r_3) rfl ?_
    refine TL.extract rfl rfl rfl (v := .int .i64 r_4) rfl ?_
    refine TL.assign rfl rfl (v := .bool r_3) rfl ?_
    refine TL.assign rfl rfl (v := .int .i64 r_4) rfl ?_
    refine TL.done ?_
    refine TC.seq ?_
    refine TC.region ?_
    refine TL.move rfl rfl (v := SV.v s1) rfl ?_
    refine TL.call (R := G.laws_toInt64SS.R) Try.call15 rfl rfl rfl (fun w hS => G.laws_toInt64SS.calls w s1 ss1 aS1 ((RdM.old h1) w hS)) ?_
    rintro r_5 _ _ ⟨s3, ss3, rfl, rfl⟩
    refine TL.assign rfl rfl (v := SV.v s3) rfl ?_
    refine TL.done ?_
    refine TC.seq ?_
    refine TC.region ?_
    refine TL.move rfl rfl (v := SV.v s3) rfl ?_
    refine TL.call (R := G.impl_IsOriented.R) Try.call16 rfl rfl rfl (fun w hS => G.impl_IsOriented.calls w s3 ss3 r_5 ((RdM.mat 0 rfl) w hS)) ?_
    rintro ⟨r_6, r_7⟩ _ _ ⟨rfl, rfl⟩
    refine TL.move rfl rfl (v := .tuple #[.bool r_6, .int .i64 r_7]) rfl ?_
    refine TL.extract rfl rfl rfl (v := .bool r_6) rfl ?_
    refine TL.extract rfl rfl rfl (v := .int .i64 r_7) rfl ?_
    refine TL.assign rfl rfl (v := .bool r_6) rfl ?_
    refine TL.assign rfl rfl (v := .int .i64 r_7) rfl ?_
    refine TL.done ?_
    refine TC.seq ?_
    refine TC.seq ?_
    refine TC.region ?_
    refine TL.move rfl rfl (v := .bool r_6) rfl ?_
    refine TL.move rfl rfl (v := .bool r_3) rfl ?_
    refine TL.boolNe r_6 r_3 Try.underlying4 rfl rfl rfl rfl ?_
    refine TL.move rfl rfl (v := .bool (r_6 != r_3)) rfl ?_
    refine TL.cutU 4 [(34, .bool ((r_6 != r_3) || (r_7 != r_4))), (0, SV.v s1), (2, .bool false), (3, .int .i64 r_1), (9, SV.v s1), (10, .int .i64 1048576), (11, .int .i64 r_1), (12, .int .i64 r_1), (13, .bool (decide (r_1 < 0))), (15, SV.v s1), (16, SV.v s2), (17, .tuple #[.bool r_3, .int .i64 r_4]), (14, .tuple #[.bool r_3, .int .i64 r_4]), (18, .bool r_3), (19, .int .i64 r_4), (4, .bool r_3), (5, .int .i64 r_4), (20, SV.v s1), (21, SV.v s3), (6, SV.v s3), (23, SV.v s3), (24, .tuple #[.bool r_6, .int .i64 r_7]), (22, .tuple #[.bool r_6, .int .i64 r_7]), (25, .bool r_6), (26, .int .i64 r_7), (7, .bool r_6), (8, .int .i64 r_7), (27, .bool r_6), (28, .bool r_3), (29, .bool (r_6 != r_3)), (30, .bool (r_6 != r_3))] [mat Ei 2 53 s3 ss3 r_5, mat Ei 2 53 s2 ss2 r_2] ?_ ?_
    · refine TL.cases (t := 30) (b := (r_6 != r_3)) rfl (fun c3 => ?_) (fun c4 => ?_)
      · refine TL.skip rfl rfl (by decide) ?_
        refine TL.skip rfl rfl (by decide) ?_
        refine TL.skip rfl rfl (by decide) ?_
        refine TL.pick rfl rfl (b := true) rfl (r := .bool true) rfl ?_
        refine TL.done ?_
        exact TC.nrm () () ⟨(by rw [c3]; rfl), rfl, rfl, rfl, rfl, rfl, rfl, rfl, rfl, rfl, rfl, rfl, rfl, rfl, rfl, rfl, rfl, rfl, rfl, rfl, rfl, rfl, rfl, rfl, rfl, rfl, rfl, rfl, rfl, rfl, (by rw [c3]; rfl), trivial⟩ [0, 0] rfl
      · refine TL.move rfl rfl (v := .int .i64 r_7) rfl ?_
        refine TL.move rfl rfl (v := .int .i64 r_4) rfl ?_
        refine TL.bin .i64 r_7 r_4 rfl rfl rfl rfl (v := .bool (r_7 != r_4)) rfl ?_
        refine TL.pick rfl rfl (b := false) rfl (r := .bool (r_7 != r_4)) rfl ?_
        refine TL.done ?_
        exact TC.nrm () () ⟨(by rw [c4]; rfl), rfl, rfl, rfl, rfl, rfl, rfl, rfl, rfl, rfl, rfl, rfl, rfl, rfl, rfl, rfl, rfl, rfl, rfl, rfl, rfl, rfl, rfl, rfl, rfl, rfl, rfl, rfl, rfl, rfl, (by rw [c4]; rfl), trivial⟩ [0, 0] rfl
    · refine TL.done ?_
      refine TC.cond (b := ((r_6 != r_3) || (r_7 != r_4))) rfl (fun c5 => ?_) (fun c6 => ?_)
      · refine TC.seq ?_
        refine TC.region ?_
        refine TL.assign rfl rfl (v := .bool false) rfl ?_
        refine TL.done ?_
        exact TC.retF (Fin.body (fin1 (.inr rfl) rfl (.tmp rfl) [] rfl ⟨rfl, rfl⟩))
      · refine TC.skip ?_
        refine TC.seq ?_
        refine TC.seq ?_
        refine TC.region ?_
        refine TL.move rfl rfl (v := SV.v s3) rfl ?_
        refine TL.move rfl rfl (v := SV.v s1) rfl ?_
        refine TL.call (R := G.laws_toInt64SS.R) Try.call15 rfl rfl rfl (fun w hS => G.laws_toInt64SS.calls w s1 ss1 aS1 ((RdM.old h1) w hS)) ?_
        rintro r_8 _ _ ⟨s4, ss4, rfl, rfl⟩
        refine TL.call (R := G.laws_eqInt64SS.R) Try.call17 rfl rfl rfl (fun w hS => G.laws_eqInt64SS.calls w s3 ss3 r_5 s4 ss4 r_8 ((RdM.mat 1 rfl) w hS) ((RdM.mat 0 rfl) w hS)) ?_
        rintro r_9 _ _ ⟨rfl, rfl⟩
        refine TL.not r_9 rfl rfl rfl ?_
        refine TL.done ?_
        refine TC.cond (b := (!r_9)) rfl (fun c7 => ?_) (fun c8 => ?_)
        · refine TC.seq ?_
          refine TC.region ?_
          refine TL.assign rfl rfl (v := .bool false) rfl ?_
          refine TL.done ?_
          exact TC.retF (Fin.body (fin1 (.inr rfl) rfl (.tmp rfl) [] rfl ⟨rfl, rfl⟩))
        · refine TC.skip ?_
          refine TC.seq ?_
          refine TC.region ?_
          refine TL.assign rfl rfl (v := .bool true) rfl ?_
          refine TL.done ?_
          exact TC.retF (Fin.body (fin1 (.inr rfl) rfl (.tmp rfl) [] rfl ⟨rfl, rfl⟩))

end Go.Proofs.Ytnppkcemnjkboaa.G
