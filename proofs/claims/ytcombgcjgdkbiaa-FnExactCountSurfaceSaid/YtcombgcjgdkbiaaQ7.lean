/- laws.FnExactCountSurface, as a pure function. -/
import Derived.Test.YtcombgcjgdkbiaaProg
import Derived.Test.YtcombgcjgdkbiaaSx9
import Derived.Test.YtcombgcjgdkbiaaQ24
import Derived.Test.YtcombgcjgdkbiaaQ28
import Derived.Test.YtcombgcjgdkbiaaQ29
set_option linter.unusedVariables false
namespace Go.Proofs.Ytcombgcjgdkbiaa.G
open Go Go.Sx Go.Proofs

def laws_FnExactCountSurface.f (aG1 : Int) (aG2 : Nat → UInt8) (aGenus1 : Int) : Option Bool := (G.laws_toGroup.f aG1 aG2).bind (fun p => match p with | (r_1, r_2) => (G.spec_CountSurface.f r_1 r_2 aGenus1).bind (fun p => match p with | (r_3, r_4) => (G.laws_toGroup.f aG1 aG2).bind (fun p => match p with | (r_5, r_6) => (G.impl_CountSurface.f r_5 r_6 aGenus1).bind (fun p => match p with | (r_7, r_8) => (bif ((r_7 != r_3) || (r_8 != r_4)) then some false else some true)))))

def laws_FnExactCountSurface.R (r : Bool) (v : Value) (L : List Asn) : Prop := v = .bool r ∧ L = []

set_option maxRecDepth 100000 in
set_option maxHeartbeats 4000000 in
theorem laws_FnExactCountSurface.calls (w : World) (aG1 : Int) (aG2 : Nat → UInt8) (aGenus1 : Int) :
    ∀ r, laws_FnExactCountSurface.f aG1 aG2 aGenus1 = some r → Calls Try.prog 7 #[sval [.one (.int .i64 aG1), .arr 36 (enf u8v aG2)], .int .i64 aGenus1] w (Ret w (laws_FnExactCountSurface.R r)) := by

  refine calls_T (n := 31) (Γ := [(0, sval [.one (.int .i64 aG1), .arr 36 (enf u8v aG2)]), (1, .int .i64 aGenus1)]) (R := laws_FnExactCountSurface.R) Try.func7 rfl rfl (Nat.le_of_ble_eq_true rfl) ⟨rfl, rfl, trivial⟩ ?_
  unfold laws_FnExactCountSurface.f
  refine TC.seq ?_
  refine TC.region ?_
  refine TL.box [.one (.int .i64 aG1), .arr 36 (enf u8v aG2)] rfl rfl rfl rfl fun b_1 => ?_
  refine TL.assign rfl rfl (v := .bool false) rfl ?_
  refine TL.done ?_
  refine TC.seq ?_
  refine TC.region ?_
  refine TL.loadM 0 2 (Src.box 0 rfl) Try.isAgg35 Try.sizeOf35 (mid := [.one (.int .i64 aG1), .arr 36 (enf u8v aG2)]) rfl rfl rfl rfl rfl rfl ?_
  refine TL.call (R := G.laws_toGroup.R) Try.call24 rfl rfl rfl (fun w hS => G.laws_toGroup.calls w aG1 aG2) ?_
  rintro ⟨r_1, r_2⟩ _ _ ⟨rfl, rfl⟩
  refine TL.move rfl rfl (v := .int .i64 aGenus1) rfl ?_
  refine TL.call (R := G.spec_CountSurface.R) Try.call28 rfl rfl rfl (fun w hS => G.spec_CountSurface.calls w r_1 r_2 aGenus1) ?_
  rintro ⟨r_3, r_4⟩ _ _ ⟨rfl, rfl⟩
  refine TL.move rfl rfl (v := .tuple #[.int .i64 r_3, .int .i64 r_4]) rfl ?_
  refine TL.extract rfl rfl rfl (v := .int .i64 r_3) rfl ?_
  refine TL.extract rfl rfl rfl (v := .int .i64 r_4) rfl ?_
  refine TL.assign rfl rfl (v := .int .i64 r_3) rfl ?_
  refine TL.assign rfl rfl (v := .int .i64 r_4) rfl ?_
  refine TL.done ?_
  refine TC.seq ?_
  refine TC.region ?_
  refine TL.loadM 0 2 (Src.box 0 rfl) Try.isAgg35 Try.sizeOf35 (mid := [.one (.int .i64 aG1), .arr 36 (enf u8v aG2)]) rfl rfl rfl rfl rfl rfl ?_
  refine TL.call (R := G.laws_toGroup.R) Try.call24 rfl rfl rfl (fun w hS => G.laws_toGroup.calls w aG1 aG2) ?_
  rintro ⟨r_5, r_6⟩ _ _ ⟨rfl, rfl⟩
  refine TL.move rfl rfl (v := .int .i64 aGenus1) rfl ?_
  refine TL.call (R := G.impl_CountSurface.R) Try.call29 rfl rfl rfl (fun w hS => G.impl_CountSurface.calls w r_5 r_6 aGenus1) ?_
  rintro ⟨r_7, r_8⟩ _ _ ⟨rfl, rfl⟩
  refine TL.move rfl rfl (v := .tuple #[.int .i64 r_7, .int .i64 r_8]) rfl ?_
  refine TL.extract rfl rfl rfl (v := .int .i64 r_7) rfl ?_
  refine TL.extract rfl rfl rfl (v := .int .i64 r_8) rfl ?_
  refine TL.assign rfl rfl (v := .int .i64 r_7) rfl ?_
  refine TL.assign rfl rfl (v := .int .i64 r_8) rfl ?_
  refine TL.done ?_
  refine TC.seq ?_
  refine TC.seq ?_
  refine TC.region ?_
  refine TL.move rfl rfl (v := .int .i64 r_7) rfl ?_
  refine TL.move rfl rfl (v := .int .i64 r_3) rfl ?_
  refine TL.bin .i64 r_7 r_3 rfl rfl rfl rfl (v := .bool (r_7 != r_3)) rfl ?_
  refine TL.move rfl rfl (v := .bool (r_7 != r_3)) rfl ?_
  refine TL.cutU 4 [(30, .bool ((r_7 != r_3) || (r_8 != r_4))), (0, sval [.one (.int .i64 aG1), .arr 36 (enf u8v aG2)]), (1, .int .i64 aGenus1), (2, bp b_1 0), (4, .bool false), (10, sval [.one (.int .i64 aG1), .arr 36 (enf u8v aG2)]), (11, sval [.one (.int .i64 r_1), .arr 36 (enf u8v r_2)]), (12, .int .i64 aGenus1), (13, .tuple #[.int .i64 r_3, .int .i64 r_4]), (9, .tuple #[.int .i64 r_3, .int .i64 r_4]), (14, .int .i64 r_3), (15, .int .i64 r_4), (5, .int .i64 r_3), (6, .int .i64 r_4), (17, sval [.one (.int .i64 aG1), .arr 36 (enf u8v aG2)]), (18, sval [.one (.int .i64 r_5), .arr 36 (enf u8v r_6)]), (19, .int .i64 aGenus1), (20, .tuple #[.int .i64 r_7, .int .i64 r_8]), (16, .tuple #[.int .i64 r_7, .int .i64 r_8]), (21, .int .i64 r_7), (22, .int .i64 r_8), (7, .int .i64 r_7), (8, .int .i64 r_8), (23, .int .i64 r_7), (24, .int .i64 r_3), (25, .bool (r_7 != r_3)), (26, .bool (r_7 != r_3))] [box b_1 35 [.one (.int .i64 aG1), .arr 36 (enf u8v aG2)]] ?_ ?_
  · refine TL.cases (t := 26) (b := (r_7 != r_3)) rfl (fun c1 => ?_) (fun c2 => ?_)
    · refine TL.skip rfl rfl (by decide) ?_
      refine TL.skip rfl rfl (by decide) ?_
      refine TL.skip rfl rfl (by decide) ?_
      refine TL.pick rfl rfl (b := true) rfl (r := .bool true) rfl ?_
      refine TL.done ?_
      exact TC.nrm () () ⟨(by rw [c1]; rfl), rfl, rfl, rfl, rfl, rfl, rfl, rfl, rfl, rfl, rfl, rfl, rfl, rfl, rfl, rfl, rfl, rfl, rfl, rfl, rfl, rfl, rfl, rfl, rfl, rfl, (by rw [c1]; rfl), trivial⟩ [0] rfl
    · refine TL.move rfl rfl (v := .int .i64 r_8) rfl ?_
      refine TL.move rfl rfl (v := .int .i64 r_4) rfl ?_
      refine TL.bin .i64 r_8 r_4 rfl rfl rfl rfl (v := .bool (r_8 != r_4)) rfl ?_
      refine TL.pick rfl rfl (b := false) rfl (r := .bool (r_8 != r_4)) rfl ?_
      refine TL.done ?_
      exact TC.nrm () () ⟨(by rw [c2]; rfl), rfl, rfl, rfl, rfl, rfl, rfl, rfl, rfl, rfl, rfl, rfl, rfl, rfl, rfl, rfl, rfl, rfl, rfl, rfl, rfl, rfl, rfl, rfl, rfl, rfl, (by rw [c2]; rfl), trivial⟩ [0] rfl
  · refine TL.done ?_
    refine TC.cond (b := ((r_7 != r_3) || (r_8 != r_4))) rfl (fun c3 => ?_) (fun c4 => ?_)
    · refine TC.seq ?_
      refine TC.region ?_
      refine TL.assign rfl rfl (v := .bool false) rfl ?_
      refine TL.done ?_
      exact TC.retF (Fin.body (fin1 (.inr rfl) rfl (.tmp rfl) [] rfl ⟨rfl, rfl⟩))
    · refine TC.skip ?_
      refine TC.seq ?_
      refine TC.region ?_
      refine TL.assign rfl rfl (v := .bool true) rfl ?_
      refine TL.done ?_
      exact TC.retF (Fin.body (fin1 (.inr rfl) rfl (.tmp rfl) [] rfl ⟨rfl, rfl⟩))

end Go.Proofs.Ytcombgcjgdkbiaa.G
