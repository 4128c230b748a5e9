/- laws.FnExactIsGroup, as a pure function. -/
import Derived.Test.YtgljkechjkllgaaProg
import Derived.Test.YtgljkechjkllgaaSx9
import Derived.Test.YtgljkechjkllgaaQ24
import Derived.Test.YtgljkechjkllgaaQ25
import Derived.Test.YtgljkechjkllgaaQ26
set_option linter.unusedVariables false
namespace Go.Proofs.Ytgljkechjkllgaa.G
open Go Go.Sx Go.Proofs

def laws_FnExactIsGroup.f (aG1 : Int) (aG2 : Nat → UInt8) : Option Bool := (G.laws_toGroup.f aG1 aG2).bind (fun p => match p with | (r_1, r_2) => (G.spec_IsGroup.f r_1 r_2).bind (fun r_3 => (G.laws_toGroup.f aG1 aG2).bind (fun p => match p with | (r_4, r_5) => (G.impl_IsGroup.f r_4 r_5).bind (fun r_6 => (bif (r_6 != r_3) then some false else some true)))))

def laws_FnExactIsGroup.R (r : Bool) (v : Value) (L : List Asn) : Prop := v = .bool r ∧ L = []

set_option maxRecDepth 100000 in
set_option maxHeartbeats 4000000 in
theorem laws_FnExactIsGroup.calls (w : World) (aG1 : Int) (aG2 : Nat → UInt8) :
    ∀ r, laws_FnExactIsGroup.f aG1 aG2 = some r → Calls Try.prog 6 #[sval [.one (.int .i64 aG1), .arr 36 (enf u8v aG2)]] w (Ret w (laws_FnExactIsGroup.R r)) := by

  refine calls_T (n := 14) (Γ := [(0, sval [.one (.int .i64 aG1), .arr 36 (enf u8v aG2)])]) (R := laws_FnExactIsGroup.R) Try.func6 rfl rfl (Nat.le_of_ble_eq_true rfl) ⟨rfl, trivial⟩ ?_
  unfold laws_FnExactIsGroup.f
  refine TC.seq ?_
  refine TC.region ?_
  refine TL.box [.one (.int .i64 aG1), .arr 36 (enf u8v aG2)] rfl rfl rfl rfl fun b_1 => ?_
  refine TL.assign rfl rfl (v := .bool false) rfl ?_
  refine TL.done ?_
  refine TC.seq ?_
  refine TC.region ?_
  refine TL.loadM 0 2 (Src.box 0 rfl) Try.isAgg36 Try.sizeOf36 (mid := [.one (.int .i64 aG1), .arr 36 (enf u8v aG2)]) rfl rfl rfl rfl rfl rfl ?_
  refine TL.call (R := G.laws_toGroup.R) Try.call25 rfl rfl rfl (fun w hS => G.laws_toGroup.calls w aG1 aG2) ?_
  rintro ⟨r_1, r_2⟩ _ _ ⟨rfl, rfl⟩
  refine TL.call (R := G.spec_IsGroup.R) Try.call24 rfl rfl rfl (fun w hS => G.spec_IsGroup.calls w r_1 r_2) ?_
  rintro r_3 _ _ ⟨rfl, rfl⟩
  refine TL.assign rfl rfl (v := .bool r_3) rfl ?_
  refine TL.done ?_
  refine TC.seq ?_
  refine TC.region ?_
  refine TL.loadM 0 2 (Src.box 0 rfl) Try.isAgg36 Try.sizeOf36 (mid := [.one (.int .i64 aG1), .arr 36 (enf u8v aG2)]) rfl rfl rfl rfl rfl rfl ?_
  refine TL.call (R := G.laws_toGroup.R) Try.call25 rfl rfl rfl (fun w hS => G.laws_toGroup.calls w aG1 aG2) ?_
  rintro ⟨r_4, r_5⟩ _ _ ⟨rfl, rfl⟩
  refine TL.call (R := G.impl_IsGroup.R) Try.call26 rfl rfl rfl (fun w hS => G.impl_IsGroup.calls w r_4 r_5) ?_
  rintro r_6 _ _ ⟨rfl, rfl⟩
  refine TL.assign rfl rfl (v := .bool r_6) rfl ?_
  refine TL.done ?_
  refine TC.seq ?_
  refine TC.seq ?_
  refine TC.region ?_
  refine TL.move rfl rfl (v := .bool r_6) rfl ?_
  refine TL.move rfl rfl (v := .bool r_3) rfl ?_
  refine TL.boolNe r_6 r_3 Try.underlying4 rfl rfl rfl rfl ?_
  refine TL.done ?_
  refine TC.cond (b := (r_6 != r_3)) rfl (fun c1 => ?_) (fun c2 => ?_)
  · refine TC.seq ?_
    refine TC.region ?_
    refine TL.assign rfl rfl (v := .bool false) rfl ?_
    refine TL.done ?_
    exact TC.retF (Fin.body (fin1 (.inr rfl) rfl (.tmp rfl) [] rfl ⟨rfl, rfl⟩))
  · refine TC.skip ?_
    refine TC.seq ?_
    refine TC.region ?_
    refine TL.assign rfl rfl (v := .bool true) rfl ?_
    refine TL.done ?_
    exact TC.retF (Fin.body (fin1 (.inr rfl) rfl (.tmp rfl) [] rfl ⟨rfl, rfl⟩))

end Go.Proofs.Ytgljkechjkllgaa.G
