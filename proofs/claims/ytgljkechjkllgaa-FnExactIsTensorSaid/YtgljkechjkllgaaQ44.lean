/- laws.szTensor, as a pure function. -/
import Derived.Test.YtgljkechjkllgaaProg
import Derived.Test.YtgljkechjkllgaaSx9
import Derived.Test.YtgljkechjkllgaaQ79
set_option linter.unusedVariables false
namespace Go.Proofs.Ytgljkechjkllgaa.G
open Go Go.Sx Go.Proofs

def laws_szTensor.f (a_1 : Int) (a_2 : Int) (a_3 : Int) (a_4 : Int) (a_5 : List Int) (left_1 : Int) : Option Int := (G.laws_szInt64S.f a_5 left_1).bind (fun r_1 => (bif (decide (r_1 < 0)) then some (-1) else some r_1))

def laws_szTensor.R (r : Int) (v : Value) (L : List Asn) : Prop := v = .int .i64 r ∧ L = []

set_option maxRecDepth 100000 in
set_option maxHeartbeats 4000000 in
theorem laws_szTensor.calls (w : World) (a_1 : Int) (a_2 : Int) (a_3 : Int) (a_4 : Int) (s1 : SV) (a_5 : List Int) (left_1 : Int) (h1 : Reads Ei (hp w) s1 a_5) :
    ∀ r, laws_szTensor.f a_1 a_2 a_3 a_4 a_5 left_1 = some r → Calls Try.prog 44 #[sval [.one (.int .i64 a_1), .one (.int .i64 a_2), .one (.int .i64 a_3), .one (.int .i64 a_4), .one (SV.v s1)], .int .i64 left_1] w (Ret w (laws_szTensor.R r)) := by

  refine calls_T (n := 12) (Γ := [(0, sval [.one (.int .i64 a_1), .one (.int .i64 a_2), .one (.int .i64 a_3), .one (.int .i64 a_4), .one (SV.v s1)]), (1, .int .i64 left_1)]) (R := laws_szTensor.R) Try.func44 rfl rfl (Nat.le_of_ble_eq_true rfl) ⟨rfl, rfl, trivial⟩ ?_
  unfold laws_szTensor.f
  refine TC.seq ?_
  refine TC.region ?_
  refine TL.box [.one (.int .i64 a_1), .one (.int .i64 a_2), .one (.int .i64 a_3), .one (.int .i64 a_4), .one (SV.v s1)] rfl rfl rfl rfl fun b_1 => ?_
  refine TL.assign rfl rfl (v := .int .i64 0) rfl ?_
  refine TL.done ?_
  refine TC.seq ?_
  refine TC.region ?_
  refine TL.fa Try.underlying58 rfl Try.sizeOf44 rfl 4 rfl rfl rfl rfl ?_
  refine TL.load1 4 (Src.box 0 rfl) Try.isAgg44 rfl rfl rfl rfl rfl ?_
  refine TL.move rfl rfl (v := .int .i64 left_1) rfl ?_
  refine TL.call (R := G.laws_szInt64S.R) Try.call79 rfl rfl rfl (fun w hS => G.laws_szInt64S.calls w s1 a_5 left_1 ((Rd.old h1) w hS)) ?_
  rintro r_1 _ _ ⟨rfl, rfl⟩
  refine TL.assign rfl rfl (v := .int .i64 r_1) rfl ?_
  refine TL.done ?_
  refine TC.seq ?_
  refine TC.seq ?_
  refine TC.region ?_
  refine TL.move rfl rfl (v := .int .i64 r_1) rfl ?_
  refine TL.bin .i64 r_1 0 rfl rfl rfl rfl (v := .bool (decide (r_1 < 0))) rfl ?_
  refine TL.done ?_
  refine TC.cond (b := (decide (r_1 < 0))) rfl (fun c1 => ?_) (fun c2 => ?_)
  · refine TC.seq ?_
    refine TC.region ?_
    refine TL.assign rfl rfl (v := .int .i64 (-1)) rfl ?_
    refine TL.done ?_
    exact TC.retF (Fin.body (fin1 (.inr rfl) rfl (.tmp rfl) [] rfl ⟨rfl, rfl⟩))
  · refine TC.skip ?_
    refine TC.seq ?_
    refine TC.region ?_
    refine TL.move rfl rfl (v := .int .i64 r_1) rfl ?_
    refine TL.assign rfl rfl (v := .int .i64 r_1) rfl ?_
    refine TL.done ?_
    exact TC.retF (Fin.body (fin1 (.inr rfl) rfl (.tmp rfl) [] rfl ⟨rfl, rfl⟩))

end Go.Proofs.Ytgljkechjkllgaa.G
