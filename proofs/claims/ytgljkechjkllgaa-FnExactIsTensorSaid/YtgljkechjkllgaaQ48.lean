/- laws.eqTensor, as a pure function. -/
import Derived.Test.YtgljkechjkllgaaProg
import Derived.Test.YtgljkechjkllgaaSx9
import Derived.Test.YtgljkechjkllgaaQ33
set_option linter.unusedVariables false
namespace Go.Proofs.Ytgljkechjkllgaa.G
open Go Go.Sx Go.Proofs

def laws_eqTensor.f (a_1 : Int) (a_2 : Int) (a_3 : Int) (a_4 : Int) (a_5 : List Int) (b_1 : Int) (b_2 : Int) (b_3 : Int) (b_4 : Int) (b_5 : List Int) : Option Bool := (bif (a_1 != b_1) then some false else (bif (a_2 != b_2) then some false else (bif (a_3 != b_3) then some false else (bif (a_4 != b_4) then some false else (G.laws_eqInt64S.f a_5 b_5).bind (fun r_1 => (bif (!r_1) then some false else some true))))))

def laws_eqTensor.R (r : Bool) (v : Value) (L : List Asn) : Prop := v = .bool r ∧ L = []

set_option maxRecDepth 100000 in
set_option maxHeartbeats 4000000 in
theorem laws_eqTensor.calls (w : World) (a_1 : Int) (a_2 : Int) (a_3 : Int) (a_4 : Int) (s1 : SV) (a_5 : List Int) (b_1 : Int) (b_2 : Int) (b_3 : Int) (b_4 : Int) (s2 : SV) (b_5 : List Int) (h1 : Reads Ei (hp w) s1 a_5) (h2 : Reads Ei (hp w) s2 b_5) :
    ∀ r, laws_eqTensor.f a_1 a_2 a_3 a_4 a_5 b_1 b_2 b_3 b_4 b_5 = some r → Calls Try.prog 48 #[sval [.one (.int .i64 a_1), .one (.int .i64 a_2), .one (.int .i64 a_3), .one (.int .i64 a_4), .one (SV.v s1)], sval [.one (.int .i64 b_1), .one (.int .i64 b_2), .one (.int .i64 b_3), .one (.int .i64 b_4), .one (SV.v s2)]] w (Ret w (laws_eqTensor.R r)) := by

  refine calls_T (n := 31) (Γ := [(0, sval [.one (.int .i64 a_1), .one (.int .i64 a_2), .one (.int .i64 a_3), .one (.int .i64 a_4), .one (SV.v s1)]), (1, sval [.one (.int .i64 b_1), .one (.int .i64 b_2), .one (.int .i64 b_3), .one (.int .i64 b_4), .one (SV.v s2)])]) (R := laws_eqTensor.R) Try.func48 rfl rfl (Nat.le_of_ble_eq_true rfl) ⟨rfl, rfl, trivial⟩ ?_
  unfold laws_eqTensor.f
  refine TC.seq ?_
  refine TC.region ?_
  refine TL.box [.one (.int .i64 a_1), .one (.int .i64 a_2), .one (.int .i64 a_3), .one (.int .i64 a_4), .one (SV.v s1)] rfl rfl rfl rfl fun b_6 => ?_
  refine TL.box [.one (.int .i64 b_1), .one (.int .i64 b_2), .one (.int .i64 b_3), .one (.int .i64 b_4), .one (SV.v s2)] rfl rfl rfl rfl fun b_7 => ?_
  refine TL.assign rfl rfl (v := .bool false) rfl ?_
  refine TL.done ?_
  refine TC.seq ?_
  refine TC.seq ?_
  refine TC.region ?_
  refine TL.fa Try.underlying61 rfl Try.sizeOf2 rfl 0 rfl rfl rfl rfl ?_
  refine TL.load1 0 (Src.box 1 rfl) Try.isAgg2 rfl rfl rfl rfl rfl ?_
  refine TL.fa Try.underlying61 rfl Try.sizeOf2 rfl 0 rfl rfl rfl rfl ?_
  refine TL.load1 0 (Src.box 0 rfl) Try.isAgg2 rfl rfl rfl rfl rfl ?_
  refine TL.bin .i64 a_1 b_1 rfl rfl rfl rfl (v := .bool (a_1 != b_1)) rfl ?_
  refine TL.done ?_
  refine TC.cond (b := (a_1 != b_1)) rfl (fun c1 => ?_) (fun c2 => ?_)
  · refine TC.seq ?_
    refine TC.region ?_
    refine TL.assign rfl rfl (v := .bool false) rfl ?_
    refine TL.done ?_
    exact TC.retF (Fin.body (fin1 (.inr rfl) rfl (.tmp rfl) [] rfl ⟨rfl, rfl⟩))
  · refine TC.skip ?_
    refine TC.seq ?_
    refine TC.seq ?_
    refine TC.region ?_
    refine TL.fa Try.underlying61 rfl Try.sizeOf2 rfl 1 rfl rfl rfl rfl ?_
    refine TL.load1 1 (Src.box 1 rfl) Try.isAgg2 rfl rfl rfl rfl rfl ?_
    refine TL.fa Try.underlying61 rfl Try.sizeOf2 rfl 1 rfl rfl rfl rfl ?_
    refine TL.load1 1 (Src.box 0 rfl) Try.isAgg2 rfl rfl rfl rfl rfl ?_
    refine TL.bin .i64 a_2 b_2 rfl rfl rfl rfl (v := .bool (a_2 != b_2)) rfl ?_
    refine TL.done ?_
    refine TC.cond (b := (a_2 != b_2)) rfl (fun c3 => ?_) (fun c4 => ?_)
    · refine TC.seq ?_
      refine TC.region ?_
      refine TL.assign rfl rfl (v := .bool false) rfl ?_
      refine TL.done ?_
      exact TC.retF (Fin.body (fin1 (.inr rfl) rfl (.tmp rfl) [] rfl ⟨rfl, rfl⟩))
    · refine TC.skip ?_
      refine TC.seq ?_
      refine TC.seq ?_
      refine TC.region ?_
      refine TL.fa Try.underlying61 rfl Try.sizeOf2 rfl 2 rfl rfl rfl rfl ?_
      refine TL.load1 2 (Src.box 1 rfl) Try.isAgg2 rfl rfl rfl rfl rfl ?_
      refine TL.fa Try.underlying61 rfl Try.sizeOf2 rfl 2 rfl rfl rfl rfl ?_
      refine TL.load1 2 (Src.box 0 rfl) Try.isAgg2 rfl rfl rfl rfl rfl ?_
      refine TL.bin .i64 a_3 b_3 rfl rfl rfl rfl (v := .bool (a_3 != b_3)) rfl ?_
      refine TL.done ?_
      refine TC.cond (b := (a_3 != b_3)) rfl (fun c5 => ?_) (fun c6 => ?_)
      · refine TC.seq ?_
        refine TC.region ?_
        refine TL.assign rfl rfl (v := .bool false) rfl ?_
        refine TL.done ?_
        exact TC.retF (Fin.body (fin1 (.inr rfl) rfl (.tmp rfl) [] rfl ⟨rfl, rfl⟩))
      · refine TC.skip ?_
        refine TC.seq ?_
        refine TC.seq ?_
        refine TC.region ?_
        refine TL.fa Try.underlying61 rfl Try.sizeOf2 rfl 3 rfl rfl rfl rfl ?_
        refine TL.load1 3 (Src.box 1 rfl) Try.isAgg2 rfl rfl rfl rfl rfl ?_
        refine TL.fa Try.underlying61 rfl Try.sizeOf2 rfl 3 rfl rfl rfl rfl ?_
        refine TL.load1 3 (Src.box 0 rfl) Try.isAgg2 rfl rfl rfl rfl rfl ?_
        refine TL.bin .i64 a_4 b_4 rfl rfl rfl rfl (v := .bool (a_4 != b_4)) rfl ?_
        refine TL.done ?_
        refine TC.cond (b := (a_4 != b_4)) rfl (fun c7 => ?_) (fun c8 => ?_)
        · refine TC.seq ?_
          refine TC.region ?_
          refine TL.assign rfl rfl (v := .bool false) rfl ?_
          refine TL.done ?_
          exact TC.retF (Fin.body (fin1 (.inr rfl) rfl (.tmp rfl) [] rfl ⟨rfl, rfl⟩))
        · refine TC.skip ?_
          refine TC.seq ?_
          refine TC.seq ?_
          refine TC.region ?_
          refine TL.fa Try.underlying61 rfl Try.sizeOf44 rfl 4 rfl rfl rfl rfl ?_
          refine TL.load1 4 (Src.box 1 rfl) Try.isAgg44 rfl rfl rfl rfl rfl ?_
          refine TL.fa Try.underlying61 rfl Try.sizeOf44 rfl 4 rfl rfl rfl rfl ?_
          refine TL.load1 4 (Src.box 0 rfl) Try.isAgg44 rfl rfl rfl rfl rfl ?_
          refine TL.call (R := G.laws_eqInt64S.R) Try.call33 rfl rfl rfl (fun w hS => G.laws_eqInt64S.calls w s1 a_5 s2 b_5 ((Rd.old h1) w hS) ((Rd.old h2) w hS)) ?_
          rintro r_1 _ _ ⟨rfl, rfl⟩
          refine TL.not r_1 rfl rfl rfl ?_
          refine TL.done ?_
          refine TC.cond (b := (!r_1)) rfl (fun c9 => ?_) (fun c10 => ?_)
          · refine TC.seq ?_
            refine TC.region ?_
            refine TL.assign rfl rfl (v := .bool false) rfl ?_
            refine TL.done ?_
            exact TC.retF (Fin.body (fin1 (.inr rfl) rfl (.tmp rfl) [] rfl ⟨rfl, rfl⟩))
          · refine TC.skip ?_
            refine TC.seq ?_
            refine TC.region ?_
            refine TL.assign rfl rfl (v := .bool true) rfl ?_
            refine TL.done ?_
            exact TC.retF (Fin.body (fin1 (.inr rfl) rfl (.tmp rfl) [] rfl ⟨rfl, rfl⟩))

end Go.Proofs.Ytgljkechjkllgaa.G
