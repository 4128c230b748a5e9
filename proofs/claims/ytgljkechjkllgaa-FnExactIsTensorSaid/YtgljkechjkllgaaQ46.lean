/- laws.toTensor, as a pure function. -/
import Derived.Test.YtgljkechjkllgaaProg
import Derived.Test.YtgljkechjkllgaaSx9
import Derived.Test.YtgljkechjkllgaaQ31
set_option linter.unusedVariables false
namespace Go.Proofs.Ytgljkechjkllgaa.G
open Go Go.Sx Go.Proofs

def laws_toTensor.f (a_1 : Int) (a_2 : Int) (a_3 : Int) (a_4 : Int) (a_5 : List Int) : Option (Int × Int × Int × Int × (List Int)) := (G.laws_toInt64S.f a_5).bind (fun r_1 => some (a_1, a_2, a_3, a_4, r_1))

def laws_toTensor.R (r : Int × Int × Int × Int × (List Int)) (v : Value) (L : List Asn) : Prop := ∃ (s0 : SV), v = sval [.one (.int .i64 r.1), .one (.int .i64 r.2.1), .one (.int .i64 r.2.2.1), .one (.int .i64 r.2.2.2.1), .one (SV.v s0)] ∧ L = [row Ei 2 s0 r.2.2.2.2]

set_option maxRecDepth 100000 in
set_option maxHeartbeats 4000000 in
theorem laws_toTensor.calls (w : World) (a_1 : Int) (a_2 : Int) (a_3 : Int) (a_4 : Int) (s1 : SV) (a_5 : List Int) (h1 : Reads Ei (hp w) s1 a_5) :
    ∀ r, laws_toTensor.f a_1 a_2 a_3 a_4 a_5 = some r → Calls Try.prog 46 #[sval [.one (.int .i64 a_1), .one (.int .i64 a_2), .one (.int .i64 a_3), .one (.int .i64 a_4), .one (SV.v s1)]] w (Ret w (laws_toTensor.R r)) := by

  refine calls_T (n := 21) (Γ := [(0, sval [.one (.int .i64 a_1), .one (.int .i64 a_2), .one (.int .i64 a_3), .one (.int .i64 a_4), .one (SV.v s1)])]) (R := laws_toTensor.R) Try.func46 rfl rfl (Nat.le_of_ble_eq_true rfl) ⟨rfl, trivial⟩ ?_
  unfold laws_toTensor.f
  refine TC.seq ?_
  refine TC.region ?_
  refine TL.box [.one (.int .i64 a_1), .one (.int .i64 a_2), .one (.int .i64 a_3), .one (.int .i64 a_4), .one (SV.v s1)] rfl rfl rfl rfl fun b_1 => ?_
  refine TL.alloc [.one (.int .i64 0), .one (.int .i64 0), .one (.int .i64 0), .one (.int .i64 0), .one (SV.v ⟨none, 0, 0⟩)] rfl rfl Try.zeroValue61 rfl fun b_2 => ?_
  refine TL.done ?_
  refine TC.seq ?_
  refine TC.region ?_
  refine TL.alloc [.one (.int .i64 0), .one (.int .i64 0), .one (.int .i64 0), .one (.int .i64 0), .one (SV.v ⟨none, 0, 0⟩)] rfl rfl Try.zeroValue61 rfl fun b_3 => ?_
  refine TL.done ?_
  refine TC.seq ?_
  refine TC.region ?_
  refine TL.fa Try.underlying58 rfl Try.sizeOf2 rfl 0 rfl rfl rfl rfl ?_
  refine TL.load1 0 (Src.box 2 rfl) Try.isAgg2 rfl rfl rfl rfl rfl ?_
  refine TL.fa Try.underlying61 rfl Try.sizeOf2 rfl 0 rfl rfl rfl rfl ?_
  refine TL.st1 0 0 rfl Try.sizeOf2 rfl rfl rfl rfl rfl rfl rfl ?_
  refine TL.done ?_
  refine TC.seq ?_
  refine TC.region ?_
  refine TL.fa Try.underlying58 rfl Try.sizeOf2 rfl 1 rfl rfl rfl rfl ?_
  refine TL.load1 1 (Src.box 2 rfl) Try.isAgg2 rfl rfl rfl rfl rfl ?_
  refine TL.fa Try.underlying61 rfl Try.sizeOf2 rfl 1 rfl rfl rfl rfl ?_
  refine TL.st1 0 1 rfl Try.sizeOf2 rfl rfl rfl rfl rfl rfl rfl ?_
  refine TL.done ?_
  refine TC.seq ?_
  refine TC.region ?_
  refine TL.fa Try.underlying58 rfl Try.sizeOf2 rfl 2 rfl rfl rfl rfl ?_
  refine TL.load1 2 (Src.box 2 rfl) Try.isAgg2 rfl rfl rfl rfl rfl ?_
  refine TL.fa Try.underlying61 rfl Try.sizeOf2 rfl 2 rfl rfl rfl rfl ?_
  refine TL.st1 0 2 rfl Try.sizeOf2 rfl rfl rfl rfl rfl rfl rfl ?_
  refine TL.done ?_
  refine TC.seq ?_
  refine TC.region ?_
  refine TL.fa Try.underlying58 rfl Try.sizeOf2 rfl 3 rfl rfl rfl rfl ?_
  refine TL.load1 3 (Src.box 2 rfl) Try.isAgg2 rfl rfl rfl rfl rfl ?_
  refine TL.fa Try.underlying61 rfl Try.sizeOf2 rfl 3 rfl rfl rfl rfl ?_
  refine TL.st1 0 3 rfl Try.sizeOf2 rfl rfl rfl rfl rfl rfl rfl ?_
  refine TL.done ?_
  refine TC.seq ?_
  refine TC.region ?_
  refine TL.fa Try.underlying58 rfl Try.sizeOf44 rfl 4 rfl rfl rfl rfl ?_
  refine TL.load1 4 (Src.box 2 rfl) Try.isAgg44 rfl rfl rfl rfl rfl ?_
  refine TL.call (R := G.laws_toInt64S.R) Try.call31 rfl rfl rfl (fun w hS => G.laws_toInt64S.calls w s1 a_5 ((Rd.old h1) w hS)) ?_
  rintro r_1 _ _ ⟨s2, rfl, rfl⟩
  refine TL.fa Try.underlying61 rfl Try.sizeOf44 rfl 4 rfl rfl rfl rfl ?_
  refine TL.st1 1 4 rfl Try.sizeOf44 rfl rfl rfl rfl rfl rfl rfl ?_
  refine TL.done ?_
  refine TC.seq ?_
  refine TC.region ?_
  refine TL.loadM 0 5 (Src.box 1 rfl) Try.isAgg61 Try.sizeOf61 (mid := [.one (.int .i64 a_1), .one (.int .i64 a_2), .one (.int .i64 a_3), .one (.int .i64 a_4), .one (SV.v s2)]) rfl rfl rfl rfl rfl rfl ?_
  refine TL.stM (news := [.one (.int .i64 a_1), .one (.int .i64 a_2), .one (.int .i64 a_3), .one (.int .i64 a_4), .one (SV.v s2)]) 2 0 5 rfl Try.sizeOf61 (ones_one rfl (ones_one rfl (ones_one rfl (ones_one rfl (ones_one rfl ones_nil))))) rfl rfl rfl rfl rfl rfl ?_
  refine TL.done ?_
  exact TC.retF (Fin.body (fin1 (.inr rfl) rfl (.cellN rfl (Src.box 2 rfl) Try.isAgg61 Try.sizeOf61 rfl) [0] rfl ⟨s2, rfl, rfl⟩))

end Go.Proofs.Ytgljkechjkllgaa.G
