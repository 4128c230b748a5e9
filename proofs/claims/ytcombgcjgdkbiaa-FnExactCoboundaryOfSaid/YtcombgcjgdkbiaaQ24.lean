/- laws.toGroup, as a pure function. -/
import Derived.Test.YtcombgcjgdkbiaaProg
import Derived.Test.YtcombgcjgdkbiaaSx9
import Derived.Test.YtcombgcjgdkbiaaQ63
set_option linter.unusedVariables false
namespace Go.Proofs.Ytcombgcjgdkbiaa.G
open Go Go.Sx Go.Proofs

def laws_toGroup.f (a_1 : Int) (a_2 : Nat → UInt8) : Option (Int × (Nat → UInt8)) := (G.laws_toByteA6A6.f a_2).bind (fun r_1 => some (a_1, r_1))

def laws_toGroup.R (r : Int × (Nat → UInt8)) (v : Value) (L : List Asn) : Prop := v = sval [.one (.int .i64 r.1), .arr 36 (enf u8v r.2)] ∧ L = []

set_option maxRecDepth 100000 in
set_option maxHeartbeats 4000000 in
theorem laws_toGroup.calls (w : World) (a_1 : Int) (a_2 : Nat → UInt8) :
    ∀ r, laws_toGroup.f a_1 a_2 = some r → Calls Try.prog 24 #[sval [.one (.int .i64 a_1), .arr 36 (enf u8v a_2)]] w (Ret w (laws_toGroup.R r)) := by

  refine calls_T (n := 12) (Γ := [(0, sval [.one (.int .i64 a_1), .arr 36 (enf u8v a_2)])]) (R := laws_toGroup.R) Try.func24 rfl rfl (Nat.le_of_ble_eq_true rfl) ⟨rfl, trivial⟩ ?_
  unfold laws_toGroup.f
  refine TC.seq ?_
  refine TC.region ?_
  refine TL.box [.one (.int .i64 a_1), .arr 36 (enf u8v a_2)] rfl rfl rfl rfl fun b_1 => ?_
  refine TL.alloc [.one (.int .i64 0), .arr 36 (enf u8v (fun _ => (0 : UInt8)))] rfl rfl Try.zeroValue37 rfl fun b_2 => ?_
  refine TL.done ?_
  refine TC.seq ?_
  refine TC.region ?_
  refine TL.alloc [.one (.int .i64 0), .arr 36 (enf u8v (fun _ => (0 : UInt8)))] rfl rfl Try.zeroValue37 rfl fun b_3 => ?_
  refine TL.done ?_
  refine TC.seq ?_
  refine TC.region ?_
  refine TL.fa Try.underlying35 rfl Try.sizeOf2 rfl 0 rfl rfl rfl rfl ?_
  refine TL.load1 0 (Src.box 2 rfl) Try.isAgg2 rfl rfl rfl rfl rfl ?_
  refine TL.fa Try.underlying37 rfl Try.sizeOf2 rfl 0 rfl rfl rfl rfl ?_
  refine TL.st1 0 0 rfl Try.sizeOf2 rfl rfl rfl rfl rfl rfl rfl ?_
  refine TL.done ?_
  refine TC.seq ?_
  refine TC.region ?_
  refine TL.fa Try.underlying35 rfl Try.sizeOf33 rfl 1 rfl rfl rfl rfl ?_
  refine TL.loadM 1 1 (Src.box 2 rfl) Try.isAgg33 Try.sizeOf33 (mid := [.arr 36 (enf u8v a_2)]) rfl rfl rfl rfl rfl rfl ?_
  refine TL.call (R := G.laws_toByteA6A6.R) Try.call63 rfl rfl rfl (fun w hS => G.laws_toByteA6A6.calls w a_2) ?_
  rintro r_1 _ _ ⟨rfl, rfl⟩
  refine TL.fa Try.underlying37 rfl Try.sizeOf33 rfl 1 rfl rfl rfl rfl ?_
  refine TL.stM (news := [.arr 36 (enf u8v r_1)]) 0 1 1 rfl Try.sizeOf33 (ones_arr (fun _ => rfl) ones_nil) rfl rfl rfl rfl rfl rfl ?_
  refine TL.done ?_
  refine TC.seq ?_
  refine TC.region ?_
  refine TL.loadM 0 2 (Src.box 0 rfl) Try.isAgg37 Try.sizeOf37 (mid := [.one (.int .i64 a_1), .arr 36 (enf u8v r_1)]) rfl rfl rfl rfl rfl rfl ?_
  refine TL.stM (news := [.one (.int .i64 a_1), .arr 36 (enf u8v r_1)]) 1 0 2 rfl Try.sizeOf37 (ones_one rfl (ones_arr (fun _ => rfl) ones_nil)) rfl rfl rfl rfl rfl rfl ?_
  refine TL.done ?_
  exact TC.retF (Fin.body (fin1 (.inr rfl) rfl (.cellN rfl (Src.box 1 rfl) Try.isAgg37 Try.sizeOf37 rfl) [] rfl ⟨rfl, rfl⟩))

end Go.Proofs.Ytcombgcjgdkbiaa.G
