/- laws.eqGroup, as a pure function. -/
import Derived.Test.YtgljkechjkllgaaProg
import Derived.Test.YtgljkechjkllgaaSx9
import Derived.Test.YtgljkechjkllgaaQ67
set_option linter.unusedVariables false
namespace Go.Proofs.Ytgljkechjkllgaa.G
open Go Go.Sx Go.Proofs

def laws_eqGroup.f (a_1 : Int) (a_2 : Nat → UInt8) (b_1 : Int) (b_2 : Nat → UInt8) : Option Bool := (bif (a_1 != b_1) then some false else (G.laws_eqByteA6A6.f a_2 b_2).bind (fun r_1 => (bif (!r_1) then some false else some true)))

def laws_eqGroup.R (r : Bool) (v : Value) (L : List Asn) : Prop := v = .bool r ∧ L = []

set_option maxRecDepth 100000 in
set_option maxHeartbeats 4000000 in
theorem laws_eqGroup.calls (w : World) (a_1 : Int) (a_2 : Nat → UInt8) (b_1 : Int) (b_2 : Nat → UInt8) :
    ∀ r, laws_eqGroup.f a_1 a_2 b_1 b_2 = some r → Calls Try.prog 29 #[sval [.one (.int .i64 a_1), .arr 36 (enf u8v a_2)], sval [.one (.int .i64 b_1), .arr 36 (enf u8v b_2)]] w (Ret w (laws_eqGroup.R r)) := by

  refine calls_T (n := 16) (Γ := [(0, sval [.one (.int .i64 a_1), .arr 36 (enf u8v a_2)]), (1, sval [.one (.int .i64 b_1), .arr 36 (enf u8v b_2)])]) (R := laws_eqGroup.R) Try.func29 rfl rfl (Nat.le_of_ble_eq_true rfl) ⟨rfl, rfl, trivial⟩ ?_
  unfold laws_eqGroup.f
  refine TC.seq ?_
  refine TC.region ?_
  refine TL.box [.one (.int .i64 a_1), .arr 36 (enf u8v a_2)] rfl rfl rfl rfl fun b_3 => ?_
  refine TL.box [.one (.int .i64 b_1), .arr 36 (enf u8v b_2)] rfl rfl rfl rfl fun b_4 => ?_
  refine TL.assign rfl rfl (v := .bool false) rfl ?_
  refine TL.done ?_
  refine TC.seq ?_
  refine TC.seq ?_
  refine TC.region ?_
  refine TL.fa Try.underlying38 rfl Try.sizeOf2 rfl 0 rfl rfl rfl rfl ?_
  refine TL.load1 0 (Src.box 1 rfl) Try.isAgg2 rfl rfl rfl rfl rfl ?_
  refine TL.fa Try.underlying38 rfl Try.sizeOf2 rfl 0 rfl rfl rfl rfl ?_
  refine TL.load1 0 (Src.box 0 rfl) Try.isAgg2 rfl rfl rfl rfl rfl ?_
  refine TL.bin .i64 a_1 b_1 rfl rfl rfl rfl (v := .bool (a_1 != b_1)) rfl ?_
  refine TL.done ?_
  refine TC.cond (b := (a_1 != b_1)) rfl (fun c1 => ?_) (fun c2 => ?_)
  · refine TC.seq ?_
    refine TC.region ?_
    refine TL.assign rfl rfl (v := .bool false) rfl ?_
    refine TL.done ?_
    exact TC.retF (Fin.body (fin1 (.inr rfl) rfl (.tmp rfl) [] rfl ⟨rfl, rfl⟩))
  · refine TC.skip ?_
    refine TC.seq ?_
    refine TC.seq ?_
    refine TC.region ?_
    refine TL.fa Try.underlying38 rfl Try.sizeOf34 rfl 1 rfl rfl rfl rfl ?_
    refine TL.loadM 1 1 (Src.box 1 rfl) Try.isAgg34 Try.sizeOf34 (mid := [.arr 36 (enf u8v a_2)]) rfl rfl rfl rfl rfl rfl ?_
    refine TL.fa Try.underlying38 rfl Try.sizeOf34 rfl 1 rfl rfl rfl rfl ?_
    refine TL.loadM 1 1 (Src.box 0 rfl) Try.isAgg34 Try.sizeOf34 (mid := [.arr 36 (enf u8v b_2)]) rfl rfl rfl rfl rfl rfl ?_
    refine TL.call (R := G.laws_eqByteA6A6.R) Try.call67 rfl rfl rfl (fun w hS => G.laws_eqByteA6A6.calls w a_2 b_2) ?_
    rintro r_1 _ _ ⟨rfl, rfl⟩
    refine TL.not r_1 rfl rfl rfl ?_
    refine TL.done ?_
    refine TC.cond (b := (!r_1)) rfl (fun c3 => ?_) (fun c4 => ?_)
    · refine TC.seq ?_
      refine TC.region ?_
      refine TL.assign rfl rfl (v := .bool false) rfl ?_
      refine TL.done ?_
      exact TC.retF (Fin.body (fin1 (.inr rfl) rfl (.tmp rfl) [] rfl ⟨rfl, rfl⟩))
    · refine TC.skip ?_
      refine TC.seq ?_
      refine TC.region ?_
      refine TL.assign rfl rfl (v := .bool true) rfl ?_
      refine TL.done ?_
      exact TC.retF (Fin.body (fin1 (.inr rfl) rfl (.tmp rfl) [] rfl ⟨rfl, rfl⟩))

end Go.Proofs.Ytgljkechjkllgaa.G
