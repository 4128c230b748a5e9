/- laws.toByteA6A6, as a pure function. -/
import Derived.Test.YtcombgcjgdkbiaaProg
import Derived.Test.YtcombgcjgdkbiaaSx9
import Derived.Test.YtcombgcjgdkbiaaQ113
set_option linter.unusedVariables false
namespace Go.Proofs.Ytcombgcjgdkbiaa.G
open Go Go.Sx Go.Proofs

def laws_toByteA6A6.b0 (a_1 : Nat → UInt8) : (Nat → UInt8) × Int → Option (LB ((Nat → UInt8) × Int)) := fun p => match p with | (out1, i1) => (bif (decide (i1 < 6)) then chk i1 6 ((G.laws_toByteA6.f (sub a_1 (i1.toNat * 6))).bind (fun r_1 => some (.next ((updN out1 (i1.toNat * 6) 6 r_1), (w64 (i1 + 1)))))) else some (.brk (out1, i1)))

def laws_toByteA6A6.f (a_1 : Nat → UInt8) : Option (Nat → UInt8) := (loop1 (laws_toByteA6A6.b0 a_1) ((fun _ => (0 : UInt8)), 0)).bind (fun p => match p with | (out1, i1) => some out1)

def laws_toByteA6A6.R (r : Nat → UInt8) (v : Value) (L : List Asn) : Prop := v = sval [.arr 36 (enf u8v r)] ∧ L = []

set_option maxRecDepth 100000 in
set_option maxHeartbeats 4000000 in
theorem laws_toByteA6A6.calls (w : World) (a_1 : Nat → UInt8) :
    ∀ r, laws_toByteA6A6.f a_1 = some r → Calls Try.prog 63 #[sval [.arr 36 (enf u8v a_1)]] w (Ret w (laws_toByteA6A6.R r)) := by

  refine calls_T (n := 16) (Γ := [(0, sval [.arr 36 (enf u8v a_1)])]) (R := laws_toByteA6A6.R) Try.func63 rfl rfl (Nat.le_of_ble_eq_true rfl) ⟨rfl, trivial⟩ ?_
  unfold laws_toByteA6A6.f
  refine TC.seq ?_
  refine TC.region ?_
  refine TL.box [.arr 36 (enf u8v a_1)] rfl rfl rfl rfl fun b_1 => ?_
  refine TL.alloc [.arr 36 (enf u8v (fun _ => (0 : UInt8)))] rfl rfl Try.zeroValue33 rfl fun b_2 => ?_
  refine TL.done ?_
  refine TC.seq ?_
  refine TC.region ?_
  refine TL.alloc [.arr 36 (enf u8v (fun _ => (0 : UInt8)))] rfl rfl Try.zeroValue33 rfl fun b_3 => ?_
  refine TL.done ?_
  refine TC.seq ?_
  refine TC.seq ?_
  refine TC.region ?_
  refine TL.assign rfl rfl (v := .int .i64 0) rfl ?_
  refine TL.done ?_
  refine TC.loop1 (σ := (Nat → UInt8) × Int) (γ := Unit) (Γ' := (fun p q => match p, q with | (out1, i1), _ => [(1, bp b_1 0), (2, bp b_2 0), (3, bp b_3 0), (4, .int .i64 i1)])) (L' := (fun p q => match p, q with | (out1, i1), _ => [box b_1 33 [.arr 36 (enf u8v a_1)], box b_2 33 [.arr 36 (enf u8v (fun _ => (0 : UInt8)))], box b_3 33 [.arr 36 (enf u8v out1)]])) (Γb := (fun p q => match p, q with | (out1, i1), _ => [(1, bp b_1 0), (2, bp b_2 0), (3, bp b_3 0), (4, .int .i64 i1)])) (Lb := (fun p q => match p, q with | (out1, i1), _ => [box b_1 33 [.arr 36 (enf u8v a_1)], box b_2 33 [.arr 36 (enf u8v (fun _ => (0 : UInt8)))], box b_3 33 [.arr 36 (enf u8v out1)]])) (((fun _ => (0 : UInt8)), 0)) (()) ⟨rfl, rfl, rfl, rfl, trivial⟩ [2, 1, 0] rfl ?_ ?_
  · rintro ⟨out1, i1⟩ _
    refine TC.seq ?_
    refine TC.seq ?_
    refine TC.region ?_
    refine TL.move rfl rfl (v := .int .i64 i1) rfl ?_
    refine TL.bin .i64 i1 6 rfl rfl rfl rfl (v := .bool (decide (i1 < 6))) rfl ?_
    refine TL.done ?_
    refine TC.cond (b := (decide (i1 < 6))) rfl (fun c1 => ?_) (fun c2 => ?_)
    · refine TC.skip ?_
      refine TC.seq ?_
      refine TC.block (NoEx.loop1 rfl) ?_
      refine TC.region ?_
      refine TL.move rfl rfl (v := .int .i64 i1) rfl ?_
      refine TL.move rfl rfl (v := .int .i64 i1) rfl ?_
      refine TL.chk fun h1 => ?_
      refine TL.ixa i1 (i1.toNat * 6) h1 Try.underlying33 Try.sizeOf32 rfl rfl rfl rfl (by omega) ?_
      refine TL.loadS (i1.toNat * 6) 0 (Src.box 0 rfl) Try.isAgg32 Try.sizeOf32 rfl (by omega) (v := sval [.arr 6 (enf u8v (sub a_1 (i1.toNat * 6)))]) rfl (st := 0) rfl (by omega) rfl rfl rfl ?_
      refine TL.call (R := G.laws_toByteA6.R) Try.call113 rfl rfl rfl (fun w hS => G.laws_toByteA6.calls w (sub a_1 (i1.toNat * 6))) ?_
      rintro r_1 _ _ ⟨rfl, rfl⟩
      refine TL.ixa i1 (i1.toNat * 6) h1 Try.underlying33 Try.sizeOf32 rfl rfl rfl rfl (by omega) ?_
      refine TL.stS (e := u8v) 2 0 (i1.toNat * 6) rfl Try.sizeOf32 (fun _ => rfl) rfl (by omega) (s := 0) rfl (by omega) rfl rfl rfl ?_
      refine TL.done ?_
      refine TC.region ?_
      refine TL.move rfl rfl (v := .int .i64 i1) rfl ?_
      refine TL.bin .i64 i1 1 rfl rfl rfl rfl (v := .int .i64 (w64 (i1 + 1))) rfl ?_
      refine TL.assign rfl rfl (v := .int .i64 (w64 (i1 + 1))) rfl ?_
      refine TL.done ?_
      exact TC.next1 (((updN out1 (i1.toNat * 6) 6 r_1), (w64 (i1 + 1)))) (()) ⟨rfl, rfl, rfl, rfl, trivial⟩ [0, 0, 0] rfl
    · exact TC.brk1 ((out1, i1)) (()) ⟨rfl, rfl, rfl, rfl, trivial⟩ [0, 0, 0] rfl
  · rintro ⟨out1, i1⟩ _
    refine TC.seq ?_
    refine TC.region ?_
    refine TL.loadM 0 1 (Src.box 2 rfl) Try.isAgg33 Try.sizeOf33 (mid := [.arr 36 (enf u8v out1)]) rfl rfl rfl rfl rfl rfl ?_
    refine TL.stM (news := [.arr 36 (enf u8v out1)]) 1 0 1 rfl Try.sizeOf33 (ones_arr (fun _ => rfl) ones_nil) rfl rfl rfl rfl rfl rfl ?_
    refine TL.done ?_
    exact TC.retF (Fin.body (fin1 (.inr rfl) rfl (.cellN rfl (Src.box 1 rfl) Try.isAgg33 Try.sizeOf33 rfl) [] rfl ⟨rfl, rfl⟩))

end Go.Proofs.Ytcombgcjgdkbiaa.G
