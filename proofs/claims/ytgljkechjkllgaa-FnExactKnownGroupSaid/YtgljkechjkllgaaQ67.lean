/- laws.eqByteA6A6, as a pure function. -/
import Derived.Test.YtgljkechjkllgaaProg
import Derived.Test.YtgljkechjkllgaaSx9
import Derived.Test.YtgljkechjkllgaaQ98
set_option linter.unusedVariables false
namespace Go.Proofs.Ytgljkechjkllgaa.G
open Go Go.Sx Go.Proofs

def laws_eqByteA6A6.b0 (a_1 : Nat → UInt8) (b_1 : Nat → UInt8) : Int → Option (LR Int Bool) := fun i1 => (bif (decide (i1 < 6)) then chk i1 6 ((G.laws_eqByteA6.f (sub a_1 (i1.toNat * 6)) (sub b_1 (i1.toNat * 6))).bind (fun r_1 => (bif (!r_1) then some (.ret (false)) else some (.next (w64 (i1 + 1)))))) else some (.brk i1))

def laws_eqByteA6A6.f (a_1 : Nat → UInt8) (b_1 : Nat → UInt8) : Option Bool := (loop (laws_eqByteA6A6.b0 a_1 b_1) 0).bind (ln (fun i1 => some true))

def laws_eqByteA6A6.R (r : Bool) (v : Value) (L : List Asn) : Prop := v = .bool r ∧ L = []

set_option maxRecDepth 100000 in
set_option maxHeartbeats 4000000 in
theorem laws_eqByteA6A6.calls (w : World) (a_1 : Nat → UInt8) (b_1 : Nat → UInt8) :
    ∀ r, laws_eqByteA6A6.f a_1 b_1 = some r → Calls Try.prog 67 #[sval [.arr 36 (enf u8v a_1)], sval [.arr 36 (enf u8v b_1)]] w (Ret w (laws_eqByteA6A6.R r)) := by

  refine calls_T (n := 18) (Γ := [(0, sval [.arr 36 (enf u8v a_1)]), (1, sval [.arr 36 (enf u8v b_1)])]) (R := laws_eqByteA6A6.R) Try.func67 rfl rfl (Nat.le_of_ble_eq_true rfl) ⟨rfl, rfl, trivial⟩ ?_
  unfold laws_eqByteA6A6.f
  refine TC.seq ?_
  refine TC.region ?_
  refine TL.box [.arr 36 (enf u8v a_1)] rfl rfl rfl rfl fun b_2 => ?_
  refine TL.box [.arr 36 (enf u8v b_1)] rfl rfl rfl rfl fun b_3 => ?_
  refine TL.assign rfl rfl (v := .bool false) rfl ?_
  refine TL.done ?_
  refine TC.seq ?_
  refine TC.seq ?_
  refine TC.region ?_
  refine TL.assign rfl rfl (v := .int .i64 0) rfl ?_
  refine TL.done ?_
  refine TC.loopK (σ := Int) (γ := Unit) (Γ' := (fun i1 _ => [(2, bp b_2 0), (3, bp b_3 0), (5, .int .i64 i1)])) (L' := (fun i1 _ => [box b_2 34 [.arr 36 (enf u8v a_1)], box b_3 34 [.arr 36 (enf u8v b_1)]])) (Γb := (fun i1 _ => [(2, bp b_2 0), (3, bp b_3 0), (5, .int .i64 i1)])) (Lb := (fun i1 _ => [box b_2 34 [.arr 36 (enf u8v a_1)], box b_3 34 [.arr 36 (enf u8v b_1)]])) (0) (()) ⟨rfl, rfl, rfl, trivial⟩ [1, 0] rfl ?_ ?_
  · rintro i1 _
    refine TC.seq ?_
    refine TC.seq ?_
    refine TC.region ?_
    refine TL.move rfl rfl (v := .int .i64 i1) rfl ?_
    refine TL.bin .i64 i1 6 rfl rfl rfl rfl (v := .bool (decide (i1 < 6))) rfl ?_
    refine TL.done ?_
    refine TC.cond (b := (decide (i1 < 6))) rfl (fun c1 => ?_) (fun c2 => ?_)
    · refine TC.skip ?_
      refine TC.seq ?_
      refine TC.block (NoEx.loop rfl NoEx.body) ?_
      refine TC.seq ?_
      refine TC.wk (Γ' := [(2, bp b_2 0), (3, bp b_3 0), (5, .int .i64 i1), (6, .int .i64 i1), (7, .bool (decide (i1 < 6)))]) ⟨rfl, rfl, rfl, rfl, rfl, trivial⟩ ?_
      refine TC.chk fun h1 => ?_
      refine TC.bindE fun r_1 hr1 => ?_
      refine TC.draw [.int .i64 i1, bp b_2 (i1.toNat * 6), sval [.arr 6 (enf u8v (sub a_1 (i1.toNat * 6)))], .int .i64 i1, bp b_3 (i1.toNat * 6), sval [.arr 6 (enf u8v (sub b_1 (i1.toNat * 6)))], .bool r_1, .bool (!r_1)] 8 [box b_2 34 [.arr 36 (enf u8v a_1)], box b_3 34 [.arr 36 (enf u8v b_1)]] (by kernel_rfl) rfl rfl rfl rfl ?_ ?_
      · refine ⟨?_, ?_, ?_, ?_, ?_, ?_, ?_, ?_, trivial⟩
        · refine TL.move rfl rfl (v := .int .i64 i1) rfl ?_
          refine TL.done ?_
          exact TC.nrm () () ⟨rfl, trivial⟩ [0, 0] rfl
        · refine TL.ixa i1 (i1.toNat * 6) h1 Try.underlying34 Try.sizeOf33 rfl rfl rfl rfl (by omega) ?_
          refine TL.done ?_
          exact TC.nrm () () ⟨rfl, trivial⟩ [0, 0] rfl
        · refine TL.loadS (i1.toNat * 6) 0 (Src.box 0 rfl) Try.isAgg33 Try.sizeOf33 rfl (by omega) (v := sval [.arr 6 (enf u8v (sub a_1 (i1.toNat * 6)))]) rfl (st := 0) rfl (by omega) rfl rfl rfl ?_
          refine TL.done ?_
          exact TC.nrm () () ⟨rfl, trivial⟩ [0, 0] rfl
        · refine TL.move rfl rfl (v := .int .i64 i1) rfl ?_
          refine TL.done ?_
          exact TC.nrm () () ⟨rfl, trivial⟩ [0, 0] rfl
        · refine TL.ixa i1 (i1.toNat * 6) h1 Try.underlying34 Try.sizeOf33 rfl rfl rfl rfl (by omega) ?_
          refine TL.done ?_
          exact TC.nrm () () ⟨rfl, trivial⟩ [0, 0] rfl
        · refine TL.loadS (i1.toNat * 6) 0 (Src.box 1 rfl) Try.isAgg33 Try.sizeOf33 rfl (by omega) (v := sval [.arr 6 (enf u8v (sub b_1 (i1.toNat * 6)))]) rfl (st := 0) rfl (by omega) rfl rfl rfl ?_
          refine TL.done ?_
          exact TC.nrm () () ⟨rfl, trivial⟩ [0, 0] rfl
        · refine TL.callH (R := G.laws_eqByteA6.R) hr1 Try.call98 rfl rfl rfl (fun w hS => G.laws_eqByteA6.calls w (sub a_1 (i1.toNat * 6)) (sub b_1 (i1.toNat * 6))) ?_
          rintro _ _ ⟨rfl, rfl⟩
          refine TL.done ?_
          exact TC.nrm () () ⟨rfl, trivial⟩ [0, 0] rfl
        · refine TL.not r_1 rfl rfl rfl ?_
          refine TL.done ?_
          exact TC.nrm () () ⟨rfl, trivial⟩ [0, 0] rfl
      · refine TC.cond (b := (!r_1)) rfl (fun c3 => ?_) (fun c4 => ?_)
        · refine TC.seq ?_
          refine TC.region ?_
          refine TL.assign rfl rfl (v := .bool false) rfl ?_
          refine TL.done ?_
          exact TC.retF (Fin.loop Far.ret (Fin.body (fin1 (.inr rfl) rfl (.tmp rfl) [] rfl ⟨rfl, rfl⟩)))
        · refine TC.skip ?_
          refine TC.region ?_
          refine TL.move rfl rfl (v := .int .i64 i1) rfl ?_
          refine TL.bin .i64 i1 1 rfl rfl rfl rfl (v := .int .i64 (w64 (i1 + 1))) rfl ?_
          refine TL.assign rfl rfl (v := .int .i64 (w64 (i1 + 1))) rfl ?_
          refine TL.done ?_
          exact TC.next ((w64 (i1 + 1))) (()) ⟨rfl, rfl, rfl, trivial⟩ [0, 0] rfl
    · exact TC.brk (i1) (()) ⟨rfl, rfl, rfl, trivial⟩ [0, 0] rfl
  · rintro i1 _
    refine TC.seq ?_
    refine TC.region ?_
    refine TL.assign rfl rfl (v := .bool true) rfl ?_
    refine TL.done ?_
    exact TC.retF (Fin.body (fin1 (.inr rfl) rfl (.tmp rfl) [] rfl ⟨rfl, rfl⟩))

end Go.Proofs.Ytgljkechjkllgaa.G
