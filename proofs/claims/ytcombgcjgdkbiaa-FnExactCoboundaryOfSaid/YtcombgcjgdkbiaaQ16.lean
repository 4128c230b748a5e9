/- laws.toInt64S, as a pure function. -/
import Derived.Test.YtcombgcjgdkbiaaProg
import Derived.Test.YtcombgcjgdkbiaaSx9
set_option linter.unusedVariables false
namespace Go.Proofs.Ytcombgcjgdkbiaa.G
open Go Go.Sx Go.Proofs

def laws_toInt64S.b0 (a_1 : List Int) : (List Int) × Int → Option (LB ((List Int) × Int)) := fun p => match p with | (out1, i1) => (bif (decide (i1 < (a_1.length : Int))) then chk i1 a_1.length (chk i1 out1.length (some (.next ((out1.set i1.toNat (gt a_1 i1)), (w64 (i1 + 1)))))) else some (.brk (out1, i1)))

def laws_toInt64S.f (a_1 : List Int) : Option (List Int) := small a_1.length ((loop1 (laws_toInt64S.b0 a_1) ((List.replicate (a_1.length : Int).toNat (0 : Int)), 0)).bind (fun p => match p with | (out1, i1) => some out1))

def laws_toInt64S.R (r : List Int) (v : Value) (L : List Asn) : Prop := ∃ (s0 : SV), v = SV.v s0 ∧ L = [row Ei 2 s0 r]

set_option maxRecDepth 100000 in
set_option maxHeartbeats 4000000 in
theorem laws_toInt64S.calls (w : World) (s1 : SV) (a_1 : List Int) (h1 : Reads Ei (hp w) s1 a_1) :
    ∀ r, laws_toInt64S.f a_1 = some r → Calls Try.prog 16 #[SV.v s1] w (Ret w (laws_toInt64S.R r)) := by

  refine calls_T (n := 22) (Γ := [(0, SV.v s1)]) (R := laws_toInt64S.R) Try.func16 rfl rfl (Nat.le_of_ble_eq_true rfl) ⟨rfl, trivial⟩ ?_
  unfold laws_toInt64S.f
  refine TC.seq ?_
  refine TC.region ?_
  refine TL.assign rfl rfl (v := SV.v ⟨none, 0, 0⟩) rfl ?_
  refine TL.done ?_
  refine TC.seq ?_
  refine TC.region ?_
  refine TL.move rfl rfl (v := SV.v s1) rfl ?_
  refine TL.len (Rd.old h1) Try.underlying22 rfl rfl rfl ?_
  refine TL.small fun h2 => ?_
  refine TL.mkslice Ei (0 : Int) (a_1.length : Int) Try.underlying22 (info_of Try.type2) (zv := (Try.t2.zero.getD (.bool false))) rfl rfl rfl (by simp [Ei, flat, Seg.cells]) (by decide) (by omega) (by omega) rfl rfl rfl rfl fun s2 => ?_
  refine TL.assign rfl rfl (v := SV.v s2) rfl ?_
  refine TL.done ?_
  refine TC.seq ?_
  refine TC.seq ?_
  refine TC.region ?_
  refine TL.assign rfl rfl (v := .int .i64 0) rfl ?_
  refine TL.done ?_
  refine TC.loop1 (σ := (List Int) × Int) (γ := Unit) (Γ' := (fun p q => match p, q with | (out1, i1), _ => [(0, SV.v s1), (3, SV.v s2), (4, .int .i64 i1)])) (L' := (fun p q => match p, q with | (out1, i1), _ => [row Ei 2 s2 out1])) (Γb := (fun p q => match p, q with | (out1, i1), _ => [(0, SV.v s1), (3, SV.v s2), (4, .int .i64 i1)])) (Lb := (fun p q => match p, q with | (out1, i1), _ => [row Ei 2 s2 out1])) (((List.replicate (a_1.length : Int).toNat (0 : Int)), 0)) (()) ⟨rfl, rfl, rfl, trivial⟩ [0] rfl ?_ ?_
  · rintro ⟨out1, i1⟩ _
    refine TC.seq ?_
    refine TC.seq ?_
    refine TC.region ?_
    refine TL.move rfl rfl (v := .int .i64 i1) rfl ?_
    refine TL.move rfl rfl (v := SV.v s1) rfl ?_
    refine TL.len (Rd.old h1) Try.underlying22 rfl rfl rfl ?_
    refine TL.bin .i64 i1 (a_1.length : Int) rfl rfl rfl rfl (v := .bool (decide (i1 < (a_1.length : Int)))) rfl ?_
    refine TL.done ?_
    refine TC.cond (b := (decide (i1 < (a_1.length : Int)))) rfl (fun c1 => ?_) (fun c2 => ?_)
    · refine TC.skip ?_
      refine TC.seq ?_
      refine TC.block (NoEx.loop1 rfl) ?_
      refine TC.region ?_
      refine TL.move rfl rfl (v := SV.v s2) rfl ?_
      refine TL.move rfl rfl (v := .int .i64 i1) rfl ?_
      refine TL.move rfl rfl (v := SV.v s1) rfl ?_
      refine TL.move rfl rfl (v := .int .i64 i1) rfl ?_
      refine TL.chk fun h4 => ?_
      refine TL.ixs i1 i1.toNat (Rd.old h1) h4 Try.underlying22 Try.sizeOf2 rfl rfl rfl rfl (by omega) ?_
      refine TL.loadE (Rd.old h1) Try.isAgg2 i1.toNat 0 (gt_spec h4) (v := .int .i64 (gt a_1 i1)) rfl (by simp only [show Ei.sz = 1 from rfl]; omega) rfl rfl rfl ?_
      refine TL.chk fun h5 => ?_
      refine TL.ixs i1 i1.toNat (Rd.row 0 rfl) h5 Try.underlying22 Try.sizeOf2 rfl rfl rfl rfl (by omega) ?_
      refine TL.stE 0 (i1.toNat) (gt a_1 i1) (v := .int .i64 (gt a_1 i1)) rfl Try.sizeOf2 rfl rfl rfl (by have h_ := h5; omega) (by simp only [show Ei.sz = 1 from rfl]; omega) rfl rfl rfl ?_
      refine TL.done ?_
      refine TC.region ?_
      refine TL.move rfl rfl (v := .int .i64 i1) rfl ?_
      refine TL.bin .i64 i1 1 rfl rfl rfl rfl (v := .int .i64 (w64 (i1 + 1))) rfl ?_
      refine TL.assign rfl rfl (v := .int .i64 (w64 (i1 + 1))) rfl ?_
      refine TL.done ?_
      exact TC.next1 (((out1.set i1.toNat (gt a_1 i1)), (w64 (i1 + 1)))) (()) ⟨rfl, rfl, rfl, trivial⟩ [0] rfl
    · exact TC.brk1 ((out1, i1)) (()) ⟨rfl, rfl, rfl, trivial⟩ [0] rfl
  · rintro ⟨out1, i1⟩ _
    refine TC.seq ?_
    refine TC.region ?_
    refine TL.move rfl rfl (v := SV.v s2) rfl ?_
    refine TL.assign rfl rfl (v := SV.v s2) rfl ?_
    refine TL.done ?_
    exact TC.retF (Fin.body (fin1 (.inr rfl) rfl (.tmp rfl) [0] rfl ⟨s2, rfl, rfl⟩))

end Go.Proofs.Ytcombgcjgdkbiaa.G
