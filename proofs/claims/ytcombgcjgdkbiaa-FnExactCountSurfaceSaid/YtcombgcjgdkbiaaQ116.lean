/- spec.l06Inverse, as a pure function. -/
import Derived.Test.YtcombgcjgdkbiaaProg
import Derived.Test.YtcombgcjgdkbiaaSx9
set_option linter.unusedVariables false
namespace Go.Proofs.Ytcombgcjgdkbiaa.G
open Go Go.Sx Go.Proofs

def spec_l06Inverse.b0 (g1 : Int) (i1 : Int) (g2 : Nat → UInt8) : Int → Option (LR Int Int) := fun j1 => (bif (decide (j1 < g1)) then chk i1 6 (chk j1 6 ((bif (((g2 (i1.toNat * 6 + j1.toNat)).toNat : Int) == ((0 : UInt8).toNat : Int)) then some (.ret (j1)) else some (.next (w64 (j1 + 1)))))) else some (.brk j1))

def spec_l06Inverse.f (g1 : Int) (g2 : Nat → UInt8) (i1 : Int) : Option Int := (loop (spec_l06Inverse.b0 g1 i1 g2) 0).bind (ln (fun j1 => some 0))

def spec_l06Inverse.R (r : Int) (v : Value) (L : List Asn) : Prop := v = .int .i64 r ∧ L = []

set_option maxRecDepth 100000 in
set_option maxHeartbeats 4000000 in
theorem spec_l06Inverse.calls (w : World) (g1 : Int) (g2 : Nat → UInt8) (i1 : Int) :
    ∀ r, spec_l06Inverse.f g1 g2 i1 = some r → Calls Try.prog 116 #[sval [.one (.int .i64 g1), .arr 36 (enf u8v g2)], .int .i64 i1] w (Ret w (spec_l06Inverse.R r)) := by

  refine calls_T (n := 20) (Γ := [(0, sval [.one (.int .i64 g1), .arr 36 (enf u8v g2)]), (1, .int .i64 i1)]) (R := spec_l06Inverse.R) Try.func116 rfl rfl (Nat.le_of_ble_eq_true rfl) ⟨rfl, rfl, trivial⟩ ?_
  unfold spec_l06Inverse.f
  refine TC.seq ?_
  refine TC.region ?_
  refine TL.box [.one (.int .i64 g1), .arr 36 (enf u8v g2)] rfl rfl rfl rfl fun b_1 => ?_
  refine TL.assign rfl rfl (v := .int .i64 0) rfl ?_
  refine TL.done ?_
  refine TC.seq ?_
  refine TC.seq ?_
  refine TC.region ?_
  refine TL.assign rfl rfl (v := .int .i64 0) rfl ?_
  refine TL.done ?_
  refine TC.loopK (σ := Int) (γ := Unit) (Γ' := (fun j1 _ => [(1, .int .i64 i1), (2, bp b_1 0), (5, .int .i64 j1)])) (L' := (fun j1 _ => [box b_1 37 [.one (.int .i64 g1), .arr 36 (enf u8v g2)]])) (Γb := (fun j1 _ => [(1, .int .i64 i1), (2, bp b_1 0), (5, .int .i64 j1)])) (Lb := (fun j1 _ => [box b_1 37 [.one (.int .i64 g1), .arr 36 (enf u8v g2)]])) (0) (()) ⟨rfl, rfl, rfl, trivial⟩ [0] rfl ?_ ?_
  · rintro j1 _
    refine TC.seq ?_
    refine TC.seq ?_
    refine TC.region ?_
    refine TL.move rfl rfl (v := .int .i64 j1) rfl ?_
    refine TL.fa Try.underlying37 rfl Try.sizeOf2 rfl 0 rfl rfl rfl rfl ?_
    refine TL.load1 0 (Src.box 0 rfl) Try.isAgg2 rfl rfl rfl rfl rfl ?_
    refine TL.bin .i64 j1 g1 rfl rfl rfl rfl (v := .bool (decide (j1 < g1))) rfl ?_
    refine TL.done ?_
    refine TC.cond (b := (decide (j1 < g1))) rfl (fun c1 => ?_) (fun c2 => ?_)
    · refine TC.skip ?_
      refine TC.seq ?_
      refine TC.block (NoEx.loop rfl NoEx.body) ?_
      refine TC.seq ?_
      refine TC.region ?_
      refine TL.move rfl rfl (v := .int .i64 i1) rfl ?_
      refine TL.move rfl rfl (v := .int .i64 j1) rfl ?_
      refine TL.fa Try.underlying37 rfl Try.sizeOf33 rfl 1 rfl rfl rfl rfl ?_
      refine TL.chk fun h1 => ?_
      refine TL.ixa i1 (1 + i1.toNat * 6) h1 Try.underlying33 Try.sizeOf32 rfl rfl rfl rfl (by omega) ?_
      refine TL.chk fun h2 => ?_
      refine TL.ixa j1 (1 + (i1.toNat * 6 + j1.toNat)) h2 Try.underlying32 Try.sizeOf5 rfl rfl rfl rfl (by omega) ?_
      refine TL.loadA (i1.toNat * 6 + j1.toNat) 1 (Src.box 0 rfl) Try.isAgg5 rfl (by omega) (v := u8v (g2 (i1.toNat * 6 + j1.toNat))) rfl (st := 1) rfl (by omega) rfl rfl rfl ?_
      refine TL.bin .u8 ((g2 (i1.toNat * 6 + j1.toNat)).toNat : Int) ((0 : UInt8).toNat : Int) rfl rfl rfl rfl (v := .bool (((g2 (i1.toNat * 6 + j1.toNat)).toNat : Int) == ((0 : UInt8).toNat : Int))) rfl ?_
      refine TL.done ?_
      refine TC.cond (b := (((g2 (i1.toNat * 6 + j1.toNat)).toNat : Int) == ((0 : UInt8).toNat : Int))) rfl (fun c3 => ?_) (fun c4 => ?_)
      · refine TC.seq ?_
        refine TC.region ?_
        refine TL.move rfl rfl (v := .int .i64 j1) rfl ?_
        refine TL.assign rfl rfl (v := .int .i64 j1) rfl ?_
        refine TL.done ?_
        exact TC.retF (Fin.loop Far.ret (Fin.body (fin1 (.inr rfl) rfl (.tmp rfl) [] rfl ⟨rfl, rfl⟩)))
      · refine TC.skip ?_
        refine TC.region ?_
        refine TL.move rfl rfl (v := .int .i64 j1) rfl ?_
        refine TL.bin .i64 j1 1 rfl rfl rfl rfl (v := .int .i64 (w64 (j1 + 1))) rfl ?_
        refine TL.assign rfl rfl (v := .int .i64 (w64 (j1 + 1))) rfl ?_
        refine TL.done ?_
        exact TC.next ((w64 (j1 + 1))) (()) ⟨rfl, rfl, rfl, trivial⟩ [0] rfl
    · exact TC.brk (j1) (()) ⟨rfl, rfl, rfl, trivial⟩ [0] rfl
  · rintro j1 _
    refine TC.seq ?_
    refine TC.region ?_
    refine TL.assign rfl rfl (v := .int .i64 0) rfl ?_
    refine TL.done ?_
    exact TC.retF (Fin.body (fin1 (.inr rfl) rfl (.tmp rfl) [] rfl ⟨rfl, rfl⟩))

end Go.Proofs.Ytcombgcjgdkbiaa.G
