/- impl.Group).times, as a pure function. -/
import Derived.Test.YtcombgcjgdkbiaaProg
import Derived.Test.YtcombgcjgdkbiaaSx9
set_option linter.unusedVariables false
namespace Go.Proofs.Ytcombgcjgdkbiaa.G
open Go Go.Sx Go.Proofs

def impl_Group_times.f (g1 : Int) (g2 : Nat → UInt8) (i1 : Int) (j1 : Int) : Option Int := chk i1 6 (chk j1 6 (some ((g2 (i1.toNat * 6 + j1.toNat)).toNat : Int)))

def impl_Group_times.R (r : Int) (v : Value) (L : List Asn) : Prop := v = .int .i64 r ∧ L = []

set_option maxRecDepth 100000 in
set_option maxHeartbeats 4000000 in
theorem impl_Group_times.calls (w : World) (b_1 : Nat) (g1 : Int) (g2 : Nat → UInt8) (i1 : Int) (j1 : Int) (h1 : At (hp w) b_1 [.one (.int .i64 g1), .arr 36 (enf u8v g2)]) :
    ∀ r, impl_Group_times.f g1 g2 i1 j1 = some r → Calls Try.prog 66 #[bp b_1 0, .int .i64 i1, .int .i64 j1] w (Ret w (impl_Group_times.R r)) := by

  refine calls_T (n := 16) (Γ := [(0, bp b_1 0), (1, .int .i64 i1), (2, .int .i64 j1)]) (R := impl_Group_times.R) Try.func66 rfl rfl (Nat.le_of_ble_eq_true rfl) ⟨rfl, rfl, rfl, trivial⟩ ?_
  unfold impl_Group_times.f
  refine TC.seq ?_
  refine TC.region ?_
  refine TL.assign rfl rfl (v := .int .i64 0) rfl ?_
  refine TL.done ?_
  refine TC.seq ?_
  refine TC.region ?_
  refine TL.move rfl rfl (v := bp b_1 0) rfl ?_
  refine TL.move rfl rfl (v := .int .i64 i1) rfl ?_
  refine TL.move rfl rfl (v := .int .i64 j1) rfl ?_
  refine TL.nilCheck rfl rfl rfl ?_
  refine TL.fa Try.underlying37 rfl Try.sizeOf33 rfl 1 rfl rfl rfl rfl ?_
  refine TL.chk fun h2 => ?_
  refine TL.ixa i1 (1 + i1.toNat * 6) h2 Try.underlying33 Try.sizeOf32 rfl rfl rfl rfl (by omega) ?_
  refine TL.chk fun h3 => ?_
  refine TL.ixa j1 (1 + (i1.toNat * 6 + j1.toNat)) h3 Try.underlying32 Try.sizeOf5 rfl rfl rfl rfl (by omega) ?_
  refine TL.loadA (i1.toNat * 6 + j1.toNat) 1 (Src.at h1) Try.isAgg5 rfl (by omega) (v := u8v (g2 (i1.toNat * 6 + j1.toNat))) rfl (st := 1) rfl (by omega) rfl rfl rfl ?_
  refine TL.conv .u8 .i64 ((g2 (i1.toNat * 6 + j1.toNat)).toNat : Int) _ rfl rfl rfl Try.underlying5 Try.underlying3 (v := .int .i64 ((g2 (i1.toNat * 6 + j1.toNat)).toNat : Int)) (conv_u8_i64 _) ?_
  refine TL.assign rfl rfl (v := .int .i64 ((g2 (i1.toNat * 6 + j1.toNat)).toNat : Int)) rfl ?_
  refine TL.done ?_
  exact TC.retF (Fin.body (fin1 (.inr rfl) rfl (.tmp rfl) [] rfl ⟨rfl, rfl⟩))

end Go.Proofs.Ytcombgcjgdkbiaa.G
