/- impl.powerOf, as a pure function. -/
import Derived.Test.YtgljkechjkllgaaProg
import Derived.Test.YtgljkechjkllgaaSx9
set_option linter.unusedVariables false
namespace Go.Proofs.Ytgljkechjkllgaa.G
open Go Go.Sx Go.Proofs

def impl_powerOf.b0 (k_1 : Int) (n_1 : Int) : Int × Int → Option (LR (Int × Int) Int) := fun p => match p with | (out1, x1) => (bif (decide (x1 < k_1)) then (bif (decide ((w64 (out1 * n_1)) > 1296)) then some (.ret ((w64 (out1 * n_1)))) else some (.next ((w64 (out1 * n_1)), (w64 (x1 + 1))))) else some (.brk (out1, x1)))

def impl_powerOf.f (n_1 : Int) (k_1 : Int) : Option Int := (loop (impl_powerOf.b0 k_1 n_1) (1, 0)).bind (ln (fun p => match p with | (out1, x1) => some out1))

def impl_powerOf.R (r : Int) (v : Value) (L : List Asn) : Prop := v = .int .i64 r ∧ L = []

set_option maxRecDepth 100000 in
set_option maxHeartbeats 4000000 in
theorem impl_powerOf.calls (w : World) (n_1 : Int) (k_1 : Int) :
    ∀ r, impl_powerOf.f n_1 k_1 = some r → Calls Try.prog 89 #[.int .i64 n_1, .int .i64 k_1] w (Ret w (impl_powerOf.R r)) := by

  refine calls_T (n := 17) (Γ := [(0, .int .i64 n_1), (1, .int .i64 k_1)]) (R := impl_powerOf.R) Try.func89 rfl rfl (Nat.le_of_ble_eq_true rfl) ⟨rfl, rfl, trivial⟩ ?_
  unfold impl_powerOf.f
  refine TC.seq ?_
  refine TC.region ?_
  refine TL.assign rfl rfl (v := .int .i64 0) rfl ?_
  refine TL.done ?_
  refine TC.seq ?_
  refine TC.region ?_
  refine TL.assign rfl rfl (v := .int .i64 1) rfl ?_
  refine TL.done ?_
  refine TC.seq ?_
  refine TC.seq ?_
  refine TC.region ?_
  refine TL.move rfl rfl (v := .int .i64 k_1) rfl ?_
  refine TL.move rfl rfl (v := .int .i64 0) rfl ?_
  refine TL.done ?_
  refine TC.loopK (σ := Int × Int) (γ := Unit) (Γ' := (fun p q => match p, q with | (out1, x1), _ => [(0, .int .i64 n_1), (5, .int .i64 out1), (6, .int .i64 k_1), (7, .int .i64 x1)])) (L' := (fun p q => match p, q with | (out1, x1), _ => [])) (Γb := (fun p q => match p, q with | (out1, x1), _ => [(0, .int .i64 n_1), (5, .int .i64 out1), (6, .int .i64 k_1), (7, .int .i64 x1)])) (Lb := (fun p q => match p, q with | (out1, x1), _ => [])) ((1, 0)) (()) ⟨rfl, rfl, rfl, rfl, trivial⟩ [] rfl ?_ ?_
  · rintro ⟨out1, x1⟩ _
    refine TC.seq ?_
    refine TC.region ?_
    refine TL.bin .i64 x1 k_1 rfl rfl rfl rfl (v := .bool (decide (x1 < k_1))) rfl ?_
    refine TL.done ?_
    refine TC.seq ?_
    refine TC.cond (b := (decide (x1 < k_1))) rfl (fun c1 => ?_) (fun c2 => ?_)
    · refine TC.skip ?_
      refine TC.seq ?_
      refine TC.block (NoEx.loop rfl NoEx.body) ?_
      refine TC.seq ?_
      refine TC.region ?_
      refine TL.move rfl rfl (v := .int .i64 out1) rfl ?_
      refine TL.move rfl rfl (v := .int .i64 n_1) rfl ?_
      refine TL.bin .i64 out1 n_1 rfl rfl rfl rfl (v := .int .i64 (w64 (out1 * n_1))) rfl ?_
      refine TL.assign rfl rfl (v := .int .i64 (w64 (out1 * n_1))) rfl ?_
      refine TL.done ?_
      refine TC.seq ?_
      refine TC.region ?_
      refine TL.move rfl rfl (v := .int .i64 (w64 (out1 * n_1))) rfl ?_
      refine TL.bin .i64 (w64 (out1 * n_1)) 1296 rfl rfl rfl rfl (v := .bool (decide ((w64 (out1 * n_1)) > 1296))) rfl ?_
      refine TL.done ?_
      refine TC.cond (b := (decide ((w64 (out1 * n_1)) > 1296))) rfl (fun c3 => ?_) (fun c4 => ?_)
      · refine TC.seq ?_
        refine TC.region ?_
        refine TL.move rfl rfl (v := .int .i64 (w64 (out1 * n_1))) rfl ?_
        refine TL.assign rfl rfl (v := .int .i64 (w64 (out1 * n_1))) rfl ?_
        refine TL.done ?_
        exact TC.retF (Fin.loop Far.ret (Fin.body (fin1 (.inr rfl) rfl (.tmp rfl) [] rfl ⟨rfl, rfl⟩)))
      · refine TC.skip ?_
        refine TC.region ?_
        refine TL.bin .i64 x1 1 rfl rfl rfl rfl (v := .int .i64 (w64 (x1 + 1))) rfl ?_
        refine TL.move rfl rfl (v := .int .i64 (w64 (x1 + 1))) rfl ?_
        refine TL.done ?_
        exact TC.next (((w64 (out1 * n_1)), (w64 (x1 + 1)))) (()) ⟨rfl, rfl, rfl, rfl, trivial⟩ [] rfl
    · exact TC.brk ((out1, x1)) (()) ⟨rfl, rfl, rfl, rfl, trivial⟩ [] rfl
  · rintro ⟨out1, x1⟩ _
    refine TC.seq ?_
    refine TC.region ?_
    refine TL.move rfl rfl (v := .int .i64 out1) rfl ?_
    refine TL.assign rfl rfl (v := .int .i64 out1) rfl ?_
    refine TL.done ?_
    exact TC.retF (Fin.body (fin1 (.inr rfl) rfl (.tmp rfl) [] rfl ⟨rfl, rfl⟩))

end Go.Proofs.Ytgljkechjkllgaa.G
