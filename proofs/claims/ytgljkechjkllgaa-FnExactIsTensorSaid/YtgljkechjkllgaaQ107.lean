/- spec.l03Power, as a pure function. -/
import Derived.Test.YtgljkechjkllgaaProg
import Derived.Test.YtgljkechjkllgaaSx9
set_option linter.unusedVariables false
namespace Go.Proofs.Ytgljkechjkllgaa.G
open Go Go.Sx Go.Proofs

def spec_l03Power.b0 (n_1 : Int) : Int × Int → Option (LB (Int × Int)) := fun p => match p with | (k_2, out1) => (bif ((decide (k_2 > 0)) && (decide (out1 ≤ 1296))) then some (.next ((w64 (k_2 - 1)), (w64 (out1 * n_1)))) else some (.brk (k_2, out1)))

def spec_l03Power.f (n_1 : Int) (k_1 : Int) : Option Int := (loop1 (spec_l03Power.b0 n_1) (k_1, 1)).bind (fun p => match p with | (k_2, out1) => some out1)

def spec_l03Power.R (r : Int) (v : Value) (L : List Asn) : Prop := v = .int .i64 r ∧ L = []

set_option maxRecDepth 100000 in
set_option maxHeartbeats 4000000 in
theorem spec_l03Power.calls (w : World) (n_1 : Int) (k_1 : Int) :
    ∀ r, spec_l03Power.f n_1 k_1 = some r → Calls Try.prog 107 #[.int .i64 n_1, .int .i64 k_1] w (Ret w (spec_l03Power.R r)) := by

  refine calls_T (n := 18) (Γ := [(0, .int .i64 n_1), (1, .int .i64 k_1)]) (R := spec_l03Power.R) Try.func107 rfl rfl (Nat.le_of_ble_eq_true rfl) ⟨rfl, rfl, trivial⟩ ?_
  unfold spec_l03Power.f
  refine TC.seq ?_
  refine TC.region ?_
  refine TL.assign rfl rfl (v := .int .i64 0) rfl ?_
  refine TL.done ?_
  refine TC.seq ?_
  refine TC.region ?_
  refine TL.assign rfl rfl (v := .int .i64 1) rfl ?_
  refine TL.done ?_
  refine TC.seq ?_
  refine TC.loop1 (σ := Int × Int) (γ := Unit) (Γ' := (fun p q => match p, q with | (k_2, out1), _ => [(0, .int .i64 n_1), (1, .int .i64 k_2), (5, .int .i64 out1)])) (L' := (fun p q => match p, q with | (k_2, out1), _ => [])) (Γb := (fun p q => match p, q with | (k_2, out1), _ => [(0, .int .i64 n_1), (1, .int .i64 k_2), (5, .int .i64 out1)])) (Lb := (fun p q => match p, q with | (k_2, out1), _ => [])) ((k_1, 1)) (()) ⟨rfl, rfl, rfl, trivial⟩ [] rfl ?_ ?_
  · rintro ⟨k_2, out1⟩ _
    refine TC.seq ?_
    refine TC.seq ?_
    refine TC.region ?_
    refine TL.move rfl rfl (v := .int .i64 k_2) rfl ?_
    refine TL.bin .i64 k_2 0 rfl rfl rfl rfl (v := .bool (decide (k_2 > 0))) rfl ?_
    refine TL.move rfl rfl (v := .bool (decide (k_2 > 0))) rfl ?_
    refine TL.cutU 3 [(11, .bool ((decide (k_2 > 0)) && (decide (out1 ≤ 1296)))), (0, .int .i64 n_1), (1, .int .i64 k_2), (5, .int .i64 out1), (6, .int .i64 k_2), (7, .bool (decide (k_2 > 0))), (8, .bool (decide (k_2 > 0)))] [] ?_ ?_
    · refine TL.cases (t := 8) (b := (decide (k_2 > 0))) rfl (fun c1 => ?_) (fun c2 => ?_)
      · refine TL.move rfl rfl (v := .int .i64 out1) rfl ?_
        refine TL.bin .i64 out1 1296 rfl rfl rfl rfl (v := .bool (decide (out1 ≤ 1296))) rfl ?_
        refine TL.pick rfl rfl (b := true) rfl (r := .bool (decide (out1 ≤ 1296))) rfl ?_
        refine TL.done ?_
        exact TC.nrm () () ⟨(by rw [c1]; rfl), rfl, rfl, rfl, rfl, rfl, (by rw [c1]; rfl), trivial⟩ [] rfl
      · refine TL.skip rfl rfl (by decide) ?_
        refine TL.skip rfl rfl (by decide) ?_
        refine TL.pick rfl rfl (b := false) rfl (r := .bool false) rfl ?_
        refine TL.done ?_
        exact TC.nrm () () ⟨(by rw [c2]; rfl), rfl, rfl, rfl, rfl, rfl, (by rw [c2]; rfl), trivial⟩ [] rfl
    · refine TL.done ?_
      refine TC.cond (b := ((decide (k_2 > 0)) && (decide (out1 ≤ 1296)))) rfl (fun c3 => ?_) (fun c4 => ?_)
      · refine TC.skip ?_
        refine TC.seq ?_
        refine TC.block (NoEx.loop1 rfl) ?_
        refine TC.region ?_
        refine TL.move rfl rfl (v := .int .i64 out1) rfl ?_
        refine TL.move rfl rfl (v := .int .i64 n_1) rfl ?_
        refine TL.bin .i64 out1 n_1 rfl rfl rfl rfl (v := .int .i64 (w64 (out1 * n_1))) rfl ?_
        refine TL.assign rfl rfl (v := .int .i64 (w64 (out1 * n_1))) rfl ?_
        refine TL.done ?_
        refine TC.region ?_
        refine TL.move rfl rfl (v := .int .i64 k_2) rfl ?_
        refine TL.bin .i64 k_2 1 rfl rfl rfl rfl (v := .int .i64 (w64 (k_2 - 1))) rfl ?_
        refine TL.assign rfl rfl (v := .int .i64 (w64 (k_2 - 1))) rfl ?_
        refine TL.done ?_
        exact TC.next1 (((w64 (k_2 - 1)), (w64 (out1 * n_1)))) (()) ⟨rfl, rfl, rfl, trivial⟩ [] rfl
      · exact TC.brk1 ((k_2, out1)) (()) ⟨rfl, rfl, rfl, trivial⟩ [] rfl
  · rintro ⟨k_2, out1⟩ _
    refine TC.seq ?_
    refine TC.region ?_
    refine TL.move rfl rfl (v := .int .i64 out1) rfl ?_
    refine TL.assign rfl rfl (v := .int .i64 out1) rfl ?_
    refine TL.done ?_
    exact TC.retF (Fin.body (fin1 (.inr rfl) rfl (.tmp rfl) [] rfl ⟨rfl, rfl⟩))

end Go.Proofs.Ytgljkechjkllgaa.G
