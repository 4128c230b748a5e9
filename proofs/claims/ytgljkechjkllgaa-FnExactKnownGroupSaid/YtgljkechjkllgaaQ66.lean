/- impl.KnownGroup$3, as a pure function. -/
import Derived.Test.YtgljkechjkllgaaProg
import Derived.Test.YtgljkechjkllgaaSx9
set_option linter.unusedVariables false
namespace Go.Proofs.Ytgljkechjkllgaa.G
open Go Go.Sx Go.Proofs

def impl_KnownGroup_3.f (i1 : Int) (j1 : Int) : Option Int := ((bif ((w64 (Int.tdiv i1 3)) == 1) then some (Int.tmod (w64 (3 - (Int.tmod j1 3))) 3) else some (Int.tmod j1 3))).bind (fun d1 => some (w64 ((w64 ((Int.tmod (w64 ((w64 (Int.tdiv i1 3)) + (w64 (Int.tdiv j1 3)))) 2) * 3)) + (Int.tmod (w64 ((Int.tmod i1 3) + d1)) 3))))

def impl_KnownGroup_3.R (r : Int) (v : Value) (L : List Asn) : Prop := v = .int .i64 r ∧ L = []

set_option maxRecDepth 100000 in
set_option maxHeartbeats 4000000 in
theorem impl_KnownGroup_3.calls (w : World) (i1 : Int) (j1 : Int) :
    ∀ r, impl_KnownGroup_3.f i1 j1 = some r → Calls Try.prog 66 #[.int .i64 i1, .int .i64 j1] w (Ret w (impl_KnownGroup_3.R r)) := by

  refine calls_T (n := 32) (Γ := [(0, .int .i64 i1), (1, .int .i64 j1)]) (R := impl_KnownGroup_3.R) Try.func66 rfl rfl (Nat.le_of_ble_eq_true rfl) ⟨rfl, rfl, trivial⟩ ?_
  unfold impl_KnownGroup_3.f
  refine TC.seq ?_
  refine TC.region ?_
  refine TL.assign rfl rfl (v := .int .i64 0) rfl ?_
  refine TL.done ?_
  refine TC.seq ?_
  refine TC.region ?_
  refine TL.move rfl rfl (v := .int .i64 i1) rfl ?_
  refine TL.quo .i64 i1 3 (by decide) rfl rfl rfl rfl ?_
  refine TL.move rfl rfl (v := .int .i64 i1) rfl ?_
  refine TL.rem .i64 i1 3 (by decide) rfl rfl rfl rfl ?_
  refine TL.move rfl rfl (v := .int .i64 j1) rfl ?_
  refine TL.quo .i64 j1 3 (by decide) rfl rfl rfl rfl ?_
  refine TL.move rfl rfl (v := .int .i64 j1) rfl ?_
  refine TL.rem .i64 j1 3 (by decide) rfl rfl rfl rfl ?_
  refine TL.assign rfl rfl (v := .int .i64 (w64 (Int.tdiv i1 3))) rfl ?_
  refine TL.assign rfl rfl (v := .int .i64 (Int.tmod i1 3)) rfl ?_
  refine TL.assign rfl rfl (v := .int .i64 (w64 (Int.tdiv j1 3))) rfl ?_
  refine TL.assign rfl rfl (v := .int .i64 (Int.tmod j1 3)) rfl ?_
  refine TL.done ?_
  refine TC.seq ?_
  refine TC.seq ?_
  refine TC.region ?_
  refine TL.move rfl rfl (v := .int .i64 (w64 (Int.tdiv i1 3))) rfl ?_
  refine TL.bin .i64 (w64 (Int.tdiv i1 3)) 1 rfl rfl rfl rfl (v := .bool ((w64 (Int.tdiv i1 3)) == 1)) rfl ?_
  refine TL.done ?_
  refine TC.join1 (σ := Int) (γ := Unit) (Γ' := (fun d1 _ => [(5, .int .i64 (w64 (Int.tdiv i1 3))), (6, .int .i64 (Int.tmod i1 3)), (7, .int .i64 (w64 (Int.tdiv j1 3))), (8, .int .i64 d1)])) (L' := (fun d1 _ => [])) ?_ ?_
  · refine TC.cond (b := ((w64 (Int.tdiv i1 3)) == 1)) rfl (fun c1 => ?_) (fun c2 => ?_)
    · refine TC.region ?_
      refine TL.move rfl rfl (v := .int .i64 (Int.tmod j1 3)) rfl ?_
      refine TL.bin .i64 3 (Int.tmod j1 3) rfl rfl rfl rfl (v := .int .i64 (w64 (3 - (Int.tmod j1 3)))) rfl ?_
      refine TL.rem .i64 (w64 (3 - (Int.tmod j1 3))) 3 (by decide) rfl rfl rfl rfl ?_
      refine TL.assign rfl rfl (v := .int .i64 (Int.tmod (w64 (3 - (Int.tmod j1 3))) 3)) rfl ?_
      refine TL.done ?_
      exact TC.nrm ((Int.tmod (w64 (3 - (Int.tmod j1 3))) 3)) (()) ⟨rfl, rfl, rfl, rfl, trivial⟩ [] rfl
    · refine TC.skip ?_
      exact TC.nrm ((Int.tmod j1 3)) (()) ⟨rfl, rfl, rfl, rfl, trivial⟩ [] rfl
  · rintro d1 _
    refine TC.seq ?_
    refine TC.region ?_
    refine TL.move rfl rfl (v := .int .i64 (w64 (Int.tdiv i1 3))) rfl ?_
    refine TL.move rfl rfl (v := .int .i64 (w64 (Int.tdiv j1 3))) rfl ?_
    refine TL.bin .i64 (w64 (Int.tdiv i1 3)) (w64 (Int.tdiv j1 3)) rfl rfl rfl rfl (v := .int .i64 (w64 ((w64 (Int.tdiv i1 3)) + (w64 (Int.tdiv j1 3))))) rfl ?_
    refine TL.rem .i64 (w64 ((w64 (Int.tdiv i1 3)) + (w64 (Int.tdiv j1 3)))) 2 (by decide) rfl rfl rfl rfl ?_
    refine TL.bin .i64 (Int.tmod (w64 ((w64 (Int.tdiv i1 3)) + (w64 (Int.tdiv j1 3)))) 2) 3 rfl rfl rfl rfl (v := .int .i64 (w64 ((Int.tmod (w64 ((w64 (Int.tdiv i1 3)) + (w64 (Int.tdiv j1 3)))) 2) * 3))) rfl ?_
    refine TL.move rfl rfl (v := .int .i64 (Int.tmod i1 3)) rfl ?_
    refine TL.move rfl rfl (v := .int .i64 d1) rfl ?_
    refine TL.bin .i64 (Int.tmod i1 3) d1 rfl rfl rfl rfl (v := .int .i64 (w64 ((Int.tmod i1 3) + d1))) rfl ?_
    refine TL.rem .i64 (w64 ((Int.tmod i1 3) + d1)) 3 (by decide) rfl rfl rfl rfl ?_
    refine TL.bin .i64 (w64 ((Int.tmod (w64 ((w64 (Int.tdiv i1 3)) + (w64 (Int.tdiv j1 3)))) 2) * 3)) (Int.tmod (w64 ((Int.tmod i1 3) + d1)) 3) rfl rfl rfl rfl (v := .int .i64 (w64 ((w64 ((Int.tmod (w64 ((w64 (Int.tdiv i1 3)) + (w64 (Int.tdiv j1 3)))) 2) * 3)) + (Int.tmod (w64 ((Int.tmod i1 3) + d1)) 3)))) rfl ?_
    refine TL.assign rfl rfl (v := .int .i64 (w64 ((w64 ((Int.tmod (w64 ((w64 (Int.tdiv i1 3)) + (w64 (Int.tdiv j1 3)))) 2) * 3)) + (Int.tmod (w64 ((Int.tmod i1 3) + d1)) 3)))) rfl ?_
    refine TL.done ?_
    exact TC.retF (Fin.body (fin1 (.inr rfl) rfl (.tmp rfl) [] rfl ⟨rfl, rfl⟩))

end Go.Proofs.Ytgljkechjkllgaa.G
