/- impl.from, as a pure function. -/
import Derived.Test.YtnppkcemnjkboaaProg
import Derived.Test.YtnppkcemnjkboaaSx9
set_option linter.unusedVariables false
namespace Go.Proofs.Ytnppkcemnjkboaa.G
open Go Go.Sx Go.Proofs

def impl_from.f (t1 : List Int) (at_1 : Int) : Option (Int × Int) := chk (Int.tmod (w64 (at_1 + 1)) 3) t1.length (chk (Int.tmod (w64 (at_1 + 2)) 3) t1.length (some ((gt t1 (Int.tmod (w64 (at_1 + 1)) 3)), (gt t1 (Int.tmod (w64 (at_1 + 2)) 3)))))

def impl_from.R (r : Int × Int) (v : Value) (L : List Asn) : Prop := v = .tuple #[.int .i64 r.1, .int .i64 r.2] ∧ L = []

set_option maxRecDepth 100000 in
set_option maxHeartbeats 4000000 in
theorem impl_from.calls (w : World) (s1 : SV) (t1 : List Int) (at_1 : Int) (h1 : Reads Ei (hp w) s1 t1) :
    ∀ r, impl_from.f t1 at_1 = some r → Calls Try.prog 75 #[SV.v s1, .int .i64 at_1] w (Ret w (impl_from.R r)) := by

  refine calls_T (n := 18) (Γ := [(0, SV.v s1), (1, .int .i64 at_1)]) (R := impl_from.R) Try.func75 rfl rfl (Nat.le_of_ble_eq_true rfl) ⟨rfl, rfl, trivial⟩ ?_
  unfold impl_from.f
  refine TC.seq ?_
  refine TC.region ?_
  refine TL.assign rfl rfl (v := .int .i64 0) rfl ?_
  refine TL.assign rfl rfl (v := .int .i64 0) rfl ?_
  refine TL.done ?_
  refine TC.seq ?_
  refine TC.wk (Γ' := [(0, SV.v s1), (1, .int .i64 at_1)]) ⟨rfl, rfl, trivial⟩ ?_
  refine TC.chk fun h2 => ?_
  refine TC.chk fun h3 => ?_
  refine TC.draw [SV.v s1, .int .i64 at_1, .int .i64 (w64 (at_1 + 1)), .int .i64 (Int.tmod (w64 (at_1 + 1)) 3), ep s1 ((Int.tmod (w64 (at_1 + 1)) 3).toNat), .int .i64 (gt t1 (Int.tmod (w64 (at_1 + 1)) 3)), SV.v s1, .int .i64 at_1, .int .i64 (w64 (at_1 + 2)), .int .i64 (Int.tmod (w64 (at_1 + 2)) 3), ep s1 ((Int.tmod (w64 (at_1 + 2)) 3).toNat), .int .i64 (gt t1 (Int.tmod (w64 (at_1 + 2)) 3)), .int .i64 (gt t1 (Int.tmod (w64 (at_1 + 1)) 3)), .int .i64 (gt t1 (Int.tmod (w64 (at_1 + 2)) 3))] 14 [] (by kernel_rfl) rfl rfl rfl rfl ?_ ?_
  · refine ⟨?_, ?_, ?_, ?_, ?_, ?_, ?_, ?_, ?_, ?_, ?_, ?_, ?_, ?_, trivial⟩
    · refine TL.move rfl rfl (v := SV.v s1) rfl ?_
      refine TL.done ?_
      exact TC.nrm () () ⟨rfl, trivial⟩ [] rfl
    · refine TL.move rfl rfl (v := .int .i64 at_1) rfl ?_
      refine TL.done ?_
      exact TC.nrm () () ⟨rfl, trivial⟩ [] rfl
    · refine TL.bin .i64 at_1 1 rfl rfl rfl rfl (v := .int .i64 (w64 (at_1 + 1))) rfl ?_
      refine TL.done ?_
      exact TC.nrm () () ⟨rfl, trivial⟩ [] rfl
    · refine TL.rem .i64 (w64 (at_1 + 1)) 3 (by decide) rfl rfl rfl rfl ?_
      refine TL.done ?_
      exact TC.nrm () () ⟨rfl, trivial⟩ [] rfl
    · refine TL.ixs (Int.tmod (w64 (at_1 + 1)) 3) ((Int.tmod (w64 (at_1 + 1)) 3).toNat) (Rd.old h1) h2 Try.underlying53 Try.sizeOf2 rfl rfl rfl rfl (by omega) ?_
      refine TL.done ?_
      exact TC.nrm () () ⟨rfl, trivial⟩ [] rfl
    · refine TL.loadE (Rd.old h1) Try.isAgg2 (Int.tmod (w64 (at_1 + 1)) 3).toNat 0 (gt_spec h2) (v := .int .i64 (gt t1 (Int.tmod (w64 (at_1 + 1)) 3))) rfl (by simp only [show Ei.sz = 1 from rfl]; omega) rfl rfl rfl ?_
      refine TL.done ?_
      exact TC.nrm () () ⟨rfl, trivial⟩ [] rfl
    · refine TL.move rfl rfl (v := SV.v s1) rfl ?_
      refine TL.done ?_
      exact TC.nrm () () ⟨rfl, trivial⟩ [] rfl
    · refine TL.move rfl rfl (v := .int .i64 at_1) rfl ?_
      refine TL.done ?_
      exact TC.nrm () () ⟨rfl, trivial⟩ [] rfl
    · refine TL.bin .i64 at_1 2 rfl rfl rfl rfl (v := .int .i64 (w64 (at_1 + 2))) rfl ?_
      refine TL.done ?_
      exact TC.nrm () () ⟨rfl, trivial⟩ [] rfl
    · refine TL.rem .i64 (w64 (at_1 + 2)) 3 (by decide) rfl rfl rfl rfl ?_
      refine TL.done ?_
      exact TC.nrm () () ⟨rfl, trivial⟩ [] rfl
    · refine TL.ixs (Int.tmod (w64 (at_1 + 2)) 3) ((Int.tmod (w64 (at_1 + 2)) 3).toNat) (Rd.old h1) h3 Try.underlying53 Try.sizeOf2 rfl rfl rfl rfl (by omega) ?_
      refine TL.done ?_
      exact TC.nrm () () ⟨rfl, trivial⟩ [] rfl
    · refine TL.loadE (Rd.old h1) Try.isAgg2 (Int.tmod (w64 (at_1 + 2)) 3).toNat 0 (gt_spec h3) (v := .int .i64 (gt t1 (Int.tmod (w64 (at_1 + 2)) 3))) rfl (by simp only [show Ei.sz = 1 from rfl]; omega) rfl rfl rfl ?_
      refine TL.done ?_
      exact TC.nrm () () ⟨rfl, trivial⟩ [] rfl
    · refine TL.assign rfl rfl (v := .int .i64 (gt t1 (Int.tmod (w64 (at_1 + 1)) 3))) rfl ?_
      refine TL.done ?_
      exact TC.nrm () () ⟨rfl, trivial⟩ [] rfl
    · refine TL.assign rfl rfl (v := .int .i64 (gt t1 (Int.tmod (w64 (at_1 + 2)) 3))) rfl ?_
      refine TL.done ?_
      exact TC.nrm () () ⟨rfl, trivial⟩ [] rfl
  · exact TC.retF (Fin.body (fin2 (.inr rfl) rfl (.tmp rfl) (.tmp rfl) [] rfl ⟨rfl, rfl⟩))

end Go.Proofs.Ytnppkcemnjkboaa.G
