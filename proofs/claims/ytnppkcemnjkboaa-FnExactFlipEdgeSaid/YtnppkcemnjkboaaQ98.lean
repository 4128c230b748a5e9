/- impl.oriented$1, as a pure function. -/
import Derived.Test.YtnppkcemnjkboaaProg
import Derived.Test.YtnppkcemnjkboaaSx9
set_option linter.unusedVariables false
namespace Go.Proofs.Ytnppkcemnjkboaa.G
open Go Go.Sx Go.Proofs

def impl_oriented_1.f (list_1 : List (Int × Int)) (c1 : List (List Int)) : Option Bool := chk 0 list_1.length (chk ((gt list_1 0).1) c1.length (chk ((gt list_1 0).2) ((gt c1 ((gt list_1 0).1)).length) (chk 1 list_1.length (chk ((gt list_1 1).1) c1.length (chk ((gt list_1 1).2) ((gt c1 ((gt list_1 1).1)).length) (some ((gt (gt c1 ((gt list_1 0).1)) ((gt list_1 0).2)) == (gt (gt c1 ((gt list_1 1).1)) ((gt list_1 1).2)))))))))

def impl_oriented_1.R (r : Bool) (v : Value) (L : List Asn) : Prop := v = .bool r ∧ L = []

set_option maxRecDepth 100000 in
set_option maxHeartbeats 4000000 in
theorem impl_oriented_1.calls (w : World) (s1 : SV) (list_1 : List (Int × Int)) (b_1 : Nat) (s2 : SV) (ss1 : List SV) (c1 : List (List Int)) (h1 : Reads Eii (hp w) s1 list_1) (h3 : At (hp w) b_1 [.one (SV.v s2)]) (h2 : ReadsM Ei (hp w) s2 ss1 c1) :
    ∀ r, impl_oriented_1.f list_1 c1 = some r → Calls Try.prog 98 #[SV.v s1, bp b_1 0] w (Ret w (impl_oriented_1.R r)) := by

  refine calls_T (n := 31) (Γ := [(0, SV.v s1), (1, bp b_1 0)]) (R := impl_oriented_1.R) Try.func98 rfl rfl (Nat.le_of_ble_eq_true rfl) ⟨rfl, rfl, trivial⟩ ?_
  unfold impl_oriented_1.f
  refine TC.seq ?_
  refine TC.region ?_
  refine TL.assign rfl rfl (v := .bool false) rfl ?_
  refine TL.done ?_
  refine TC.seq ?_
  refine TC.wk (Γ' := [(0, SV.v s1), (1, bp b_1 0)]) ⟨rfl, rfl, trivial⟩ ?_
  refine TC.chk fun h4 => ?_
  refine TC.chk fun h5 => ?_
  refine TC.chk fun h6 => ?_
  refine TC.chk fun h7 => ?_
  refine TC.chk fun h8 => ?_
  refine TC.chk fun h9 => ?_
  refine TC.draw [SV.v s2, SV.v s1, ep s1 0, ep s1 0, .int .i64 ((gt list_1 0).1), ep s2 (((gt list_1 0).1).toNat), SV.v (gt ss1 ((gt list_1 0).1)), SV.v s1, ep s1 0, ep s1 1, .int .i64 ((gt list_1 0).2), ep (gt ss1 ((gt list_1 0).1)) (((gt list_1 0).2).toNat), .int .i64 (gt (gt c1 ((gt list_1 0).1)) ((gt list_1 0).2)), SV.v s2, SV.v s1, ep s1 2, ep s1 2, .int .i64 ((gt list_1 1).1), ep s2 (((gt list_1 1).1).toNat), SV.v (gt ss1 ((gt list_1 1).1)), SV.v s1, ep s1 2, ep s1 3, .int .i64 ((gt list_1 1).2), ep (gt ss1 ((gt list_1 1).1)) (((gt list_1 1).2).toNat), .int .i64 (gt (gt c1 ((gt list_1 1).1)) ((gt list_1 1).2)), .bool ((gt (gt c1 ((gt list_1 0).1)) ((gt list_1 0).2)) == (gt (gt c1 ((gt list_1 1).1)) ((gt list_1 1).2))), .bool ((gt (gt c1 ((gt list_1 0).1)) ((gt list_1 0).2)) == (gt (gt c1 ((gt list_1 1).1)) ((gt list_1 1).2)))] 28 [] (by kernel_rfl) rfl rfl rfl rfl ?_ ?_
  · refine ⟨?_, ?_, ?_, ?_, ?_, ?_, ?_, ?_, ?_, ?_, ?_, ?_, ?_, ?_, ?_, ?_, ?_, ?_, ?_, ?_, ?_, ?_, ?_, ?_, ?_, ?_, ?_, ?_, trivial⟩
    · refine TL.load1 0 (Src.at h3) Try.isAgg22 rfl rfl rfl rfl rfl ?_
      refine TL.done ?_
      exact TC.nrm () () ⟨rfl, trivial⟩ [] rfl
    · refine TL.move rfl rfl (v := SV.v s1) rfl ?_
      refine TL.done ?_
      exact TC.nrm () () ⟨rfl, trivial⟩ [] rfl
    · refine TL.ixs 0 0 (Rd.old h1) h4 Try.underlying64 Try.sizeOf68 rfl rfl rfl rfl rfl ?_
      refine TL.done ?_
      exact TC.nrm () () ⟨rfl, trivial⟩ [] rfl
    · refine TL.fae (Rd.old h1) (by have := h4; omega) Try.underlying68 rfl Try.sizeOf3 rfl 0 rfl rfl rfl rfl ?_
      refine TL.done ?_
      exact TC.nrm () () ⟨rfl, trivial⟩ [] rfl
    · refine TL.loadE (Rd.old h1) Try.isAgg3 0 0 (gt_spec h4) (v := .int .i64 ((gt list_1 0).1)) rfl rfl rfl rfl rfl ?_
      refine TL.done ?_
      exact TC.nrm () () ⟨rfl, trivial⟩ [] rfl
    · refine TL.ixsM ((gt list_1 0).1) (((gt list_1 0).1).toNat) (RdM.old h2) h5 Try.underlying22 Try.sizeOf53 rfl rfl rfl rfl (by omega) ?_
      refine TL.done ?_
      exact TC.nrm () () ⟨rfl, trivial⟩ [] rfl
    · refine TL.loadM2 (RdM.old h2) Try.isAgg53 ((gt list_1 0).1) h5 (by omega) rfl rfl rfl ?_
      refine TL.done ?_
      exact TC.nrm () () ⟨rfl, trivial⟩ [] rfl
    · refine TL.move rfl rfl (v := SV.v s1) rfl ?_
      refine TL.done ?_
      exact TC.nrm () () ⟨rfl, trivial⟩ [] rfl
    · refine TL.ixs 0 0 (Rd.old h1) h4 Try.underlying64 Try.sizeOf68 rfl rfl rfl rfl rfl ?_
      refine TL.done ?_
      exact TC.nrm () () ⟨rfl, trivial⟩ [] rfl
    · refine TL.fae (Rd.old h1) (by have := h4; omega) Try.underlying68 rfl Try.sizeOf3 rfl 1 rfl rfl rfl rfl ?_
      refine TL.done ?_
      exact TC.nrm () () ⟨rfl, trivial⟩ [] rfl
    · refine TL.loadE (Rd.old h1) Try.isAgg3 0 1 (gt_spec h4) (v := .int .i64 ((gt list_1 0).2)) rfl rfl rfl rfl rfl ?_
      refine TL.done ?_
      exact TC.nrm () () ⟨rfl, trivial⟩ [] rfl
    · refine TL.ixs ((gt list_1 0).2) (((gt list_1 0).2).toNat) (RdM.inn (RdM.old h2) h5) h6 Try.underlying53 Try.sizeOf2 rfl rfl rfl rfl (by omega) ?_
      refine TL.done ?_
      exact TC.nrm () () ⟨rfl, trivial⟩ [] rfl
    · refine TL.loadE (RdM.inn (RdM.old h2) h5) Try.isAgg2 ((gt list_1 0).2).toNat 0 (gt_spec h6) (v := .int .i64 (gt (gt c1 ((gt list_1 0).1)) ((gt list_1 0).2))) rfl (by simp only [show Ei.sz = 1 from rfl]; omega) rfl rfl rfl ?_
      refine TL.done ?_
      exact TC.nrm () () ⟨rfl, trivial⟩ [] rfl
    · refine TL.load1 0 (Src.at h3) Try.isAgg22 rfl rfl rfl rfl rfl ?_
      refine TL.done ?_
      exact TC.nrm () () ⟨rfl, trivial⟩ [] rfl
    · refine TL.move rfl rfl (v := SV.v s1) rfl ?_
      refine TL.done ?_
      exact TC.nrm () () ⟨rfl, trivial⟩ [] rfl
    · refine TL.ixs 1 2 (Rd.old h1) h7 Try.underlying64 Try.sizeOf68 rfl rfl rfl rfl rfl ?_
      refine TL.done ?_
      exact TC.nrm () () ⟨rfl, trivial⟩ [] rfl
    · refine TL.fae (Rd.old h1) (by have := h7; omega) Try.underlying68 rfl Try.sizeOf3 rfl 2 rfl rfl rfl rfl ?_
      refine TL.done ?_
      exact TC.nrm () () ⟨rfl, trivial⟩ [] rfl
    · refine TL.loadE (Rd.old h1) Try.isAgg3 1 0 (gt_spec h7) (v := .int .i64 ((gt list_1 1).1)) rfl rfl rfl rfl rfl ?_
      refine TL.done ?_
      exact TC.nrm () () ⟨rfl, trivial⟩ [] rfl
    · refine TL.ixsM ((gt list_1 1).1) (((gt list_1 1).1).toNat) (RdM.old h2) h8 Try.underlying22 Try.sizeOf53 rfl rfl rfl rfl (by omega) ?_
      refine TL.done ?_
      exact TC.nrm () () ⟨rfl, trivial⟩ [] rfl
    · refine TL.loadM2 (RdM.old h2) Try.isAgg53 ((gt list_1 1).1) h8 (by omega) rfl rfl rfl ?_
      refine TL.done ?_
      exact TC.nrm () () ⟨rfl, trivial⟩ [] rfl
    · refine TL.move rfl rfl (v := SV.v s1) rfl ?_
      refine TL.done ?_
      exact TC.nrm () () ⟨rfl, trivial⟩ [] rfl
    · refine TL.ixs 1 2 (Rd.old h1) h7 Try.underlying64 Try.sizeOf68 rfl rfl rfl rfl rfl ?_
      refine TL.done ?_
      exact TC.nrm () () ⟨rfl, trivial⟩ [] rfl
    · refine TL.fae (Rd.old h1) (by have := h7; omega) Try.underlying68 rfl Try.sizeOf3 rfl 3 rfl rfl rfl rfl ?_
      refine TL.done ?_
      exact TC.nrm () () ⟨rfl, trivial⟩ [] rfl
    · refine TL.loadE (Rd.old h1) Try.isAgg3 1 1 (gt_spec h7) (v := .int .i64 ((gt list_1 1).2)) rfl rfl rfl rfl rfl ?_
      refine TL.done ?_
      exact TC.nrm () () ⟨rfl, trivial⟩ [] rfl
    · refine TL.ixs ((gt list_1 1).2) (((gt list_1 1).2).toNat) (RdM.inn (RdM.old h2) h8) h9 Try.underlying53 Try.sizeOf2 rfl rfl rfl rfl (by omega) ?_
      refine TL.done ?_
      exact TC.nrm () () ⟨rfl, trivial⟩ [] rfl
    · refine TL.loadE (RdM.inn (RdM.old h2) h8) Try.isAgg2 ((gt list_1 1).2).toNat 0 (gt_spec h9) (v := .int .i64 (gt (gt c1 ((gt list_1 1).1)) ((gt list_1 1).2))) rfl (by simp only [show Ei.sz = 1 from rfl]; omega) rfl rfl rfl ?_
      refine TL.done ?_
      exact TC.nrm () () ⟨rfl, trivial⟩ [] rfl
    · refine TL.bin .i64 (gt (gt c1 ((gt list_1 0).1)) ((gt list_1 0).2)) (gt (gt c1 ((gt list_1 1).1)) ((gt list_1 1).2)) rfl rfl rfl rfl (v := .bool ((gt (gt c1 ((gt list_1 0).1)) ((gt list_1 0).2)) == (gt (gt c1 ((gt list_1 1).1)) ((gt list_1 1).2)))) rfl ?_
      refine TL.done ?_
      exact TC.nrm () () ⟨rfl, trivial⟩ [] rfl
    · refine TL.assign rfl rfl (v := .bool ((gt (gt c1 ((gt list_1 0).1)) ((gt list_1 0).2)) == (gt (gt c1 ((gt list_1 1).1)) ((gt list_1 1).2)))) rfl ?_
      refine TL.done ?_
      exact TC.nrm () () ⟨rfl, trivial⟩ [] rfl
  · exact TC.retF (Fin.body (fin1 (.inr rfl) rfl (.tmp rfl) [] rfl ⟨rfl, rfl⟩))

end Go.Proofs.Ytnppkcemnjkboaa.G
