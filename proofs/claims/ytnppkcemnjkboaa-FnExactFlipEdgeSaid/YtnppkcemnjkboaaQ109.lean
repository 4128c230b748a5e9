/- spec.l07Find, as a pure function. -/
import Derived.Test.YtnppkcemnjkboaaProg
import Derived.Test.YtnppkcemnjkboaaSx9
set_option linter.unusedVariables false
namespace Go.Proofs.Ytnppkcemnjkboaa.G
open Go Go.Sx Go.Proofs

def spec_l07Find.b0 (i1 : Int) (s1 : List (List Int)) (side1 : Int) : Int → Option (LR Int (LR Int (Int × Int))) := fun k_1 => (bif (decide (k_1 < 3)) then chk i1 s1.length (chk k_1 ((gt s1 i1).length) ((bif ((gt (gt s1 i1) k_1) == side1) then some (.ret (.ret ((i1, k_1)))) else some (.next (w64 (k_1 + 1)))))) else some (.brk k_1))

def spec_l07Find.b1 (s1 : List (List Int)) (side1 : Int) : Int → Option (LR Int (Int × Int)) := fun i1 => (bif (decide (i1 < (s1.length : Int))) then (loop (spec_l07Find.b0 i1 s1 side1) 0).bind (ln (fun k_1 => some (.next (w64 (i1 + 1))))) else some (.brk i1))

def spec_l07Find.f (s1 : List (List Int)) (side1 : Int) : Option (Int × Int) := (loop (spec_l07Find.b1 s1 side1) 0).bind (ln (fun i1 => some ((-1), (-1))))

def spec_l07Find.R (r : Int × Int) (v : Value) (L : List Asn) : Prop := v = .tuple #[.int .i64 r.1, .int .i64 r.2] ∧ L = []

set_option maxRecDepth 100000 in
set_option maxHeartbeats 4000000 in
theorem spec_l07Find.calls (w : World) (s2 : SV) (ss1 : List SV) (s1 : List (List Int)) (side1 : Int) (h1 : ReadsM Ei (hp w) s2 ss1 s1) :
    ∀ r, spec_l07Find.f s1 side1 = some r → Calls Try.prog 109 #[SV.v s2, .int .i64 side1] w (Ret w (spec_l07Find.R r)) := by

  refine calls_T (n := 29) (Γ := [(0, SV.v s2), (1, .int .i64 side1)]) (R := spec_l07Find.R) Try.func109 rfl rfl (Nat.le_of_ble_eq_true rfl) ⟨rfl, rfl, trivial⟩ ?_
  unfold spec_l07Find.f
  refine TC.seq ?_
  refine TC.region ?_
  refine TL.assign rfl rfl (v := .int .i64 0) rfl ?_
  refine TL.assign rfl rfl (v := .int .i64 0) rfl ?_
  refine TL.done ?_
  refine TC.seq ?_
  refine TC.seq ?_
  refine TC.region ?_
  refine TL.assign rfl rfl (v := .int .i64 0) rfl ?_
  refine TL.done ?_
  refine TC.loopK (σ := Int) (γ := Unit) (Γ' := (fun i1 _ => [(0, SV.v s2), (1, .int .i64 side1), (6, .int .i64 i1)])) (L' := (fun i1 _ => [])) (Γb := (fun i1 _ => [(0, SV.v s2), (1, .int .i64 side1), (6, .int .i64 i1)])) (Lb := (fun i1 _ => [])) (0) (()) ⟨rfl, rfl, rfl, trivial⟩ [] rfl ?_ ?_
  · rintro i1 _
    refine TC.seq ?_
    refine TC.seq ?_
    refine TC.region ?_
    refine TL.move rfl rfl (v := .int .i64 i1) rfl ?_
    refine TL.move rfl rfl (v := SV.v s2) rfl ?_
    refine TL.lenM (RdM.old h1) Try.underlying22 rfl rfl rfl ?_
    refine TL.bin .i64 i1 (s1.length : Int) rfl rfl rfl rfl (v := .bool (decide (i1 < (s1.length : Int)))) rfl ?_
    refine TL.done ?_
    refine TC.cond (b := (decide (i1 < (s1.length : Int)))) rfl (fun c1 => ?_) (fun c2 => ?_)
    · refine TC.skip ?_
      refine TC.seq ?_
      refine TC.block (NoEx.loop rfl NoEx.body) ?_
      refine TC.seq ?_
      refine TC.region ?_
      refine TL.assign rfl rfl (v := .int .i64 0) rfl ?_
      refine TL.done ?_
      refine TC.loopK (σ := Int) (γ := Unit) (Γ' := (fun k_1 _ => [(0, SV.v s2), (1, .int .i64 side1), (6, .int .i64 i1), (7, .int .i64 k_1)])) (L' := (fun k_1 _ => [])) (Γb := (fun k_1 _ => [(0, SV.v s2), (1, .int .i64 side1), (6, .int .i64 i1), (7, .int .i64 k_1)])) (Lb := (fun k_1 _ => [])) (0) (()) ⟨rfl, rfl, rfl, rfl, trivial⟩ [] rfl ?_ ?_
      · rintro k_1 _
        refine TC.seq ?_
        refine TC.seq ?_
        refine TC.region ?_
        refine TL.move rfl rfl (v := .int .i64 k_1) rfl ?_
        refine TL.bin .i64 k_1 3 rfl rfl rfl rfl (v := .bool (decide (k_1 < 3))) rfl ?_
        refine TL.done ?_
        refine TC.cond (b := (decide (k_1 < 3))) rfl (fun c3 => ?_) (fun c4 => ?_)
        · refine TC.skip ?_
          refine TC.seq ?_
          refine TC.block (NoEx.loop rfl (NoEx.loop rfl NoEx.body)) ?_
          refine TC.seq ?_
          refine TC.region ?_
          refine TL.move rfl rfl (v := SV.v s2) rfl ?_
          refine TL.move rfl rfl (v := .int .i64 i1) rfl ?_
          refine TL.chk fun h2 => ?_
          refine TL.ixsM i1 i1.toNat (RdM.old h1) h2 Try.underlying22 Try.sizeOf53 rfl rfl rfl rfl (by omega) ?_
          refine TL.loadM2 (RdM.old h1) Try.isAgg53 i1 h2 (by omega) rfl rfl rfl ?_
          refine TL.move rfl rfl (v := .int .i64 k_1) rfl ?_
          refine TL.chk fun h3 => ?_
          refine TL.ixs k_1 k_1.toNat (RdM.inn (RdM.old h1) h2) h3 Try.underlying53 Try.sizeOf2 rfl rfl rfl rfl (by omega) ?_
          refine TL.loadE (RdM.inn (RdM.old h1) h2) Try.isAgg2 k_1.toNat 0 (gt_spec h3) (v := .int .i64 (gt (gt s1 i1) k_1)) rfl (by simp only [show Ei.sz = 1 from rfl]; omega) rfl rfl rfl ?_
          refine TL.move rfl rfl (v := .int .i64 side1) rfl ?_
          refine TL.bin .i64 (gt (gt s1 i1) k_1) side1 rfl rfl rfl rfl (v := .bool ((gt (gt s1 i1) k_1) == side1)) rfl ?_
          refine TL.done ?_
          refine TC.cond (b := ((gt (gt s1 i1) k_1) == side1)) rfl (fun c5 => ?_) (fun c6 => ?_)
          · refine TC.seq ?_
            refine TC.region ?_
            refine TL.move rfl rfl (v := .int .i64 i1) rfl ?_
            refine TL.move rfl rfl (v := .int .i64 k_1) rfl ?_
            refine TL.assign rfl rfl (v := .int .i64 i1) rfl ?_
            refine TL.assign rfl rfl (v := .int .i64 k_1) rfl ?_
            refine TL.done ?_
            exact TC.retF (Fin.loop Far.ret (Fin.loop Far.ret (Fin.body (fin2 (.inr rfl) rfl (.tmp rfl) (.tmp rfl) [] rfl ⟨rfl, rfl⟩))))
          · refine TC.skip ?_
            refine TC.region ?_
            refine TL.move rfl rfl (v := .int .i64 k_1) rfl ?_
            refine TL.bin .i64 k_1 1 rfl rfl rfl rfl (v := .int .i64 (w64 (k_1 + 1))) rfl ?_
            refine TL.assign rfl rfl (v := .int .i64 (w64 (k_1 + 1))) rfl ?_
            refine TL.done ?_
            exact TC.next ((w64 (k_1 + 1))) (()) ⟨rfl, rfl, rfl, rfl, trivial⟩ [] rfl
        · exact TC.brk (k_1) (()) ⟨rfl, rfl, rfl, rfl, trivial⟩ [] rfl
      · rintro k_1 _
        refine TC.region ?_
        refine TL.move rfl rfl (v := .int .i64 i1) rfl ?_
        refine TL.bin .i64 i1 1 rfl rfl rfl rfl (v := .int .i64 (w64 (i1 + 1))) rfl ?_
        refine TL.assign rfl rfl (v := .int .i64 (w64 (i1 + 1))) rfl ?_
        refine TL.done ?_
        exact TC.next ((w64 (i1 + 1))) (()) ⟨rfl, rfl, rfl, trivial⟩ [] rfl
    · exact TC.brk (i1) (()) ⟨rfl, rfl, rfl, trivial⟩ [] rfl
  · rintro i1 _
    refine TC.seq ?_
    refine TC.region ?_
    refine TL.assign rfl rfl (v := .int .i64 (-1)) rfl ?_
    refine TL.assign rfl rfl (v := .int .i64 (-1)) rfl ?_
    refine TL.done ?_
    exact TC.retF (Fin.body (fin2 (.inr rfl) rfl (.tmp rfl) (.tmp rfl) [] rfl ⟨rfl, rfl⟩))

end Go.Proofs.Ytnppkcemnjkboaa.G
