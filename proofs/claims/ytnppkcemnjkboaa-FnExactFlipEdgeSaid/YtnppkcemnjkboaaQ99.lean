/- spec.l07Copy, as a pure function. -/
import Derived.Test.YtnppkcemnjkboaaProg
import Derived.Test.YtnppkcemnjkboaaSx9
import Derived.Test.YtnppkcemnjkboaaQ115
set_option linter.unusedVariables false
namespace Go.Proofs.Ytnppkcemnjkboaa.G
open Go Go.Sx Go.Proofs

def spec_l07Copy.b0 (s1 : List (List Int)) : (List (List Int)) × Int → Option (LB ((List (List Int)) × Int)) := fun p => match p with | (out1, i1) => (bif (decide (i1 < (s1.length : Int))) then chk i1 s1.length ((G.spec_l01Own.f (gt s1 i1)).bind (fun r_1 => small (out1.length + 1) (some (.next ((out1 ++ [r_1]), (w64 (i1 + 1))))))) else some (.brk (out1, i1)))

def spec_l07Copy.f (s1 : List (List Int)) : Option (List (List Int)) := (loop1 (spec_l07Copy.b0 s1) (([] : List (List Int)), 0)).bind (fun p => match p with | (out1, i1) => some out1)

def spec_l07Copy.R (r : List (List Int)) (v : Value) (L : List Asn) : Prop := ∃ (s0 : SV) (ss0 : List SV), v = SV.v s0 ∧ L = [mat Ei 2 53 s0 ss0 r]

set_option maxRecDepth 100000 in
set_option maxHeartbeats 4000000 in
theorem spec_l07Copy.calls (w : World) (s2 : SV) (ss1 : List SV) (s1 : List (List Int)) (h1 : ReadsM Ei (hp w) s2 ss1 s1) :
    ∀ r, spec_l07Copy.f s1 = some r → Calls Try.prog 99 #[SV.v s2] w (Ret w (spec_l07Copy.R r)) := by

  refine calls_T (n := 21) (Γ := [(0, SV.v s2)]) (R := spec_l07Copy.R) Try.func99 rfl rfl (Nat.le_of_ble_eq_true rfl) ⟨rfl, trivial⟩ ?_
  unfold spec_l07Copy.f
  refine TC.seq ?_
  refine TC.region ?_
  refine TL.assign rfl rfl (v := SV.v ⟨none, 0, 0⟩) rfl ?_
  refine TL.done ?_
  refine TC.seq ?_
  refine TC.region ?_
  refine TL.bslice0 Ev Try.underlying22 Try.sizeOf53 rfl rfl fun s3 => ?_
  refine TL.rows0 Ei 2 ?_
  refine TL.matmk 1 0 rfl rfl ?_
  refine TL.asL [mat Ei 2 53 s3 ([] : List SV) ([] : List (List Int)), emp] rfl ?_
  refine TL.assign rfl rfl (v := SV.v s3) rfl ?_
  refine TL.done ?_
  refine TC.seq ?_
  refine TC.seq ?_
  refine TC.region ?_
  refine TL.assign rfl rfl (v := .int .i64 0) rfl ?_
  refine TL.done ?_
  refine TC.loop1 (σ := (List (List Int)) × Int) (γ := SV × (List SV)) (Γ' := (fun p q => match p, q with | (out1, i1), (s4, ss2) => [(0, SV.v s2), (3, SV.v s4), (4, .int .i64 i1)])) (L' := (fun p q => match p, q with | (out1, i1), (s4, ss2) => [mat Ei 2 53 s4 ss2 out1])) (Γb := (fun p q => match p, q with | (out1, i1), (s4, ss2) => [(0, SV.v s2), (3, SV.v s4), (4, .int .i64 i1)])) (Lb := (fun p q => match p, q with | (out1, i1), (s4, ss2) => [mat Ei 2 53 s4 ss2 out1])) ((([] : List (List Int)), 0)) ((s3, ([] : List SV))) ⟨rfl, rfl, rfl, trivial⟩ [0] rfl ?_ ?_
  · rintro ⟨out1, i1⟩ ⟨s4, ss2⟩
    refine TC.seq ?_
    refine TC.seq ?_
    refine TC.region ?_
    refine TL.move rfl rfl (v := .int .i64 i1) rfl ?_
    refine TL.move rfl rfl (v := SV.v s2) rfl ?_
    refine TL.lenM (RdM.old h1) Try.underlying22 rfl rfl rfl ?_
    refine TL.bin .i64 i1 (s1.length : Int) rfl rfl rfl rfl (v := .bool (decide (i1 < (s1.length : Int)))) rfl ?_
    refine TL.done ?_
    refine TC.cond (b := (decide (i1 < (s1.length : Int)))) rfl (fun c1 => ?_) (fun c2 => ?_)
    · refine TC.skip ?_
      refine TC.seq ?_
      refine TC.block (NoEx.loop1 rfl) ?_
      refine TC.region ?_
      refine TL.move rfl rfl (v := SV.v s4) rfl ?_
      refine TL.move rfl rfl (v := SV.v s2) rfl ?_
      refine TL.move rfl rfl (v := .int .i64 i1) rfl ?_
      refine TL.chk fun h2 => ?_
      refine TL.ixsM i1 i1.toNat (RdM.old h1) h2 Try.underlying22 Try.sizeOf53 rfl rfl rfl rfl (by omega) ?_
      refine TL.loadM2 (RdM.old h1) Try.isAgg53 i1 h2 (by omega) rfl rfl rfl ?_
      refine TL.call (R := G.spec_l01Own.R) Try.call115 rfl rfl rfl (fun w hS => G.spec_l01Own.calls w (gt ss1 i1) (gt s1 i1) ((RdM.inn (RdM.old h1) h2) w hS)) ?_
      rintro r_1 _ _ ⟨s5, rfl, rfl⟩
      refine TL.blit Ev ([s5] : List SV) Try.underlying22 Try.sizeOf53 Try.zeroValue53 rfl rfl rfl [(0, SV.v s5)] rfl ⟨rfl, rfl, trivial⟩ rfl rfl fun s6 => ?_
      refine TL.small fun h3 => ?_
      refine TL.matlen 2 rfl fun h4 => ?_
      refine TL.matcut 2 rfl ?_
      refine TL.append 0 rfl (Rd.row 1 rfl) Try.underlying22 (info_of Try.type53) (zv := (Try.t53.zero.getD (.bool false))) rfl rfl rfl (by decide) (by have h_ := h3; have l_ := h4; (try simp only [List.length_cons, List.length_nil] at h_ l_ ⊢); omega) rfl rfl rfl rfl fun s7 => ?_
      refine TL.rowsPush 3 2 rfl rfl ?_
      skip
      refine TL.matmk 0 2 rfl rfl ?_
      refine TL.drop 0 rfl ?_
      refine TL.asL [row Ev 53 s6 ([s5] : List SV), mat Ei 2 53 s7 (ss2 ++ [s5]) (out1 ++ [r_1]), emp] rfl ?_
      refine TL.assign rfl rfl (v := SV.v s7) rfl ?_
      refine TL.done ?_
      refine TC.region ?_
      refine TL.move rfl rfl (v := .int .i64 i1) rfl ?_
      refine TL.bin .i64 i1 1 rfl rfl rfl rfl (v := .int .i64 (w64 (i1 + 1))) rfl ?_
      refine TL.assign rfl rfl (v := .int .i64 (w64 (i1 + 1))) rfl ?_
      refine TL.done ?_
      exact TC.next1 (((out1 ++ [r_1]), (w64 (i1 + 1)))) ((s7, (ss2 ++ [s5]))) ⟨rfl, rfl, rfl, trivial⟩ [1] rfl
    · exact TC.brk1 ((out1, i1)) ((s4, ss2)) ⟨rfl, rfl, rfl, trivial⟩ [0] rfl
  · rintro ⟨out1, i1⟩ ⟨s4, ss2⟩
    refine TC.seq ?_
    refine TC.region ?_
    refine TL.move rfl rfl (v := SV.v s4) rfl ?_
    refine TL.assign rfl rfl (v := SV.v s4) rfl ?_
    refine TL.done ?_
    exact TC.retF (Fin.body (fin1 (.inr rfl) rfl (.tmp rfl) [0] rfl ⟨s4, ss2, rfl, rfl⟩))

end Go.Proofs.Ytnppkcemnjkboaa.G
