/- Functions of the program, as pure functions. -/
import Derived.Test.YtnppkcemnjkboaaSy2
import Derived.Test.YtnppkcemnjkboaaProg
/- laws.szInt64S, as a pure function. -/
set_option linter.unusedVariables false
namespace Go.Proofs.Ytnppkcemnjkboaa.G
open Go Go.Sx Go.Proofs

def laws_szInt64S.f (a_1 : List Int) (left_1 : Int) : Option Int := (bif (decide ((w64 (left_1 - (a_1.length : Int))) < 0)) then some (-1) else some (w64 (left_1 - (a_1.length : Int))))

def laws_szInt64S.R (r : Int) (v : Value) (L : List Asn) : Prop := v = .int .i64 r ∧ L = []

set_option maxRecDepth 100000 in
set_option maxHeartbeats 4000000 in
theorem laws_szInt64S.calls (w : World) (s1 : SV) (a_1 : List Int) (left_1 : Int) (h1 : Reads Ei (hp w) s1 a_1) :
    ∀ r, laws_szInt64S.f a_1 left_1 = some r → Calls Try.prog 52 #[SV.v s1, .int .i64 left_1] w (Ret w (laws_szInt64S.R r)) := by

  refine calls_T (n := 12) (Γ := [(0, SV.v s1), (1, .int .i64 left_1)]) (R := laws_szInt64S.R) Try.func52 rfl rfl (Nat.le_of_ble_eq_true rfl) ⟨rfl, rfl, trivial⟩ ?_
  unfold laws_szInt64S.f
  refine TC.seq ?_
  refine TC.region ?_
  refine TL.assign rfl rfl (v := .int .i64 0) rfl ?_
  refine TL.done ?_
  refine TC.seq ?_
  refine TC.region ?_
  refine TL.move rfl rfl (v := .int .i64 left_1) rfl ?_
  refine TL.move rfl rfl (v := SV.v s1) rfl ?_
  refine TL.len (Rd.old h1) Try.underlying53 rfl rfl rfl ?_
  refine TL.bin .i64 left_1 (a_1.length : Int) rfl rfl rfl rfl (v := .int .i64 (w64 (left_1 - (a_1.length : Int)))) rfl ?_
  refine TL.assign rfl rfl (v := .int .i64 (w64 (left_1 - (a_1.length : Int)))) rfl ?_
  refine TL.done ?_
  refine TC.seq ?_
  refine TC.seq ?_
  refine TC.region ?_
  refine TL.move rfl rfl (v := .int .i64 (w64 (left_1 - (a_1.length : Int)))) rfl ?_
  refine TL.bin .i64 (w64 (left_1 - (a_1.length : Int))) 0 rfl rfl rfl rfl (v := .bool (decide ((w64 (left_1 - (a_1.length : Int))) < 0))) rfl ?_
  refine TL.done ?_
  refine TC.cond (b := (decide ((w64 (left_1 - (a_1.length : Int))) < 0))) rfl (fun c1 => ?_) (fun c2 => ?_)
  · refine TC.seq ?_
    refine TC.region ?_
    refine TL.assign rfl rfl (v := .int .i64 (-1)) rfl ?_
    refine TL.done ?_
    exact TC.retF (Fin.body (fin1 (.inr rfl) rfl (.tmp rfl) [] rfl ⟨rfl, rfl⟩))
  · refine TC.skip ?_
    refine TC.seq ?_
    refine TC.region ?_
    refine TL.move rfl rfl (v := .int .i64 (w64 (left_1 - (a_1.length : Int)))) rfl ?_
    refine TL.assign rfl rfl (v := .int .i64 (w64 (left_1 - (a_1.length : Int)))) rfl ?_
    refine TL.done ?_
    exact TC.retF (Fin.body (fin1 (.inr rfl) rfl (.tmp rfl) [] rfl ⟨rfl, rfl⟩))

end Go.Proofs.Ytnppkcemnjkboaa.G

/- laws.szInt64SS, as a pure function. -/
set_option linter.unusedVariables false
namespace Go.Proofs.Ytnppkcemnjkboaa.G
open Go Go.Sx Go.Proofs

def laws_szInt64SS.b0 (a_1 : List (List Int)) : Int × Int → Option (LR (Int × Int) Int) := fun p => match p with | (left_2, i1) => (bif (decide (i1 < (a_1.length : Int))) then chk i1 a_1.length ((G.laws_szInt64S.f (gt a_1 i1) left_2).bind (fun r_1 => (bif (decide (r_1 < 0)) then some (.ret ((-1))) else some (.next (r_1, (w64 (i1 + 1))))))) else some (.brk (left_2, i1)))

def laws_szInt64SS.f (a_1 : List (List Int)) (left_1 : Int) : Option Int := (bif (decide ((w64 (left_1 - (a_1.length : Int))) < 0)) then some (-1) else (loop (laws_szInt64SS.b0 a_1) ((w64 (left_1 - (a_1.length : Int))), 0)).bind (ln (fun p => match p with | (left_2, i1) => some left_2)))

def laws_szInt64SS.R (r : Int) (v : Value) (L : List Asn) : Prop := v = .int .i64 r ∧ L = []

set_option maxRecDepth 100000 in
set_option maxHeartbeats 4000000 in
theorem laws_szInt64SS.calls (w : World) (s1 : SV) (ss1 : List SV) (a_1 : List (List Int)) (left_1 : Int) (h1 : ReadsM Ei (hp w) s1 ss1 a_1) :
    ∀ r, laws_szInt64SS.f a_1 left_1 = some r → Calls Try.prog 13 #[SV.v s1, .int .i64 left_1] w (Ret w (laws_szInt64SS.R r)) := by

  refine calls_T (n := 27) (Γ := [(0, SV.v s1), (1, .int .i64 left_1)]) (R := laws_szInt64SS.R) Try.func13 rfl rfl (Nat.le_of_ble_eq_true rfl) ⟨rfl, rfl, trivial⟩ ?_
  unfold laws_szInt64SS.f
  refine TC.seq ?_
  refine TC.region ?_
  refine TL.assign rfl rfl (v := .int .i64 0) rfl ?_
  refine TL.done ?_
  refine TC.seq ?_
  refine TC.region ?_
  refine TL.move rfl rfl (v := .int .i64 left_1) rfl ?_
  refine TL.move rfl rfl (v := SV.v s1) rfl ?_
  refine TL.lenM (RdM.old h1) Try.underlying22 rfl rfl rfl ?_
  refine TL.bin .i64 left_1 (a_1.length : Int) rfl rfl rfl rfl (v := .int .i64 (w64 (left_1 - (a_1.length : Int)))) rfl ?_
  refine TL.assign rfl rfl (v := .int .i64 (w64 (left_1 - (a_1.length : Int)))) rfl ?_
  refine TL.done ?_
  refine TC.seq ?_
  refine TC.seq ?_
  refine TC.region ?_
  refine TL.move rfl rfl (v := .int .i64 (w64 (left_1 - (a_1.length : Int)))) rfl ?_
  refine TL.bin .i64 (w64 (left_1 - (a_1.length : Int))) 0 rfl rfl rfl rfl (v := .bool (decide ((w64 (left_1 - (a_1.length : Int))) < 0))) rfl ?_
  refine TL.done ?_
  refine TC.cond (b := (decide ((w64 (left_1 - (a_1.length : Int))) < 0))) rfl (fun c1 => ?_) (fun c2 => ?_)
  · refine TC.seq ?_
    refine TC.region ?_
    refine TL.assign rfl rfl (v := .int .i64 (-1)) rfl ?_
    refine TL.done ?_
    exact TC.retF (Fin.body (fin1 (.inr rfl) rfl (.tmp rfl) [] rfl ⟨rfl, rfl⟩))
  · refine TC.skip ?_
    refine TC.seq ?_
    refine TC.seq ?_
    refine TC.region ?_
    refine TL.assign rfl rfl (v := .int .i64 0) rfl ?_
    refine TL.done ?_
    refine TC.loopK (σ := Int × Int) (γ := Unit) (Γ' := (fun p q => match p, q with | (left_2, i1), _ => [(0, SV.v s1), (1, .int .i64 left_2), (5, .int .i64 i1)])) (L' := (fun p q => match p, q with | (left_2, i1), _ => [])) (Γb := (fun p q => match p, q with | (left_2, i1), _ => [(0, SV.v s1), (1, .int .i64 left_2), (5, .int .i64 i1)])) (Lb := (fun p q => match p, q with | (left_2, i1), _ => [])) (((w64 (left_1 - (a_1.length : Int))), 0)) (()) ⟨rfl, rfl, rfl, trivial⟩ [] rfl ?_ ?_
    · rintro ⟨left_2, i1⟩ _
      refine TC.seq ?_
      refine TC.seq ?_
      refine TC.region ?_
      refine TL.move rfl rfl (v := .int .i64 i1) rfl ?_
      refine TL.move rfl rfl (v := SV.v s1) rfl ?_
      refine TL.lenM (RdM.old h1) Try.underlying22 rfl rfl rfl ?_
      refine TL.bin .i64 i1 (a_1.length : Int) rfl rfl rfl rfl (v := .bool (decide (i1 < (a_1.length : Int)))) rfl ?_
      refine TL.done ?_
      refine TC.cond (b := (decide (i1 < (a_1.length : Int)))) rfl (fun c3 => ?_) (fun c4 => ?_)
      · refine TC.skip ?_
        refine TC.seq ?_
        refine TC.block (NoEx.loop rfl NoEx.body) ?_
        refine TC.seq ?_
        refine TC.region ?_
        refine TL.move rfl rfl (v := SV.v s1) rfl ?_
        refine TL.move rfl rfl (v := .int .i64 i1) rfl ?_
        refine TL.chk fun h2 => ?_
        refine TL.ixsM i1 i1.toNat (RdM.old h1) h2 Try.underlying22 Try.sizeOf53 rfl rfl rfl rfl (by omega) ?_
        refine TL.loadM2 (RdM.old h1) Try.isAgg53 i1 h2 (by omega) rfl rfl rfl ?_
        refine TL.move rfl rfl (v := .int .i64 left_2) rfl ?_
        refine TL.call (R := G.laws_szInt64S.R) Try.call52 rfl rfl rfl (fun w hS => G.laws_szInt64S.calls w (gt ss1 i1) (gt a_1 i1) left_2 ((RdM.inn (RdM.old h1) h2) w hS)) ?_
        rintro r_1 _ _ ⟨rfl, rfl⟩
        refine TL.assign rfl rfl (v := .int .i64 r_1) rfl ?_
        refine TL.done ?_
        refine TC.seq ?_
        refine TC.region ?_
        refine TL.move rfl rfl (v := .int .i64 r_1) rfl ?_
        refine TL.bin .i64 r_1 0 rfl rfl rfl rfl (v := .bool (decide (r_1 < 0))) rfl ?_
        refine TL.done ?_
        refine TC.cond (b := (decide (r_1 < 0))) rfl (fun c5 => ?_) (fun c6 => ?_)
        · refine TC.seq ?_
          refine TC.region ?_
          refine TL.assign rfl rfl (v := .int .i64 (-1)) rfl ?_
          refine TL.done ?_
          exact TC.retF (Fin.loop Far.ret (Fin.body (fin1 (.inr rfl) rfl (.tmp rfl) [] rfl ⟨rfl, rfl⟩)))
        · refine TC.skip ?_
          refine TC.region ?_
          refine TL.move rfl rfl (v := .int .i64 i1) rfl ?_
          refine TL.bin .i64 i1 1 rfl rfl rfl rfl (v := .int .i64 (w64 (i1 + 1))) rfl ?_
          refine TL.assign rfl rfl (v := .int .i64 (w64 (i1 + 1))) rfl ?_
          refine TL.done ?_
          exact TC.next ((r_1, (w64 (i1 + 1)))) (()) ⟨rfl, rfl, rfl, trivial⟩ [] rfl
      · exact TC.brk ((left_2, i1)) (()) ⟨rfl, rfl, rfl, trivial⟩ [] rfl
    · rintro ⟨left_2, i1⟩ _
      refine TC.seq ?_
      refine TC.region ?_
      refine TL.move rfl rfl (v := .int .i64 left_2) rfl ?_
      refine TL.assign rfl rfl (v := .int .i64 left_2) rfl ?_
      refine TL.done ?_
      exact TC.retF (Fin.body (fin1 (.inr rfl) rfl (.tmp rfl) [] rfl ⟨rfl, rfl⟩))

end Go.Proofs.Ytnppkcemnjkboaa.G

/- laws.toInt64S, as a pure function. -/
set_option linter.unusedVariables false
namespace Go.Proofs.Ytnppkcemnjkboaa.G
open Go Go.Sx Go.Proofs

def laws_toInt64S.b0 (a_1 : List Int) : (List Int) × Int → Option (LB ((List Int) × Int)) := fun p => match p with | (out1, i1) => (bif (decide (i1 < (a_1.length : Int))) then chk i1 a_1.length (chk i1 out1.length (some (.next ((out1.set i1.toNat (gt a_1 i1)), (w64 (i1 + 1)))))) else some (.brk (out1, i1)))

def laws_toInt64S.f (a_1 : List Int) : Option (List Int) := small a_1.length ((loop1 (laws_toInt64S.b0 a_1) ((List.replicate (a_1.length : Int).toNat (0 : Int)), 0)).bind (fun p => match p with | (out1, i1) => some out1))

def laws_toInt64S.R (r : List Int) (v : Value) (L : List Asn) : Prop := ∃ (s0 : SV), v = SV.v s0 ∧ L = [row Ei 2 s0 r]

set_option maxRecDepth 100000 in
set_option maxHeartbeats 4000000 in
theorem laws_toInt64S.calls (w : World) (s1 : SV) (a_1 : List Int) (h1 : Reads Ei (hp w) s1 a_1) :
    ∀ r, laws_toInt64S.f a_1 = some r → Calls Try.prog 55 #[SV.v s1] w (Ret w (laws_toInt64S.R r)) := by

  refine calls_T (n := 22) (Γ := [(0, SV.v s1)]) (R := laws_toInt64S.R) Try.func55 rfl rfl (Nat.le_of_ble_eq_true rfl) ⟨rfl, trivial⟩ ?_
  unfold laws_toInt64S.f
  refine TC.seq ?_
  refine TC.region ?_
  refine TL.assign rfl rfl (v := SV.v ⟨none, 0, 0⟩) rfl ?_
  refine TL.done ?_
  refine TC.seq ?_
  refine TC.region ?_
  refine TL.move rfl rfl (v := SV.v s1) rfl ?_
  refine TL.len (Rd.old h1) Try.underlying53 rfl rfl rfl ?_
  refine TL.small fun h2 => ?_
  refine TL.mkslice Ei (0 : Int) (a_1.length : Int) Try.underlying53 (info_of Try.type2) (zv := (Try.t2.zero.getD (.bool false))) rfl rfl rfl (by simp [Ei, flat, Seg.cells]) (by decide) (by omega) (by omega) rfl rfl rfl rfl fun s2 => ?_
  refine TL.assign rfl rfl (v := SV.v s2) rfl ?_
  refine TL.done ?_
  refine TC.seq ?_
  refine TC.seq ?_
  refine TC.region ?_
  refine TL.assign rfl rfl (v := .int .i64 0) rfl ?_
  refine TL.done ?_
  refine TC.loop1 (σ := (List Int) × Int) (γ := Unit) (Γ' := (fun p q => match p, q with | (out1, i1), _ => [(0, SV.v s1), (3, SV.v s2), (4, .int .i64 i1)])) (L' := (fun p q => match p, q with | (out1, i1), _ => [row Ei 2 s2 out1])) (Γb := (fun p q => match p, q with | (out1, i1), _ => [(0, SV.v s1), (3, SV.v s2), (4, .int .i64 i1)])) (Lb := (fun p q => match p, q with | (out1, i1), _ => [row Ei 2 s2 out1])) (((List.replicate (a_1.length : Int).toNat (0 : Int)), 0)) (()) ⟨rfl, rfl, rfl, trivial⟩ [0] rfl ?_ ?_
  · rintro ⟨out1, i1⟩ _
    refine TC.seq ?_
    refine TC.seq ?_
    refine TC.region ?_
    refine TL.move rfl rfl (v := .int .i64 i1) rfl ?_
    refine TL.move rfl rfl (v := SV.v s1) rfl ?_
    refine TL.len (Rd.old h1) Try.underlying53 rfl rfl rfl ?_
    refine TL.bin .i64 i1 (a_1.length : Int) rfl rfl rfl rfl (v := .bool (decide (i1 < (a_1.length : Int)))) rfl ?_
    refine TL.done ?_
    refine TC.cond (b := (decide (i1 < (a_1.length : Int)))) rfl (fun c1 => ?_) (fun c2 => ?_)
    · refine TC.skip ?_
      refine TC.seq ?_
      refine TC.block (NoEx.loop1 rfl) ?_
      refine TC.region ?_
      refine TL.move rfl rfl (v := SV.v s2) rfl ?_
      refine TL.move rfl rfl (v := .int .i64 i1) rfl ?_
      refine TL.move rfl rfl (v := SV.v s1) rfl ?_
      refine TL.move rfl rfl (v := .int .i64 i1) rfl ?_
      refine TL.chk fun h4 => ?_
      refine TL.ixs i1 i1.toNat (Rd.old h1) h4 Try.underlying53 Try.sizeOf2 rfl rfl rfl rfl (by omega) ?_
      refine TL.loadE (Rd.old h1) Try.isAgg2 i1.toNat 0 (gt_spec h4) (v := .int .i64 (gt a_1 i1)) rfl (by simp only [show Ei.sz = 1 from rfl]; omega) rfl rfl rfl ?_
      refine TL.chk fun h5 => ?_
      refine TL.ixs i1 i1.toNat (Rd.row 0 rfl) h5 Try.underlying53 Try.sizeOf2 rfl rfl rfl rfl (by omega) ?_
      refine TL.stE 0 (i1.toNat) (gt a_1 i1) (v := .int .i64 (gt a_1 i1)) rfl Try.sizeOf2 rfl rfl rfl (by have h_ := h5; omega) (by simp only [show Ei.sz = 1 from rfl]; omega) rfl rfl rfl ?_
      refine TL.done ?_
      refine TC.region ?_
      refine TL.move rfl rfl (v := .int .i64 i1) rfl ?_
      refine TL.bin .i64 i1 1 rfl rfl rfl rfl (v := .int .i64 (w64 (i1 + 1))) rfl ?_
      refine TL.assign rfl rfl (v := .int .i64 (w64 (i1 + 1))) rfl ?_
      refine TL.done ?_
      exact TC.next1 (((out1.set i1.toNat (gt a_1 i1)), (w64 (i1 + 1)))) (()) ⟨rfl, rfl, rfl, trivial⟩ [0] rfl
    · exact TC.brk1 ((out1, i1)) (()) ⟨rfl, rfl, rfl, trivial⟩ [0] rfl
  · rintro ⟨out1, i1⟩ _
    refine TC.seq ?_
    refine TC.region ?_
    refine TL.move rfl rfl (v := SV.v s2) rfl ?_
    refine TL.assign rfl rfl (v := SV.v s2) rfl ?_
    refine TL.done ?_
    exact TC.retF (Fin.body (fin1 (.inr rfl) rfl (.tmp rfl) [0] rfl ⟨s2, rfl, rfl⟩))

end Go.Proofs.Ytnppkcemnjkboaa.G

/- laws.toInt64SS, as a pure function. -/
set_option linter.unusedVariables false
namespace Go.Proofs.Ytnppkcemnjkboaa.G
open Go Go.Sx Go.Proofs

def laws_toInt64SS.b0 (a_1 : List (List Int)) : (List (List Int)) × Int → Option (LB ((List (List Int)) × Int)) := fun p => match p with | (out1, i1) => (bif (decide (i1 < (a_1.length : Int))) then chk i1 a_1.length ((G.laws_toInt64S.f (gt a_1 i1)).bind (fun r_1 => chk i1 out1.length (some (.next ((out1.set i1.toNat r_1), (w64 (i1 + 1))))))) else some (.brk (out1, i1)))

def laws_toInt64SS.f (a_1 : List (List Int)) : Option (List (List Int)) := small a_1.length ((loop1 (laws_toInt64SS.b0 a_1) ((List.replicate (a_1.length : Int).toNat ([] : List Int)), 0)).bind (fun p => match p with | (out1, i1) => some out1))

def laws_toInt64SS.R (r : List (List Int)) (v : Value) (L : List Asn) : Prop := ∃ (s0 : SV) (ss0 : List SV), v = SV.v s0 ∧ L = [mat Ei 2 53 s0 ss0 r]

set_option maxRecDepth 100000 in
set_option maxHeartbeats 4000000 in
theorem laws_toInt64SS.calls (w : World) (s1 : SV) (ss1 : List SV) (a_1 : List (List Int)) (h1 : ReadsM Ei (hp w) s1 ss1 a_1) :
    ∀ r, laws_toInt64SS.f a_1 = some r → Calls Try.prog 15 #[SV.v s1] w (Ret w (laws_toInt64SS.R r)) := by

  refine calls_T (n := 23) (Γ := [(0, SV.v s1)]) (R := laws_toInt64SS.R) Try.func15 rfl rfl (Nat.le_of_ble_eq_true rfl) ⟨rfl, trivial⟩ ?_
  unfold laws_toInt64SS.f
  refine TC.seq ?_
  refine TC.region ?_
  refine TL.assign rfl rfl (v := SV.v ⟨none, 0, 0⟩) rfl ?_
  refine TL.done ?_
  refine TC.seq ?_
  refine TC.region ?_
  refine TL.move rfl rfl (v := SV.v s1) rfl ?_
  refine TL.lenM (RdM.old h1) Try.underlying22 rfl rfl rfl ?_
  refine TL.small fun h2 => ?_
  refine TL.mkslice Ev (⟨none, 0, 0⟩ : SV) (a_1.length : Int) Try.underlying22 (info_of Try.type53) (zv := (Try.t53.zero.getD (.bool false))) rfl rfl rfl (by simp [Ev]) (by decide) (by omega) (by omega) rfl rfl rfl rfl fun s2 => ?_
  refine TL.rowsRep Ei 2 ((a_1.length : Int).toNat) ?_
  refine TL.matmk 1 0 rfl rfl ?_
  refine TL.drop 1 rfl ?_
  refine TL.asL [mat Ei 2 53 s2 (List.replicate (a_1.length : Int).toNat (⟨none, 0, 0⟩ : SV)) (List.replicate (a_1.length : Int).toNat ([] : List Int))] rfl ?_
  refine TL.assign rfl rfl (v := SV.v s2) rfl ?_
  refine TL.done ?_
  refine TC.seq ?_
  refine TC.seq ?_
  refine TC.region ?_
  refine TL.assign rfl rfl (v := .int .i64 0) rfl ?_
  refine TL.done ?_
  refine TC.loop1 (σ := (List (List Int)) × Int) (γ := (List SV)) (Γ' := (fun p q => match p, q with | (out1, i1), ss2 => [(0, SV.v s1), (3, SV.v s2), (4, .int .i64 i1)])) (L' := (fun p q => match p, q with | (out1, i1), ss2 => [mat Ei 2 53 s2 ss2 out1])) (Γb := (fun p q => match p, q with | (out1, i1), ss2 => [(0, SV.v s1), (3, SV.v s2), (4, .int .i64 i1)])) (Lb := (fun p q => match p, q with | (out1, i1), ss2 => [mat Ei 2 53 s2 ss2 out1])) (((List.replicate (a_1.length : Int).toNat ([] : List Int)), 0)) ((List.replicate (a_1.length : Int).toNat (⟨none, 0, 0⟩ : SV))) ⟨rfl, rfl, rfl, trivial⟩ [0] rfl ?_ ?_
  · rintro ⟨out1, i1⟩ ss2
    refine TC.seq ?_
    refine TC.seq ?_
    refine TC.region ?_
    refine TL.move rfl rfl (v := .int .i64 i1) rfl ?_
    refine TL.move rfl rfl (v := SV.v s1) rfl ?_
    refine TL.lenM (RdM.old h1) Try.underlying22 rfl rfl rfl ?_
    refine TL.bin .i64 i1 (a_1.length : Int) rfl rfl rfl rfl (v := .bool (decide (i1 < (a_1.length : Int)))) rfl ?_
    refine TL.done ?_
    refine TC.cond (b := (decide (i1 < (a_1.length : Int)))) rfl (fun c1 => ?_) (fun c2 => ?_)
    · refine TC.skip ?_
      refine TC.seq ?_
      refine TC.block (NoEx.loop1 rfl) ?_
      refine TC.region ?_
      refine TL.move rfl rfl (v := SV.v s2) rfl ?_
      refine TL.move rfl rfl (v := .int .i64 i1) rfl ?_
      refine TL.move rfl rfl (v := SV.v s1) rfl ?_
      refine TL.move rfl rfl (v := .int .i64 i1) rfl ?_
      refine TL.chk fun h4 => ?_
      refine TL.ixsM i1 i1.toNat (RdM.old h1) h4 Try.underlying22 Try.sizeOf53 rfl rfl rfl rfl (by omega) ?_
      refine TL.loadM2 (RdM.old h1) Try.isAgg53 i1 h4 (by omega) rfl rfl rfl ?_
      refine TL.call (R := G.laws_toInt64S.R) Try.call55 rfl rfl rfl (fun w hS => G.laws_toInt64S.calls w (gt ss1 i1) (gt a_1 i1) ((RdM.inn (RdM.old h1) h4) w hS)) ?_
      rintro r_1 _ _ ⟨s3, rfl, rfl⟩
      refine TL.chk fun h5 => ?_
      refine TL.ixsM i1 i1.toNat (RdM.mat 1 rfl) h5 Try.underlying22 Try.sizeOf53 rfl rfl rfl rfl (by omega) ?_
      refine TL.matlen 1 rfl fun h6 => ?_
      refine TL.matcut 1 rfl ?_
      refine TL.stE 0 (i1.toNat) s3 (v := SV.v s3) rfl Try.sizeOf53 rfl rfl rfl (by have h_ := h5; have l_ := h6; (try simp only [List.length_set] at h_ l_ ⊢); omega) (by simp only [show Ev.sz = 1 from rfl]; omega) rfl rfl rfl ?_
      refine TL.hole 2 i1 rfl h5 ?_
      refine TL.rowsPut 1 2 rfl rfl ?_
      refine TL.matmk 0 2 rfl rfl ?_
      refine TL.drop 0 rfl ?_
      refine TL.asL [emp, mat Ei 2 53 s2 (ss2.set i1.toNat s3) (out1.set i1.toNat r_1)] rfl ?_
      refine TL.done ?_
      refine TC.region ?_
      refine TL.move rfl rfl (v := .int .i64 i1) rfl ?_
      refine TL.bin .i64 i1 1 rfl rfl rfl rfl (v := .int .i64 (w64 (i1 + 1))) rfl ?_
      refine TL.assign rfl rfl (v := .int .i64 (w64 (i1 + 1))) rfl ?_
      refine TL.done ?_
      exact TC.next1 (((out1.set i1.toNat r_1), (w64 (i1 + 1)))) ((ss2.set i1.toNat s3)) ⟨rfl, rfl, rfl, trivial⟩ [1] rfl
    · exact TC.brk1 ((out1, i1)) (ss2) ⟨rfl, rfl, rfl, trivial⟩ [0] rfl
  · rintro ⟨out1, i1⟩ ss2
    refine TC.seq ?_
    refine TC.region ?_
    refine TL.move rfl rfl (v := SV.v s2) rfl ?_
    refine TL.assign rfl rfl (v := SV.v s2) rfl ?_
    refine TL.done ?_
    exact TC.retF (Fin.body (fin1 (.inr rfl) rfl (.tmp rfl) [0] rfl ⟨s2, ss2, rfl, rfl⟩))

end Go.Proofs.Ytnppkcemnjkboaa.G

/- laws.eqInt64S, as a pure function. -/
set_option linter.unusedVariables false
namespace Go.Proofs.Ytnppkcemnjkboaa.G
open Go Go.Sx Go.Proofs

def laws_eqInt64S.b0 (a_1 : List Int) (b_1 : List Int) : Int → Option (LR Int Bool) := fun i1 => (bif (decide (i1 < (a_1.length : Int))) then chk i1 a_1.length (chk i1 b_1.length ((bif ((gt a_1 i1) != (gt b_1 i1)) then some (.ret (false)) else some (.next (w64 (i1 + 1)))))) else some (.brk i1))

def laws_eqInt64S.f (a_1 : List Int) (b_1 : List Int) : Option Bool := (bif ((a_1.length : Int) != (b_1.length : Int)) then some false else (loop (laws_eqInt64S.b0 a_1 b_1) 0).bind (ln (fun i1 => some true)))

def laws_eqInt64S.R (r : Bool) (v : Value) (L : List Asn) : Prop := v = .bool r ∧ L = []

set_option maxRecDepth 100000 in
set_option maxHeartbeats 4000000 in
theorem laws_eqInt64S.calls (w : World) (s1 : SV) (a_1 : List Int) (s2 : SV) (b_1 : List Int) (h1 : Reads Ei (hp w) s1 a_1) (h2 : Reads Ei (hp w) s2 b_1) :
    ∀ r, laws_eqInt64S.f a_1 b_1 = some r → Calls Try.prog 57 #[SV.v s1, SV.v s2] w (Ret w (laws_eqInt64S.R r)) := by

  refine calls_T (n := 26) (Γ := [(0, SV.v s1), (1, SV.v s2)]) (R := laws_eqInt64S.R) Try.func57 rfl rfl (Nat.le_of_ble_eq_true rfl) ⟨rfl, rfl, trivial⟩ ?_
  unfold laws_eqInt64S.f
  refine TC.seq ?_
  refine TC.region ?_
  refine TL.assign rfl rfl (v := .bool false) rfl ?_
  refine TL.done ?_
  refine TC.seq ?_
  refine TC.seq ?_
  refine TC.region ?_
  refine TL.move rfl rfl (v := SV.v s1) rfl ?_
  refine TL.len (Rd.old h1) Try.underlying53 rfl rfl rfl ?_
  refine TL.move rfl rfl (v := SV.v s2) rfl ?_
  refine TL.len (Rd.old h2) Try.underlying53 rfl rfl rfl ?_
  refine TL.bin .i64 (a_1.length : Int) (b_1.length : Int) rfl rfl rfl rfl (v := .bool ((a_1.length : Int) != (b_1.length : Int))) rfl ?_
  refine TL.done ?_
  refine TC.cond (b := ((a_1.length : Int) != (b_1.length : Int))) rfl (fun c1 => ?_) (fun c2 => ?_)
  · refine TC.seq ?_
    refine TC.region ?_
    refine TL.assign rfl rfl (v := .bool false) rfl ?_
    refine TL.done ?_
    exact TC.retF (Fin.body (fin1 (.inr rfl) rfl (.tmp rfl) [] rfl ⟨rfl, rfl⟩))
  · refine TC.skip ?_
    refine TC.seq ?_
    refine TC.seq ?_
    refine TC.region ?_
    refine TL.assign rfl rfl (v := .int .i64 0) rfl ?_
    refine TL.done ?_
    refine TC.loopK (σ := Int) (γ := Unit) (Γ' := (fun i1 _ => [(0, SV.v s1), (1, SV.v s2), (5, .int .i64 i1)])) (L' := (fun i1 _ => [])) (Γb := (fun i1 _ => [(0, SV.v s1), (1, SV.v s2), (5, .int .i64 i1)])) (Lb := (fun i1 _ => [])) (0) (()) ⟨rfl, rfl, rfl, trivial⟩ [] rfl ?_ ?_
    · rintro i1 _
      refine TC.seq ?_
      refine TC.seq ?_
      refine TC.region ?_
      refine TL.move rfl rfl (v := .int .i64 i1) rfl ?_
      refine TL.move rfl rfl (v := SV.v s1) rfl ?_
      refine TL.len (Rd.old h1) Try.underlying53 rfl rfl rfl ?_
      refine TL.bin .i64 i1 (a_1.length : Int) rfl rfl rfl rfl (v := .bool (decide (i1 < (a_1.length : Int)))) rfl ?_
      refine TL.done ?_
      refine TC.cond (b := (decide (i1 < (a_1.length : Int)))) rfl (fun c3 => ?_) (fun c4 => ?_)
      · refine TC.skip ?_
        refine TC.seq ?_
        refine TC.block (NoEx.loop rfl NoEx.body) ?_
        refine TC.seq ?_
        refine TC.wk (Γ' := [(0, SV.v s1), (1, SV.v s2), (5, .int .i64 i1), (11, .int .i64 i1), (12, SV.v s1), (13, .int .i64 (a_1.length : Int)), (14, .bool (decide (i1 < (a_1.length : Int))))]) ⟨rfl, rfl, rfl, rfl, rfl, rfl, rfl, trivial⟩ ?_
        refine TC.chk fun h3 => ?_
        refine TC.chk fun h4 => ?_
        refine TC.draw [SV.v s1, .int .i64 i1, ep s1 i1.toNat, .int .i64 (gt a_1 i1), SV.v s2, .int .i64 i1, ep s2 i1.toNat, .int .i64 (gt b_1 i1), .bool ((gt a_1 i1) != (gt b_1 i1))] 9 [] (by kernel_rfl) rfl rfl rfl rfl ?_ ?_
        · refine ⟨?_, ?_, ?_, ?_, ?_, ?_, ?_, ?_, ?_, trivial⟩
          · refine TL.move rfl rfl (v := SV.v s1) rfl ?_
            refine TL.done ?_
            exact TC.nrm () () ⟨rfl, trivial⟩ [] rfl
          · refine TL.move rfl rfl (v := .int .i64 i1) rfl ?_
            refine TL.done ?_
            exact TC.nrm () () ⟨rfl, trivial⟩ [] rfl
          · refine TL.ixs i1 i1.toNat (Rd.old h1) h3 Try.underlying53 Try.sizeOf2 rfl rfl rfl rfl (by omega) ?_
            refine TL.done ?_
            exact TC.nrm () () ⟨rfl, trivial⟩ [] rfl
          · refine TL.loadE (Rd.old h1) Try.isAgg2 i1.toNat 0 (gt_spec h3) (v := .int .i64 (gt a_1 i1)) rfl (by simp only [show Ei.sz = 1 from rfl]; omega) rfl rfl rfl ?_
            refine TL.done ?_
            exact TC.nrm () () ⟨rfl, trivial⟩ [] rfl
          · refine TL.move rfl rfl (v := SV.v s2) rfl ?_
            refine TL.done ?_
            exact TC.nrm () () ⟨rfl, trivial⟩ [] rfl
          · refine TL.move rfl rfl (v := .int .i64 i1) rfl ?_
            refine TL.done ?_
            exact TC.nrm () () ⟨rfl, trivial⟩ [] rfl
          · refine TL.ixs i1 i1.toNat (Rd.old h2) h4 Try.underlying53 Try.sizeOf2 rfl rfl rfl rfl (by omega) ?_
            refine TL.done ?_
            exact TC.nrm () () ⟨rfl, trivial⟩ [] rfl
          · refine TL.loadE (Rd.old h2) Try.isAgg2 i1.toNat 0 (gt_spec h4) (v := .int .i64 (gt b_1 i1)) rfl (by simp only [show Ei.sz = 1 from rfl]; omega) rfl rfl rfl ?_
            refine TL.done ?_
            exact TC.nrm () () ⟨rfl, trivial⟩ [] rfl
          · refine TL.bin .i64 (gt a_1 i1) (gt b_1 i1) rfl rfl rfl rfl (v := .bool ((gt a_1 i1) != (gt b_1 i1))) rfl ?_
            refine TL.done ?_
            exact TC.nrm () () ⟨rfl, trivial⟩ [] rfl
        · refine TC.cond (b := ((gt a_1 i1) != (gt b_1 i1))) rfl (fun c5 => ?_) (fun c6 => ?_)
          · refine TC.seq ?_
            refine TC.region ?_
            refine TL.assign rfl rfl (v := .bool false) rfl ?_
            refine TL.done ?_
            exact TC.retF (Fin.loop Far.ret (Fin.body (fin1 (.inr rfl) rfl (.tmp rfl) [] rfl ⟨rfl, rfl⟩)))
          · refine TC.skip ?_
            refine TC.region ?_
            refine TL.move rfl rfl (v := .int .i64 i1) rfl ?_
            refine TL.bin .i64 i1 1 rfl rfl rfl rfl (v := .int .i64 (w64 (i1 + 1))) rfl ?_
            refine TL.assign rfl rfl (v := .int .i64 (w64 (i1 + 1))) rfl ?_
            refine TL.done ?_
            exact TC.next ((w64 (i1 + 1))) (()) ⟨rfl, rfl, rfl, trivial⟩ [] rfl
      · exact TC.brk (i1) (()) ⟨rfl, rfl, rfl, trivial⟩ [] rfl
    · rintro i1 _
      refine TC.seq ?_
      refine TC.region ?_
      refine TL.assign rfl rfl (v := .bool true) rfl ?_
      refine TL.done ?_
      exact TC.retF (Fin.body (fin1 (.inr rfl) rfl (.tmp rfl) [] rfl ⟨rfl, rfl⟩))

end Go.Proofs.Ytnppkcemnjkboaa.G

/- laws.eqInt64SS, as a pure function. -/
set_option linter.unusedVariables false
namespace Go.Proofs.Ytnppkcemnjkboaa.G
open Go Go.Sx Go.Proofs

def laws_eqInt64SS.b0 (a_1 : List (List Int)) (b_1 : List (List Int)) : Int → Option (LR Int Bool) := fun i1 => (bif (decide (i1 < (a_1.length : Int))) then chk i1 a_1.length (chk i1 b_1.length ((G.laws_eqInt64S.f (gt a_1 i1) (gt b_1 i1)).bind (fun r_1 => (bif (!r_1) then some (.ret (false)) else some (.next (w64 (i1 + 1))))))) else some (.brk i1))

def laws_eqInt64SS.f (a_1 : List (List Int)) (b_1 : List (List Int)) : Option Bool := (bif ((a_1.length : Int) != (b_1.length : Int)) then some false else (loop (laws_eqInt64SS.b0 a_1 b_1) 0).bind (ln (fun i1 => some true)))

def laws_eqInt64SS.R (r : Bool) (v : Value) (L : List Asn) : Prop := v = .bool r ∧ L = []

set_option maxRecDepth 100000 in
set_option maxHeartbeats 4000000 in
theorem laws_eqInt64SS.calls (w : World) (s1 : SV) (ss1 : List SV) (a_1 : List (List Int)) (s2 : SV) (ss2 : List SV) (b_1 : List (List Int)) (h1 : ReadsM Ei (hp w) s1 ss1 a_1) (h2 : ReadsM Ei (hp w) s2 ss2 b_1) :
    ∀ r, laws_eqInt64SS.f a_1 b_1 = some r → Calls Try.prog 17 #[SV.v s1, SV.v s2] w (Ret w (laws_eqInt64SS.R r)) := by

  refine calls_T (n := 27) (Γ := [(0, SV.v s1), (1, SV.v s2)]) (R := laws_eqInt64SS.R) Try.func17 rfl rfl (Nat.le_of_ble_eq_true rfl) ⟨rfl, rfl, trivial⟩ ?_
  unfold laws_eqInt64SS.f
  refine TC.seq ?_
  refine TC.region ?_
  refine TL.assign rfl rfl (v := .bool false) rfl ?_
  refine TL.done ?_
  refine TC.seq ?_
  refine TC.seq ?_
  refine TC.region ?_
  refine TL.move rfl rfl (v := SV.v s1) rfl ?_
  refine TL.lenM (RdM.old h1) Try.underlying22 rfl rfl rfl ?_
  refine TL.move rfl rfl (v := SV.v s2) rfl ?_
  refine TL.lenM (RdM.old h2) Try.underlying22 rfl rfl rfl ?_
  refine TL.bin .i64 (a_1.length : Int) (b_1.length : Int) rfl rfl rfl rfl (v := .bool ((a_1.length : Int) != (b_1.length : Int))) rfl ?_
  refine TL.done ?_
  refine TC.cond (b := ((a_1.length : Int) != (b_1.length : Int))) rfl (fun c1 => ?_) (fun c2 => ?_)
  · refine TC.seq ?_
    refine TC.region ?_
    refine TL.assign rfl rfl (v := .bool false) rfl ?_
    refine TL.done ?_
    exact TC.retF (Fin.body (fin1 (.inr rfl) rfl (.tmp rfl) [] rfl ⟨rfl, rfl⟩))
  · refine TC.skip ?_
    refine TC.seq ?_
    refine TC.seq ?_
    refine TC.region ?_
    refine TL.assign rfl rfl (v := .int .i64 0) rfl ?_
    refine TL.done ?_
    refine TC.loopK (σ := Int) (γ := Unit) (Γ' := (fun i1 _ => [(0, SV.v s1), (1, SV.v s2), (5, .int .i64 i1)])) (L' := (fun i1 _ => [])) (Γb := (fun i1 _ => [(0, SV.v s1), (1, SV.v s2), (5, .int .i64 i1)])) (Lb := (fun i1 _ => [])) (0) (()) ⟨rfl, rfl, rfl, trivial⟩ [] rfl ?_ ?_
    · rintro i1 _
      refine TC.seq ?_
      refine TC.seq ?_
      refine TC.region ?_
      refine TL.move rfl rfl (v := .int .i64 i1) rfl ?_
      refine TL.move rfl rfl (v := SV.v s1) rfl ?_
      refine TL.lenM (RdM.old h1) Try.underlying22 rfl rfl rfl ?_
      refine TL.bin .i64 i1 (a_1.length : Int) rfl rfl rfl rfl (v := .bool (decide (i1 < (a_1.length : Int)))) rfl ?_
      refine TL.done ?_
      refine TC.cond (b := (decide (i1 < (a_1.length : Int)))) rfl (fun c3 => ?_) (fun c4 => ?_)
      · refine TC.skip ?_
        refine TC.seq ?_
        refine TC.block (NoEx.loop rfl NoEx.body) ?_
        refine TC.seq ?_
        refine TC.wk (Γ' := [(0, SV.v s1), (1, SV.v s2), (5, .int .i64 i1), (11, .int .i64 i1), (12, SV.v s1), (13, .int .i64 (a_1.length : Int)), (14, .bool (decide (i1 < (a_1.length : Int))))]) ⟨rfl, rfl, rfl, rfl, rfl, rfl, rfl, trivial⟩ ?_
        refine TC.chk fun h3 => ?_
        refine TC.chk fun h4 => ?_
        refine TC.bindE fun r_1 hr1 => ?_
        refine TC.draw [SV.v s1, .int .i64 i1, ep s1 i1.toNat, SV.v (gt ss1 i1), SV.v s2, .int .i64 i1, ep s2 i1.toNat, SV.v (gt ss2 i1), .bool r_1, .bool (!r_1)] 10 [] (by kernel_rfl) rfl rfl rfl rfl ?_ ?_
        · refine ⟨?_, ?_, ?_, ?_, ?_, ?_, ?_, ?_, ?_, ?_, trivial⟩
          · refine TL.move rfl rfl (v := SV.v s1) rfl ?_
            refine TL.done ?_
            exact TC.nrm () () ⟨rfl, trivial⟩ [] rfl
          · refine TL.move rfl rfl (v := .int .i64 i1) rfl ?_
            refine TL.done ?_
            exact TC.nrm () () ⟨rfl, trivial⟩ [] rfl
          · refine TL.ixsM i1 i1.toNat (RdM.old h1) h3 Try.underlying22 Try.sizeOf53 rfl rfl rfl rfl (by omega) ?_
            refine TL.done ?_
            exact TC.nrm () () ⟨rfl, trivial⟩ [] rfl
          · refine TL.loadM2 (RdM.old h1) Try.isAgg53 i1 h3 (by omega) rfl rfl rfl ?_
            refine TL.done ?_
            exact TC.nrm () () ⟨rfl, trivial⟩ [] rfl
          · refine TL.move rfl rfl (v := SV.v s2) rfl ?_
            refine TL.done ?_
            exact TC.nrm () () ⟨rfl, trivial⟩ [] rfl
          · refine TL.move rfl rfl (v := .int .i64 i1) rfl ?_
            refine TL.done ?_
            exact TC.nrm () () ⟨rfl, trivial⟩ [] rfl
          · refine TL.ixsM i1 i1.toNat (RdM.old h2) h4 Try.underlying22 Try.sizeOf53 rfl rfl rfl rfl (by omega) ?_
            refine TL.done ?_
            exact TC.nrm () () ⟨rfl, trivial⟩ [] rfl
          · refine TL.loadM2 (RdM.old h2) Try.isAgg53 i1 h4 (by omega) rfl rfl rfl ?_
            refine TL.done ?_
            exact TC.nrm () () ⟨rfl, trivial⟩ [] rfl
          · refine TL.callH (R := G.laws_eqInt64S.R) hr1 Try.call57 rfl rfl rfl (fun w hS => G.laws_eqInt64S.calls w (gt ss1 i1) (gt a_1 i1) (gt ss2 i1) (gt b_1 i1) ((RdM.inn (RdM.old h1) h3) w hS) ((RdM.inn (RdM.old h2) h4) w hS)) ?_
            rintro _ _ ⟨rfl, rfl⟩
            refine TL.done ?_
            exact TC.nrm () () ⟨rfl, trivial⟩ [] rfl
          · refine TL.not r_1 rfl rfl rfl ?_
            refine TL.done ?_
            exact TC.nrm () () ⟨rfl, trivial⟩ [] rfl
        · refine TC.cond (b := (!r_1)) rfl (fun c5 => ?_) (fun c6 => ?_)
          · refine TC.seq ?_
            refine TC.region ?_
            refine TL.assign rfl rfl (v := .bool false) rfl ?_
            refine TL.done ?_
            exact TC.retF (Fin.loop Far.ret (Fin.body (fin1 (.inr rfl) rfl (.tmp rfl) [] rfl ⟨rfl, rfl⟩)))
          · refine TC.skip ?_
            refine TC.region ?_
            refine TL.move rfl rfl (v := .int .i64 i1) rfl ?_
            refine TL.bin .i64 i1 1 rfl rfl rfl rfl (v := .int .i64 (w64 (i1 + 1))) rfl ?_
            refine TL.assign rfl rfl (v := .int .i64 (w64 (i1 + 1))) rfl ?_
            refine TL.done ?_
            exact TC.next ((w64 (i1 + 1))) (()) ⟨rfl, rfl, rfl, trivial⟩ [] rfl
      · exact TC.brk (i1) (()) ⟨rfl, rfl, rfl, trivial⟩ [] rfl
    · rintro i1 _
      refine TC.seq ?_
      refine TC.region ?_
      refine TL.assign rfl rfl (v := .bool true) rfl ?_
      refine TL.done ?_
      exact TC.retF (Fin.body (fin1 (.inr rfl) rfl (.tmp rfl) [] rfl ⟨rfl, rfl⟩))

end Go.Proofs.Ytnppkcemnjkboaa.G

/- spec.l01In, as a pure function. -/
set_option linter.unusedVariables false
namespace Go.Proofs.Ytnppkcemnjkboaa.G
open Go Go.Sx Go.Proofs

def spec_l01In.f (n_1 : Int) (low1 : Int) (high1 : Int) : Option Bool := some ((decide (n_1 ≥ low1)) && (decide (n_1 ≤ high1)))

def spec_l01In.R (r : Bool) (v : Value) (L : List Asn) : Prop := v = .bool r ∧ L = []

set_option maxRecDepth 100000 in
set_option maxHeartbeats 4000000 in
theorem spec_l01In.calls (w : World) (n_1 : Int) (low1 : Int) (high1 : Int) :
    ∀ r, spec_l01In.f n_1 low1 high1 = some r → Calls Try.prog 58 #[.int .i64 n_1, .int .i64 low1, .int .i64 high1] w (Ret w (spec_l01In.R r)) := by

  refine calls_T (n := 15) (Γ := [(0, .int .i64 n_1), (1, .int .i64 low1), (2, .int .i64 high1)]) (R := spec_l01In.R) Try.func58 rfl rfl (Nat.le_of_ble_eq_true rfl) ⟨rfl, rfl, rfl, trivial⟩ ?_
  unfold spec_l01In.f
  refine TC.seq ?_
  refine TC.region ?_
  refine TL.assign rfl rfl (v := .bool false) rfl ?_
  refine TL.done ?_
  refine TC.seq ?_
  refine TC.region ?_
  refine TL.move rfl rfl (v := .int .i64 n_1) rfl ?_
  refine TL.move rfl rfl (v := .int .i64 low1) rfl ?_
  refine TL.bin .i64 n_1 low1 rfl rfl rfl rfl (v := .bool (decide (n_1 ≥ low1))) rfl ?_
  refine TL.move rfl rfl (v := .bool (decide (n_1 ≥ low1))) rfl ?_
  refine TL.cutU 4 [(14, .bool ((decide (n_1 ≥ low1)) && (decide (n_1 ≤ high1)))), (0, .int .i64 n_1), (1, .int .i64 low1), (2, .int .i64 high1), (6, .bool false), (7, .int .i64 n_1), (8, .int .i64 low1), (9, .bool (decide (n_1 ≥ low1))), (10, .bool (decide (n_1 ≥ low1)))] [] ?_ ?_
  · refine TL.cases (t := 10) (b := (decide (n_1 ≥ low1))) rfl (fun c1 => ?_) (fun c2 => ?_)
    · refine TL.move rfl rfl (v := .int .i64 n_1) rfl ?_
      refine TL.move rfl rfl (v := .int .i64 high1) rfl ?_
      refine TL.bin .i64 n_1 high1 rfl rfl rfl rfl (v := .bool (decide (n_1 ≤ high1))) rfl ?_
      refine TL.pick rfl rfl (b := true) rfl (r := .bool (decide (n_1 ≤ high1))) rfl ?_
      refine TL.done ?_
      exact TC.nrm () () ⟨(by rw [c1]; rfl), rfl, rfl, rfl, rfl, rfl, rfl, rfl, (by rw [c1]; rfl), trivial⟩ [] rfl
    · refine TL.skip rfl rfl (by decide) ?_
      refine TL.skip rfl rfl (by decide) ?_
      refine TL.skip rfl rfl (by decide) ?_
      refine TL.pick rfl rfl (b := false) rfl (r := .bool false) rfl ?_
      refine TL.done ?_
      exact TC.nrm () () ⟨(by rw [c2]; rfl), rfl, rfl, rfl, rfl, rfl, rfl, rfl, (by rw [c2]; rfl), trivial⟩ [] rfl
  · refine TL.assign rfl rfl (v := .bool ((decide (n_1 ≥ low1)) && (decide (n_1 ≤ high1)))) rfl ?_
    refine TL.done ?_
    exact TC.retF (Fin.body (fin1 (.inr rfl) rfl (.tmp rfl) [] rfl ⟨rfl, rfl⟩))

end Go.Proofs.Ytnppkcemnjkboaa.G

/- spec.l07Is, as a pure function. -/
set_option linter.unusedVariables false
namespace Go.Proofs.Ytnppkcemnjkboaa.G
open Go Go.Sx Go.Proofs

def spec_l07Is.b0 (x1 : List (List Int)) (x2 : Int) : (List Int) × Int → Option (LR ((List Int) × Int) (LR ((List Int) × Int) Bool)) := fun p => match p with | (l2, x3) => (bif (decide (x3 < 3)) then chk x3 ((gt x1 x2).length) ((G.spec_l01In.f (gt (gt x1 x2) x3) (w64 (0 - (w64 (Int.tdiv (w64 ((x1.length : Int) * 3)) 2)))) (w64 (Int.tdiv (w64 ((x1.length : Int) * 3)) 2))).bind (fun r_1 => (bif ((!r_1) || ((gt (gt x1 x2) x3) == 0)) then some (.ret (.ret (false))) else chk (if (w64 (0 - (gt (gt x1 x2) x3))) > (gt (gt x1 x2) x3) then (w64 (0 - (gt (gt x1 x2) x3))) else (gt (gt x1 x2) x3)) l2.length (some (.next ((l2.set (if (w64 (0 - (gt (gt x1 x2) x3))) > (gt (gt x1 x2) x3) then (w64 (0 - (gt (gt x1 x2) x3))) else (gt (gt x1 x2) x3)).toNat (w64 ((gt l2 (if (w64 (0 - (gt (gt x1 x2) x3))) > (gt (gt x1 x2) x3) then (w64 (0 - (gt (gt x1 x2) x3))) else (gt (gt x1 x2) x3))) + 1))), (w64 (x3 + 1)))))))) else some (.brk (l2, x3)))

def spec_l07Is.b1 (x1 : List (List Int)) : (List Int) × Int → Option (LR ((List Int) × Int) Bool) := fun p => match p with | (l1, x2) => (bif (decide (x2 < (x1.length : Int))) then chk x2 x1.length ((bif (((gt x1 x2).length : Int) != 3) then some (.ret (false)) else (loop (spec_l07Is.b0 x1 x2) (l1, 0)).bind (ln (fun p => match p with | (l2, x3) => some (.next (l2, (w64 (x2 + 1)))))))) else some (.brk (l1, x2)))

def spec_l07Is.b2 (x1 : List (List Int)) (l1 : List Int) : Int → Option (LR Int Bool) := fun x4 => (bif (decide (x4 ≤ (w64 (Int.tdiv (w64 ((x1.length : Int) * 3)) 2)))) then chk x4 l1.length ((bif ((gt l1 x4) != 2) then some (.ret (false)) else some (.next (w64 (x4 + 1))))) else some (.brk x4))

def spec_l07Is.f (x1 : List (List Int)) : Option Bool := (bif (((decide ((x1.length : Int) < 2)) || (decide ((x1.length : Int) > 12))) || ((Int.tmod (x1.length : Int) 2) != 0)) then some false else grd (decide (0 ≤ (w64 ((w64 (Int.tdiv (w64 ((x1.length : Int) * 3)) 2)) + 1)))) (small (w64 ((w64 (Int.tdiv (w64 ((x1.length : Int) * 3)) 2)) + 1)).toNat ((loop (spec_l07Is.b1 x1) ((List.replicate (w64 ((w64 (Int.tdiv (w64 ((x1.length : Int) * 3)) 2)) + 1)).toNat (0 : Int)), 0)).bind (ln (fun p => match p with | (l1, x2) => (loop (spec_l07Is.b2 x1 l1) 1).bind (ln (fun x4 => some true)))))))

def spec_l07Is.R (r : Bool) (v : Value) (L : List Asn) : Prop := v = .bool r ∧ L = []

set_option maxRecDepth 100000 in
set_option maxHeartbeats 4000000 in
theorem spec_l07Is.calls (w : World) (s1 : SV) (ss1 : List SV) (x1 : List (List Int)) (h1 : ReadsM Ei (hp w) s1 ss1 x1) :
    ∀ r, spec_l07Is.f x1 = some r → Calls Try.prog 53 #[SV.v s1] w (Ret w (spec_l07Is.R r)) := by

  refine calls_T (n := 98) (Γ := [(0, SV.v s1)]) (R := spec_l07Is.R) Try.func53 rfl rfl (Nat.le_of_ble_eq_true rfl) ⟨rfl, trivial⟩ ?_
  unfold spec_l07Is.f
  refine TC.seq ?_
  refine TC.region ?_
  refine TL.assign rfl rfl (v := .bool false) rfl ?_
  refine TL.done ?_
  refine TC.seq ?_
  refine TC.seq ?_
  refine TC.region ?_
  refine TL.move rfl rfl (v := SV.v s1) rfl ?_
  refine TL.lenM (RdM.old h1) Try.underlying22 rfl rfl rfl ?_
  refine TL.bin .i64 (x1.length : Int) 2 rfl rfl rfl rfl (v := .bool (decide ((x1.length : Int) < 2))) rfl ?_
  refine TL.move rfl rfl (v := .bool (decide ((x1.length : Int) < 2))) rfl ?_
  refine TL.cutU 4 [(15, .bool ((decide ((x1.length : Int) < 2)) || (decide ((x1.length : Int) > 12)))), (0, SV.v s1), (2, .bool false), (8, SV.v s1), (9, .int .i64 (x1.length : Int)), (10, .bool (decide ((x1.length : Int) < 2))), (11, .bool (decide ((x1.length : Int) < 2)))] [] ?_ ?_
  · refine TL.cases (t := 11) (b := (decide ((x1.length : Int) < 2))) rfl (fun c1 => ?_) (fun c2 => ?_)
    · refine TL.skip rfl rfl (by decide) ?_
      refine TL.skip rfl rfl (by decide) ?_
      refine TL.skip rfl rfl (by decide) ?_
      refine TL.pick rfl rfl (b := true) rfl (r := .bool true) rfl ?_
      refine TL.done ?_
      exact TC.nrm () () ⟨(by rw [c1]; rfl), rfl, rfl, rfl, rfl, rfl, (by rw [c1]; rfl), trivial⟩ [] rfl
    · refine TL.move rfl rfl (v := SV.v s1) rfl ?_
      refine TL.lenM (RdM.old h1) Try.underlying22 rfl rfl rfl ?_
      refine TL.bin .i64 (x1.length : Int) 12 rfl rfl rfl rfl (v := .bool (decide ((x1.length : Int) > 12))) rfl ?_
      refine TL.pick rfl rfl (b := false) rfl (r := .bool (decide ((x1.length : Int) > 12))) rfl ?_
      refine TL.done ?_
      exact TC.nrm () () ⟨(by rw [c2]; rfl), rfl, rfl, rfl, rfl, rfl, (by rw [c2]; rfl), trivial⟩ [] rfl
  · refine TL.move rfl rfl (v := .bool ((decide ((x1.length : Int) < 2)) || (decide ((x1.length : Int) > 12)))) rfl ?_
    refine TL.cutU 5 [(21, .bool (((decide ((x1.length : Int) < 2)) || (decide ((x1.length : Int) > 12))) || ((Int.tmod (x1.length : Int) 2) != 0))), (0, SV.v s1), (2, .bool false), (8, SV.v s1), (9, .int .i64 (x1.length : Int)), (10, .bool (decide ((x1.length : Int) < 2))), (11, .bool (decide ((x1.length : Int) < 2))), (15, .bool ((decide ((x1.length : Int) < 2)) || (decide ((x1.length : Int) > 12)))), (16, .bool ((decide ((x1.length : Int) < 2)) || (decide ((x1.length : Int) > 12))))] [] ?_ ?_
    · refine TL.cases (t := 16) (b := ((decide ((x1.length : Int) < 2)) || (decide ((x1.length : Int) > 12)))) rfl (fun c3 => ?_) (fun c4 => ?_)
      · refine TL.skip rfl rfl (by decide) ?_
        refine TL.skip rfl rfl (by decide) ?_
        refine TL.skip rfl rfl (by decide) ?_
        refine TL.skip rfl rfl (by decide) ?_
        refine TL.pick rfl rfl (b := true) rfl (r := .bool true) rfl ?_
        refine TL.done ?_
        exact TC.nrm () () ⟨(by rw [c3]; rfl), rfl, rfl, rfl, rfl, rfl, rfl, rfl, (by rw [c3]; rfl), trivial⟩ [] rfl
      · refine TL.move rfl rfl (v := SV.v s1) rfl ?_
        refine TL.lenM (RdM.old h1) Try.underlying22 rfl rfl rfl ?_
        refine TL.rem .i64 (x1.length : Int) 2 (by decide) rfl rfl rfl rfl ?_
        refine TL.bin .i64 (Int.tmod (x1.length : Int) 2) 0 rfl rfl rfl rfl (v := .bool ((Int.tmod (x1.length : Int) 2) != 0)) rfl ?_
        refine TL.pick rfl rfl (b := false) rfl (r := .bool ((Int.tmod (x1.length : Int) 2) != 0)) rfl ?_
        refine TL.done ?_
        exact TC.nrm () () ⟨(by rw [c4]; rfl), rfl, rfl, rfl, rfl, rfl, rfl, rfl, (by rw [c4]; rfl), trivial⟩ [] rfl
    · refine TL.done ?_
      refine TC.cond (b := (((decide ((x1.length : Int) < 2)) || (decide ((x1.length : Int) > 12))) || ((Int.tmod (x1.length : Int) 2) != 0))) rfl (fun c5 => ?_) (fun c6 => ?_)
      · refine TC.seq ?_
        refine TC.region ?_
        refine TL.assign rfl rfl (v := .bool false) rfl ?_
        refine TL.done ?_
        exact TC.retF (Fin.body (fin1 (.inr rfl) rfl (.tmp rfl) [] rfl ⟨rfl, rfl⟩))
      · refine TC.skip ?_
        refine TC.seq ?_
        refine TC.region ?_
        refine TL.move rfl rfl (v := SV.v s1) rfl ?_
        refine TL.lenM (RdM.old h1) Try.underlying22 rfl rfl rfl ?_
        refine TL.bin .i64 (x1.length : Int) 3 rfl rfl rfl rfl (v := .int .i64 (w64 ((x1.length : Int) * 3))) rfl ?_
        refine TL.quo .i64 (w64 ((x1.length : Int) * 3)) 2 (by decide) rfl rfl rfl rfl ?_
        refine TL.assign rfl rfl (v := .int .i64 (w64 (Int.tdiv (w64 ((x1.length : Int) * 3)) 2))) rfl ?_
        refine TL.done ?_
        refine TC.seq ?_
        refine TC.region ?_
        refine TL.move rfl rfl (v := .int .i64 (w64 (Int.tdiv (w64 ((x1.length : Int) * 3)) 2))) rfl ?_
        refine TL.bin .i64 (w64 (Int.tdiv (w64 ((x1.length : Int) * 3)) 2)) 1 rfl rfl rfl rfl (v := .int .i64 (w64 ((w64 (Int.tdiv (w64 ((x1.length : Int) * 3)) 2)) + 1))) rfl ?_
        refine TL.grd fun h3 => ?_
        refine TL.small fun h2 => ?_
        refine TL.mkslice Ei (0 : Int) (w64 ((w64 (Int.tdiv (w64 ((x1.length : Int) * 3)) 2)) + 1)) Try.underlying53 (info_of Try.type2) (zv := (Try.t2.zero.getD (.bool false))) rfl rfl rfl (by simp [Ei, flat, Seg.cells]) (by decide) (by simpa using h3) (by omega) rfl rfl rfl rfl fun s2 => ?_
        refine TL.assign rfl rfl (v := SV.v s2) rfl ?_
        refine TL.done ?_
        refine TC.seq ?_
        refine TC.seq ?_
        refine TC.region ?_
        refine TL.assign rfl rfl (v := .int .i64 0) rfl ?_
        refine TL.done ?_
        refine TC.loopK (σ := (List Int) × Int) (γ := Unit) (Γ' := (fun p q => match p, q with | (l1, x2), _ => [(0, SV.v s1), (3, .int .i64 (w64 (Int.tdiv (w64 ((x1.length : Int) * 3)) 2))), (4, SV.v s2), (5, .int .i64 x2)])) (L' := (fun p q => match p, q with | (l1, x2), _ => [row Ei 2 s2 l1])) (Γb := (fun p q => match p, q with | (l1, x2), _ => [(0, SV.v s1), (3, .int .i64 (w64 (Int.tdiv (w64 ((x1.length : Int) * 3)) 2))), (4, SV.v s2), (5, .int .i64 x2)])) (Lb := (fun p q => match p, q with | (l1, x2), _ => [row Ei 2 s2 l1])) (((List.replicate (w64 ((w64 (Int.tdiv (w64 ((x1.length : Int) * 3)) 2)) + 1)).toNat (0 : Int)), 0)) (()) ⟨rfl, rfl, rfl, rfl, trivial⟩ [0] rfl ?_ ?_
        · rintro ⟨l1, x2⟩ _
          refine TC.seq ?_
          refine TC.seq ?_
          refine TC.region ?_
          refine TL.move rfl rfl (v := .int .i64 x2) rfl ?_
          refine TL.move rfl rfl (v := SV.v s1) rfl ?_
          refine TL.lenM (RdM.old h1) Try.underlying22 rfl rfl rfl ?_
          refine TL.bin .i64 x2 (x1.length : Int) rfl rfl rfl rfl (v := .bool (decide (x2 < (x1.length : Int)))) rfl ?_
          refine TL.done ?_
          refine TC.cond (b := (decide (x2 < (x1.length : Int)))) rfl (fun c7 => ?_) (fun c8 => ?_)
          · refine TC.skip ?_
            refine TC.seq ?_
            refine TC.block (NoEx.loop rfl NoEx.body) ?_
            refine TC.seq ?_
            refine TC.seq ?_
            refine TC.region ?_
            refine TL.move rfl rfl (v := SV.v s1) rfl ?_
            refine TL.move rfl rfl (v := .int .i64 x2) rfl ?_
            refine TL.chk fun h4 => ?_
            refine TL.ixsM x2 x2.toNat (RdM.old h1) h4 Try.underlying22 Try.sizeOf53 rfl rfl rfl rfl (by omega) ?_
            refine TL.loadM2 (RdM.old h1) Try.isAgg53 x2 h4 (by omega) rfl rfl rfl ?_
            refine TL.len (RdM.inn (RdM.old h1) h4) Try.underlying53 rfl rfl rfl ?_
            refine TL.bin .i64 ((gt x1 x2).length : Int) 3 rfl rfl rfl rfl (v := .bool (((gt x1 x2).length : Int) != 3)) rfl ?_
            refine TL.done ?_
            refine TC.cond (b := (((gt x1 x2).length : Int) != 3)) rfl (fun c9 => ?_) (fun c10 => ?_)
            · refine TC.seq ?_
              refine TC.region ?_
              refine TL.assign rfl rfl (v := .bool false) rfl ?_
              refine TL.done ?_
              exact TC.retF (Fin.loop Far.ret (Fin.body (fin1 (.inr rfl) rfl (.tmp rfl) [] rfl ⟨rfl, rfl⟩)))
            · refine TC.skip ?_
              refine TC.seq ?_
              refine TC.region ?_
              refine TL.assign rfl rfl (v := .int .i64 0) rfl ?_
              refine TL.done ?_
              refine TC.loopK (σ := (List Int) × Int) (γ := Unit) (Γ' := (fun p q => match p, q with | (l2, x3), _ => [(0, SV.v s1), (3, .int .i64 (w64 (Int.tdiv (w64 ((x1.length : Int) * 3)) 2))), (4, SV.v s2), (5, .int .i64 x2), (6, .int .i64 x3)])) (L' := (fun p q => match p, q with | (l2, x3), _ => [row Ei 2 s2 l2])) (Γb := (fun p q => match p, q with | (l2, x3), _ => [(0, SV.v s1), (3, .int .i64 (w64 (Int.tdiv (w64 ((x1.length : Int) * 3)) 2))), (4, SV.v s2), (5, .int .i64 x2), (6, .int .i64 x3)])) (Lb := (fun p q => match p, q with | (l2, x3), _ => [row Ei 2 s2 l2])) ((l1, 0)) (()) ⟨rfl, rfl, rfl, rfl, rfl, trivial⟩ [0] rfl ?_ ?_
              · rintro ⟨l2, x3⟩ _
                refine TC.seq ?_
                refine TC.seq ?_
                refine TC.region ?_
                refine TL.move rfl rfl (v := .int .i64 x3) rfl ?_
                refine TL.bin .i64 x3 3 rfl rfl rfl rfl (v := .bool (decide (x3 < 3))) rfl ?_
                refine TL.done ?_
                refine TC.cond (b := (decide (x3 < 3))) rfl (fun c11 => ?_) (fun c12 => ?_)
                · refine TC.skip ?_
                  refine TC.seq ?_
                  refine TC.block (NoEx.loop rfl (NoEx.loop rfl NoEx.body)) ?_
                  refine TC.seq ?_
                  refine TC.seq ?_
                  refine TC.region ?_
                  refine TL.move rfl rfl (v := SV.v s1) rfl ?_
                  refine TL.move rfl rfl (v := .int .i64 x2) rfl ?_
                  refine TL.ixsM x2 x2.toNat (RdM.old h1) h4 Try.underlying22 Try.sizeOf53 rfl rfl rfl rfl (by omega) ?_
                  refine TL.loadM2 (RdM.old h1) Try.isAgg53 x2 h4 (by omega) rfl rfl rfl ?_
                  refine TL.move rfl rfl (v := .int .i64 x3) rfl ?_
                  refine TL.chk fun h5 => ?_
                  refine TL.ixs x3 x3.toNat (RdM.inn (RdM.old h1) h4) h5 Try.underlying53 Try.sizeOf2 rfl rfl rfl rfl (by omega) ?_
                  refine TL.loadE (RdM.inn (RdM.old h1) h4) Try.isAgg2 x3.toNat 0 (gt_spec h5) (v := .int .i64 (gt (gt x1 x2) x3)) rfl (by simp only [show Ei.sz = 1 from rfl]; omega) rfl rfl rfl ?_
                  refine TL.move rfl rfl (v := .int .i64 (w64 (Int.tdiv (w64 ((x1.length : Int) * 3)) 2))) rfl ?_
                  refine TL.neg .i64 (w64 (Int.tdiv (w64 ((x1.length : Int) * 3)) 2)) rfl rfl rfl ?_
                  refine TL.move rfl rfl (v := .int .i64 (w64 (Int.tdiv (w64 ((x1.length : Int) * 3)) 2))) rfl ?_
                  refine TL.call (R := G.spec_l01In.R) Try.call58 rfl rfl rfl (fun w hS => G.spec_l01In.calls w (gt (gt x1 x2) x3) (w64 (0 - (w64 (Int.tdiv (w64 ((x1.length : Int) * 3)) 2)))) (w64 (Int.tdiv (w64 ((x1.length : Int) * 3)) 2))) ?_
                  rintro r_1 _ _ ⟨rfl, rfl⟩
                  refine TL.not r_1 rfl rfl rfl ?_
                  refine TL.move rfl rfl (v := .bool (!r_1)) rfl ?_
                  refine TL.cutU 9 [(66, .bool ((!r_1) || ((gt (gt x1 x2) x3) == 0))), (0, SV.v s1), (3, .int .i64 (w64 (Int.tdiv (w64 ((x1.length : Int) * 3)) 2))), (4, SV.v s2), (5, .int .i64 x2), (6, .int .i64 x3), (41, .int .i64 x3), (42, .bool (decide (x3 < 3))), (45, SV.v s1), (46, .int .i64 x2), (47, ep s1 x2.toNat), (48, SV.v (gt ss1 x2)), (49, .int .i64 x3), (50, ep (gt ss1 x2) x3.toNat), (51, .int .i64 (gt (gt x1 x2) x3)), (52, .int .i64 (w64 (Int.tdiv (w64 ((x1.length : Int) * 3)) 2))), (53, .int .i64 (w64 (0 - (w64 (Int.tdiv (w64 ((x1.length : Int) * 3)) 2))))), (54, .int .i64 (w64 (Int.tdiv (w64 ((x1.length : Int) * 3)) 2))), (55, .bool r_1), (56, .bool (!r_1)), (57, .bool (!r_1))] [row Ei 2 s2 l2] ?_ ?_
                  · refine TL.cases (t := 57) (b := (!r_1)) rfl (fun c13 => ?_) (fun c14 => ?_)
                    · refine TL.skip rfl rfl (by decide) ?_
                      refine TL.skip rfl rfl (by decide) ?_
                      refine TL.skip rfl rfl (by decide) ?_
                      refine TL.skip rfl rfl (by decide) ?_
                      refine TL.skip rfl rfl (by decide) ?_
                      refine TL.skip rfl rfl (by decide) ?_
                      refine TL.skip rfl rfl (by decide) ?_
                      refine TL.skip rfl rfl (by decide) ?_
                      refine TL.pick rfl rfl (b := true) rfl (r := .bool true) rfl ?_
                      refine TL.done ?_
                      exact TC.nrm () () ⟨(by rw [c13]; rfl), rfl, rfl, rfl, rfl, rfl, rfl, rfl, rfl, rfl, rfl, rfl, rfl, rfl, rfl, rfl, rfl, rfl, rfl, rfl, (by rw [c13]; rfl), trivial⟩ [0] rfl
                    · refine TL.move rfl rfl (v := SV.v s1) rfl ?_
                      refine TL.move rfl rfl (v := .int .i64 x2) rfl ?_
                      refine TL.ixsM x2 x2.toNat (RdM.old h1) h4 Try.underlying22 Try.sizeOf53 rfl rfl rfl rfl (by omega) ?_
                      refine TL.loadM2 (RdM.old h1) Try.isAgg53 x2 h4 (by omega) rfl rfl rfl ?_
                      refine TL.move rfl rfl (v := .int .i64 x3) rfl ?_
                      refine TL.ixs x3 x3.toNat (RdM.inn (RdM.old h1) h4) h5 Try.underlying53 Try.sizeOf2 rfl rfl rfl rfl (by omega) ?_
                      refine TL.loadE (RdM.inn (RdM.old h1) h4) Try.isAgg2 x3.toNat 0 (gt_spec h5) (v := .int .i64 (gt (gt x1 x2) x3)) rfl (by simp only [show Ei.sz = 1 from rfl]; omega) rfl rfl rfl ?_
                      refine TL.bin .i64 (gt (gt x1 x2) x3) 0 rfl rfl rfl rfl (v := .bool ((gt (gt x1 x2) x3) == 0)) rfl ?_
                      refine TL.pick rfl rfl (b := false) rfl (r := .bool ((gt (gt x1 x2) x3) == 0)) rfl ?_
                      refine TL.done ?_
                      exact TC.nrm () () ⟨(by rw [c14]; rfl), rfl, rfl, rfl, rfl, rfl, rfl, rfl, rfl, rfl, rfl, rfl, rfl, rfl, rfl, rfl, rfl, rfl, rfl, rfl, (by rw [c14]; rfl), trivial⟩ [0] rfl
                  · refine TL.done ?_
                    refine TC.cond (b := ((!r_1) || ((gt (gt x1 x2) x3) == 0))) rfl (fun c15 => ?_) (fun c16 => ?_)
                    · refine TC.seq ?_
                      refine TC.region ?_
                      refine TL.assign rfl rfl (v := .bool false) rfl ?_
                      refine TL.done ?_
                      exact TC.retF (Fin.loop Far.ret (Fin.loop Far.ret (Fin.body (fin1 (.inr rfl) rfl (.tmp rfl) [] rfl ⟨rfl, rfl⟩))))
                    · refine TC.skip ?_
                      refine TC.wk (Γ' := [(0, SV.v s1), (3, .int .i64 (w64 (Int.tdiv (w64 ((x1.length : Int) * 3)) 2))), (4, SV.v s2), (5, .int .i64 x2), (6, .int .i64 x3), (41, .int .i64 x3), (42, .bool (decide (x3 < 3))), (45, SV.v s1), (46, .int .i64 x2), (47, ep s1 x2.toNat), (48, SV.v (gt ss1 x2)), (49, .int .i64 x3), (50, ep (gt ss1 x2) x3.toNat), (51, .int .i64 (gt (gt x1 x2) x3)), (52, .int .i64 (w64 (Int.tdiv (w64 ((x1.length : Int) * 3)) 2))), (53, .int .i64 (w64 (0 - (w64 (Int.tdiv (w64 ((x1.length : Int) * 3)) 2))))), (54, .int .i64 (w64 (Int.tdiv (w64 ((x1.length : Int) * 3)) 2))), (55, .bool r_1), (56, .bool (!r_1)), (57, .bool (!r_1)), (66, .bool ((!r_1) || ((gt (gt x1 x2) x3) == 0)))]) ⟨rfl, rfl, rfl, rfl, rfl, rfl, rfl, rfl, rfl, rfl, rfl, rfl, rfl, rfl, rfl, rfl, rfl, rfl, rfl, rfl, rfl, trivial⟩ ?_
                      refine TC.chk fun h6 => ?_
                      refine TC.draw [SV.v s2, SV.v s1, .int .i64 x2, ep s1 x2.toNat, SV.v (gt ss1 x2), .int .i64 x3, ep (gt ss1 x2) x3.toNat, .int .i64 (gt (gt x1 x2) x3), SV.v s1, .int .i64 x2, ep s1 x2.toNat, SV.v (gt ss1 x2), .int .i64 x3, ep (gt ss1 x2) x3.toNat, .int .i64 (gt (gt x1 x2) x3), .int .i64 (w64 (0 - (gt (gt x1 x2) x3))), .int .i64 (if (w64 (0 - (gt (gt x1 x2) x3))) > (gt (gt x1 x2) x3) then (w64 (0 - (gt (gt x1 x2) x3))) else (gt (gt x1 x2) x3)), ep s2 ((if (w64 (0 - (gt (gt x1 x2) x3))) > (gt (gt x1 x2) x3) then (w64 (0 - (gt (gt x1 x2) x3))) else (gt (gt x1 x2) x3)).toNat), .int .i64 (gt l2 (if (w64 (0 - (gt (gt x1 x2) x3))) > (gt (gt x1 x2) x3) then (w64 (0 - (gt (gt x1 x2) x3))) else (gt (gt x1 x2) x3))), .int .i64 (w64 ((gt l2 (if (w64 (0 - (gt (gt x1 x2) x3))) > (gt (gt x1 x2) x3) then (w64 (0 - (gt (gt x1 x2) x3))) else (gt (gt x1 x2) x3))) + 1)), ep s2 ((if (w64 (0 - (gt (gt x1 x2) x3))) > (gt (gt x1 x2) x3) then (w64 (0 - (gt (gt x1 x2) x3))) else (gt (gt x1 x2) x3)).toNat), undef] 21 [row Ei 2 s2 (l2.set (if (w64 (0 - (gt (gt x1 x2) x3))) > (gt (gt x1 x2) x3) then (w64 (0 - (gt (gt x1 x2) x3))) else (gt (gt x1 x2) x3)).toNat (w64 ((gt l2 (if (w64 (0 - (gt (gt x1 x2) x3))) > (gt (gt x1 x2) x3) then (w64 (0 - (gt (gt x1 x2) x3))) else (gt (gt x1 x2) x3))) + 1)))] (by kernel_rfl) rfl rfl rfl rfl ?_ ?_
                      · refine ⟨?_, ?_, ?_, ?_, ?_, ?_, ?_, ?_, ?_, ?_, ?_, ?_, ?_, ?_, ?_, ?_, ?_, ?_, ?_, ?_, ?_, ?_, trivial⟩
                        · refine TL.move rfl rfl (v := SV.v s2) rfl ?_
                          refine TL.done ?_
                          exact TC.nrm () () ⟨rfl, trivial⟩ [0] rfl
                        · refine TL.move rfl rfl (v := SV.v s1) rfl ?_
                          refine TL.done ?_
                          exact TC.nrm () () ⟨rfl, trivial⟩ [0] rfl
                        · refine TL.move rfl rfl (v := .int .i64 x2) rfl ?_
                          refine TL.done ?_
                          exact TC.nrm () () ⟨rfl, trivial⟩ [0] rfl
                        · refine TL.ixsM x2 x2.toNat (RdM.old h1) h4 Try.underlying22 Try.sizeOf53 rfl rfl rfl rfl (by omega) ?_
                          refine TL.done ?_
                          exact TC.nrm () () ⟨rfl, trivial⟩ [0] rfl
                        · refine TL.loadM2 (RdM.old h1) Try.isAgg53 x2 h4 (by omega) rfl rfl rfl ?_
                          refine TL.done ?_
                          exact TC.nrm () () ⟨rfl, trivial⟩ [0] rfl
                        · refine TL.move rfl rfl (v := .int .i64 x3) rfl ?_
                          refine TL.done ?_
                          exact TC.nrm () () ⟨rfl, trivial⟩ [0] rfl
                        · refine TL.ixs x3 x3.toNat (RdM.inn (RdM.old h1) h4) h5 Try.underlying53 Try.sizeOf2 rfl rfl rfl rfl (by omega) ?_
                          refine TL.done ?_
                          exact TC.nrm () () ⟨rfl, trivial⟩ [0] rfl
                        · refine TL.loadE (RdM.inn (RdM.old h1) h4) Try.isAgg2 x3.toNat 0 (gt_spec h5) (v := .int .i64 (gt (gt x1 x2) x3)) rfl (by simp only [show Ei.sz = 1 from rfl]; omega) rfl rfl rfl ?_
                          refine TL.done ?_
                          exact TC.nrm () () ⟨rfl, trivial⟩ [0] rfl
                        · refine TL.move rfl rfl (v := SV.v s1) rfl ?_
                          refine TL.done ?_
                          exact TC.nrm () () ⟨rfl, trivial⟩ [0] rfl
                        · refine TL.move rfl rfl (v := .int .i64 x2) rfl ?_
                          refine TL.done ?_
                          exact TC.nrm () () ⟨rfl, trivial⟩ [0] rfl
                        · refine TL.ixsM x2 x2.toNat (RdM.old h1) h4 Try.underlying22 Try.sizeOf53 rfl rfl rfl rfl (by omega) ?_
                          refine TL.done ?_
                          exact TC.nrm () () ⟨rfl, trivial⟩ [0] rfl
                        · refine TL.loadM2 (RdM.old h1) Try.isAgg53 x2 h4 (by omega) rfl rfl rfl ?_
                          refine TL.done ?_
                          exact TC.nrm () () ⟨rfl, trivial⟩ [0] rfl
                        · refine TL.move rfl rfl (v := .int .i64 x3) rfl ?_
                          refine TL.done ?_
                          exact TC.nrm () () ⟨rfl, trivial⟩ [0] rfl
                        · refine TL.ixs x3 x3.toNat (RdM.inn (RdM.old h1) h4) h5 Try.underlying53 Try.sizeOf2 rfl rfl rfl rfl (by omega) ?_
                          refine TL.done ?_
                          exact TC.nrm () () ⟨rfl, trivial⟩ [0] rfl
                        · refine TL.loadE (RdM.inn (RdM.old h1) h4) Try.isAgg2 x3.toNat 0 (gt_spec h5) (v := .int .i64 (gt (gt x1 x2) x3)) rfl (by simp only [show Ei.sz = 1 from rfl]; omega) rfl rfl rfl ?_
                          refine TL.done ?_
                          exact TC.nrm () () ⟨rfl, trivial⟩ [0] rfl
                        · refine TL.neg .i64 (gt (gt x1 x2) x3) rfl rfl rfl ?_
                          refine TL.done ?_
                          exact TC.nrm () () ⟨rfl, trivial⟩ [0] rfl
                        · refine TL.max2 rfl rfl rfl rfl ?_
                          refine TL.done ?_
                          exact TC.nrm () () ⟨rfl, trivial⟩ [0] rfl
                        · refine TL.ixs (if (w64 (0 - (gt (gt x1 x2) x3))) > (gt (gt x1 x2) x3) then (w64 (0 - (gt (gt x1 x2) x3))) else (gt (gt x1 x2) x3)) ((if (w64 (0 - (gt (gt x1 x2) x3))) > (gt (gt x1 x2) x3) then (w64 (0 - (gt (gt x1 x2) x3))) else (gt (gt x1 x2) x3)).toNat) (Rd.row 0 rfl) h6 Try.underlying53 Try.sizeOf2 rfl rfl rfl rfl (by omega) ?_
                          refine TL.done ?_
                          exact TC.nrm () () ⟨rfl, trivial⟩ [0] rfl
                        · refine TL.loadE (Rd.row 0 rfl) Try.isAgg2 (if (w64 (0 - (gt (gt x1 x2) x3))) > (gt (gt x1 x2) x3) then (w64 (0 - (gt (gt x1 x2) x3))) else (gt (gt x1 x2) x3)).toNat 0 (gt_spec h6) (v := .int .i64 (gt l2 (if (w64 (0 - (gt (gt x1 x2) x3))) > (gt (gt x1 x2) x3) then (w64 (0 - (gt (gt x1 x2) x3))) else (gt (gt x1 x2) x3)))) rfl (by simp only [show Ei.sz = 1 from rfl]; omega) rfl rfl rfl ?_
                          refine TL.done ?_
                          exact TC.nrm () () ⟨rfl, trivial⟩ [0] rfl
                        · refine TL.bin .i64 (gt l2 (if (w64 (0 - (gt (gt x1 x2) x3))) > (gt (gt x1 x2) x3) then (w64 (0 - (gt (gt x1 x2) x3))) else (gt (gt x1 x2) x3))) 1 rfl rfl rfl rfl (v := .int .i64 (w64 ((gt l2 (if (w64 (0 - (gt (gt x1 x2) x3))) > (gt (gt x1 x2) x3) then (w64 (0 - (gt (gt x1 x2) x3))) else (gt (gt x1 x2) x3))) + 1))) rfl ?_
                          refine TL.done ?_
                          exact TC.nrm () () ⟨rfl, trivial⟩ [0] rfl
                        · refine TL.ixs (if (w64 (0 - (gt (gt x1 x2) x3))) > (gt (gt x1 x2) x3) then (w64 (0 - (gt (gt x1 x2) x3))) else (gt (gt x1 x2) x3)) ((if (w64 (0 - (gt (gt x1 x2) x3))) > (gt (gt x1 x2) x3) then (w64 (0 - (gt (gt x1 x2) x3))) else (gt (gt x1 x2) x3)).toNat) (Rd.row 0 rfl) h6 Try.underlying53 Try.sizeOf2 rfl rfl rfl rfl (by omega) ?_
                          refine TL.done ?_
                          exact TC.nrm () () ⟨rfl, trivial⟩ [0] rfl
                        · refine TL.stE 0 ((if (w64 (0 - (gt (gt x1 x2) x3))) > (gt (gt x1 x2) x3) then (w64 (0 - (gt (gt x1 x2) x3))) else (gt (gt x1 x2) x3)).toNat) (w64 ((gt l2 (if (w64 (0 - (gt (gt x1 x2) x3))) > (gt (gt x1 x2) x3) then (w64 (0 - (gt (gt x1 x2) x3))) else (gt (gt x1 x2) x3))) + 1)) (v := .int .i64 (w64 ((gt l2 (if (w64 (0 - (gt (gt x1 x2) x3))) > (gt (gt x1 x2) x3) then (w64 (0 - (gt (gt x1 x2) x3))) else (gt (gt x1 x2) x3))) + 1))) rfl Try.sizeOf2 rfl rfl rfl (by have h_ := h6; omega) (by simp only [show Ei.sz = 1 from rfl]; omega) rfl rfl rfl ?_
                          refine TL.done ?_
                          exact TC.nrm () () trivial [0] rfl
                      · refine TC.region ?_
                        refine TL.move rfl rfl (v := .int .i64 x3) rfl ?_
                        refine TL.bin .i64 x3 1 rfl rfl rfl rfl (v := .int .i64 (w64 (x3 + 1))) rfl ?_
                        refine TL.assign rfl rfl (v := .int .i64 (w64 (x3 + 1))) rfl ?_
                        refine TL.done ?_
                        exact TC.next (((l2.set (if (w64 (0 - (gt (gt x1 x2) x3))) > (gt (gt x1 x2) x3) then (w64 (0 - (gt (gt x1 x2) x3))) else (gt (gt x1 x2) x3)).toNat (w64 ((gt l2 (if (w64 (0 - (gt (gt x1 x2) x3))) > (gt (gt x1 x2) x3) then (w64 (0 - (gt (gt x1 x2) x3))) else (gt (gt x1 x2) x3))) + 1))), (w64 (x3 + 1)))) (()) ⟨rfl, rfl, rfl, rfl, rfl, trivial⟩ [0] rfl
                · exact TC.brk ((l2, x3)) (()) ⟨rfl, rfl, rfl, rfl, rfl, trivial⟩ [0] rfl
              · rintro ⟨l2, x3⟩ _
                refine TC.region ?_
                refine TL.move rfl rfl (v := .int .i64 x2) rfl ?_
                refine TL.bin .i64 x2 1 rfl rfl rfl rfl (v := .int .i64 (w64 (x2 + 1))) rfl ?_
                refine TL.assign rfl rfl (v := .int .i64 (w64 (x2 + 1))) rfl ?_
                refine TL.done ?_
                exact TC.next ((l2, (w64 (x2 + 1)))) (()) ⟨rfl, rfl, rfl, rfl, trivial⟩ [0] rfl
          · exact TC.brk ((l1, x2)) (()) ⟨rfl, rfl, rfl, rfl, trivial⟩ [0] rfl
        · rintro ⟨l1, x2⟩ _
          refine TC.seq ?_
          refine TC.seq ?_
          refine TC.region ?_
          refine TL.assign rfl rfl (v := .int .i64 1) rfl ?_
          refine TL.done ?_
          refine TC.loopK (σ := Int) (γ := Unit) (Γ' := (fun x4 _ => [(3, .int .i64 (w64 (Int.tdiv (w64 ((x1.length : Int) * 3)) 2))), (4, SV.v s2), (7, .int .i64 x4)])) (L' := (fun x4 _ => [row Ei 2 s2 l1])) (Γb := (fun x4 _ => [(3, .int .i64 (w64 (Int.tdiv (w64 ((x1.length : Int) * 3)) 2))), (4, SV.v s2), (7, .int .i64 x4)])) (Lb := (fun x4 _ => [row Ei 2 s2 l1])) (1) (()) ⟨rfl, rfl, rfl, trivial⟩ [0] rfl ?_ ?_
          · rintro x4 _
            refine TC.seq ?_
            refine TC.seq ?_
            refine TC.region ?_
            refine TL.move rfl rfl (v := .int .i64 x4) rfl ?_
            refine TL.move rfl rfl (v := .int .i64 (w64 (Int.tdiv (w64 ((x1.length : Int) * 3)) 2))) rfl ?_
            refine TL.bin .i64 x4 (w64 (Int.tdiv (w64 ((x1.length : Int) * 3)) 2)) rfl rfl rfl rfl (v := .bool (decide (x4 ≤ (w64 (Int.tdiv (w64 ((x1.length : Int) * 3)) 2))))) rfl ?_
            refine TL.done ?_
            refine TC.cond (b := (decide (x4 ≤ (w64 (Int.tdiv (w64 ((x1.length : Int) * 3)) 2))))) rfl (fun c17 => ?_) (fun c18 => ?_)
            · refine TC.skip ?_
              refine TC.seq ?_
              refine TC.block (NoEx.loop rfl NoEx.body) ?_
              refine TC.seq ?_
              refine TC.region ?_
              refine TL.move rfl rfl (v := SV.v s2) rfl ?_
              refine TL.move rfl rfl (v := .int .i64 x4) rfl ?_
              refine TL.chk fun h7 => ?_
              refine TL.ixs x4 x4.toNat (Rd.row 0 rfl) h7 Try.underlying53 Try.sizeOf2 rfl rfl rfl rfl (by omega) ?_
              refine TL.loadE (Rd.row 0 rfl) Try.isAgg2 x4.toNat 0 (gt_spec h7) (v := .int .i64 (gt l1 x4)) rfl (by simp only [show Ei.sz = 1 from rfl]; omega) rfl rfl rfl ?_
              refine TL.bin .i64 (gt l1 x4) 2 rfl rfl rfl rfl (v := .bool ((gt l1 x4) != 2)) rfl ?_
              refine TL.done ?_
              refine TC.cond (b := ((gt l1 x4) != 2)) rfl (fun c19 => ?_) (fun c20 => ?_)
              · refine TC.seq ?_
                refine TC.region ?_
                refine TL.assign rfl rfl (v := .bool false) rfl ?_
                refine TL.done ?_
                exact TC.retF (Fin.loop Far.ret (Fin.body (fin1 (.inr rfl) rfl (.tmp rfl) [] rfl ⟨rfl, rfl⟩)))
              · refine TC.skip ?_
                refine TC.region ?_
                refine TL.move rfl rfl (v := .int .i64 x4) rfl ?_
                refine TL.bin .i64 x4 1 rfl rfl rfl rfl (v := .int .i64 (w64 (x4 + 1))) rfl ?_
                refine TL.assign rfl rfl (v := .int .i64 (w64 (x4 + 1))) rfl ?_
                refine TL.done ?_
                exact TC.next ((w64 (x4 + 1))) (()) ⟨rfl, rfl, rfl, trivial⟩ [0] rfl
            · exact TC.brk (x4) (()) ⟨rfl, rfl, rfl, trivial⟩ [0] rfl
          · rintro x4 _
            refine TC.seq ?_
            refine TC.region ?_
            refine TL.assign rfl rfl (v := .bool true) rfl ?_
            refine TL.done ?_
            exact TC.retF (Fin.body (fin1 (.inr rfl) rfl (.tmp rfl) [] rfl ⟨rfl, rfl⟩))

end Go.Proofs.Ytnppkcemnjkboaa.G

/- spec.l07Oriented, as a pure function. -/
set_option linter.unusedVariables false
namespace Go.Proofs.Ytnppkcemnjkboaa.G
open Go Go.Sx Go.Proofs

def spec_l07Oriented.b0 (x2 : Int) (x1 : List (List Int)) : (List Int) × Int → Option (LB ((List Int) × Int)) := fun p => match p with | (l2, x3) => (bif (decide (x3 < 3)) then chk x2 x1.length (chk x3 ((gt x1 x2).length) (((bif (decide ((gt (gt x1 x2) x3) > 0)) then chk (gt (gt x1 x2) x3) l2.length (some (l2.set (gt (gt x1 x2) x3).toNat (w64 ((gt l2 (gt (gt x1 x2) x3)) + 1)))) else chk (w64 (0 - (gt (gt x1 x2) x3))) l2.length (some (l2.set (w64 (0 - (gt (gt x1 x2) x3))).toNat (w64 ((gt l2 (w64 (0 - (gt (gt x1 x2) x3)))) - 1)))))).bind (fun l3 => some (.next (l3, (w64 (x3 + 1))))))) else some (.brk (l2, x3)))

def spec_l07Oriented.b1 (x1 : List (List Int)) : (List Int) × Int → Option (LB ((List Int) × Int)) := fun p => match p with | (l1, x2) => (bif (decide (x2 < (x1.length : Int))) then (loop1 (spec_l07Oriented.b0 x2 x1) (l1, 0)).bind (fun p => match p with | (l2, x3) => some (.next (l2, (w64 (x2 + 1))))) else some (.brk (l1, x2)))

def spec_l07Oriented.b2 (l1 : List Int) : Int → Option (LR Int Bool) := fun x4 => (bif (decide (x4 < (l1.length : Int))) then chk x4 l1.length ((bif ((gt l1 x4) != 0) then some (.ret (false)) else some (.next (w64 (x4 + 1))))) else some (.brk x4))

def spec_l07Oriented.f (x1 : List (List Int)) : Option Bool := grd (decide (0 ≤ (w64 ((w64 (Int.tdiv (w64 ((x1.length : Int) * 3)) 2)) + 1)))) (small (w64 ((w64 (Int.tdiv (w64 ((x1.length : Int) * 3)) 2)) + 1)).toNat ((loop1 (spec_l07Oriented.b1 x1) ((List.replicate (w64 ((w64 (Int.tdiv (w64 ((x1.length : Int) * 3)) 2)) + 1)).toNat (0 : Int)), 0)).bind (fun p => match p with | (l1, x2) => (loop (spec_l07Oriented.b2 l1) 0).bind (ln (fun x4 => some true)))))

def spec_l07Oriented.R (r : Bool) (v : Value) (L : List Asn) : Prop := v = .bool r ∧ L = []

set_option maxRecDepth 100000 in
set_option maxHeartbeats 4000000 in
theorem spec_l07Oriented.calls (w : World) (s1 : SV) (ss1 : List SV) (x1 : List (List Int)) (h1 : ReadsM Ei (hp w) s1 ss1 x1) :
    ∀ r, spec_l07Oriented.f x1 = some r → Calls Try.prog 54 #[SV.v s1] w (Ret w (spec_l07Oriented.R r)) := by

  refine calls_T (n := 67) (Γ := [(0, SV.v s1)]) (R := spec_l07Oriented.R) Try.func54 rfl rfl (Nat.le_of_ble_eq_true rfl) ⟨rfl, trivial⟩ ?_
  unfold spec_l07Oriented.f
  refine TC.seq ?_
  refine TC.region ?_
  refine TL.assign rfl rfl (v := .bool false) rfl ?_
  refine TL.done ?_
  refine TC.seq ?_
  refine TC.region ?_
  refine TL.move rfl rfl (v := SV.v s1) rfl ?_
  refine TL.lenM (RdM.old h1) Try.underlying22 rfl rfl rfl ?_
  refine TL.bin .i64 (x1.length : Int) 3 rfl rfl rfl rfl (v := .int .i64 (w64 ((x1.length : Int) * 3))) rfl ?_
  refine TL.quo .i64 (w64 ((x1.length : Int) * 3)) 2 (by decide) rfl rfl rfl rfl ?_
  refine TL.bin .i64 (w64 (Int.tdiv (w64 ((x1.length : Int) * 3)) 2)) 1 rfl rfl rfl rfl (v := .int .i64 (w64 ((w64 (Int.tdiv (w64 ((x1.length : Int) * 3)) 2)) + 1))) rfl ?_
  refine TL.grd fun h3 => ?_
  refine TL.small fun h2 => ?_
  refine TL.mkslice Ei (0 : Int) (w64 ((w64 (Int.tdiv (w64 ((x1.length : Int) * 3)) 2)) + 1)) Try.underlying53 (info_of Try.type2) (zv := (Try.t2.zero.getD (.bool false))) rfl rfl rfl (by simp [Ei, flat, Seg.cells]) (by decide) (by simpa using h3) (by omega) rfl rfl rfl rfl fun s2 => ?_
  refine TL.assign rfl rfl (v := SV.v s2) rfl ?_
  refine TL.done ?_
  refine TC.seq ?_
  refine TC.seq ?_
  refine TC.region ?_
  refine TL.assign rfl rfl (v := .int .i64 0) rfl ?_
  refine TL.done ?_
  refine TC.loop1 (σ := (List Int) × Int) (γ := Unit) (Γ' := (fun p q => match p, q with | (l1, x2), _ => [(0, SV.v s1), (3, SV.v s2), (4, .int .i64 x2)])) (L' := (fun p q => match p, q with | (l1, x2), _ => [row Ei 2 s2 l1])) (Γb := (fun p q => match p, q with | (l1, x2), _ => [(0, SV.v s1), (3, SV.v s2), (4, .int .i64 x2)])) (Lb := (fun p q => match p, q with | (l1, x2), _ => [row Ei 2 s2 l1])) (((List.replicate (w64 ((w64 (Int.tdiv (w64 ((x1.length : Int) * 3)) 2)) + 1)).toNat (0 : Int)), 0)) (()) ⟨rfl, rfl, rfl, trivial⟩ [0] rfl ?_ ?_
  · rintro ⟨l1, x2⟩ _
    refine TC.seq ?_
    refine TC.seq ?_
    refine TC.region ?_
    refine TL.move rfl rfl (v := .int .i64 x2) rfl ?_
    refine TL.move rfl rfl (v := SV.v s1) rfl ?_
    refine TL.lenM (RdM.old h1) Try.underlying22 rfl rfl rfl ?_
    refine TL.bin .i64 x2 (x1.length : Int) rfl rfl rfl rfl (v := .bool (decide (x2 < (x1.length : Int)))) rfl ?_
    refine TL.done ?_
    refine TC.cond (b := (decide (x2 < (x1.length : Int)))) rfl (fun c1 => ?_) (fun c2 => ?_)
    · refine TC.skip ?_
      refine TC.seq ?_
      refine TC.block (NoEx.loop1 rfl) ?_
      refine TC.seq ?_
      refine TC.region ?_
      refine TL.assign rfl rfl (v := .int .i64 0) rfl ?_
      refine TL.done ?_
      refine TC.loop1 (σ := (List Int) × Int) (γ := Unit) (Γ' := (fun p q => match p, q with | (l2, x3), _ => [(0, SV.v s1), (3, SV.v s2), (4, .int .i64 x2), (5, .int .i64 x3)])) (L' := (fun p q => match p, q with | (l2, x3), _ => [row Ei 2 s2 l2])) (Γb := (fun p q => match p, q with | (l2, x3), _ => [(0, SV.v s1), (3, SV.v s2), (4, .int .i64 x2), (5, .int .i64 x3)])) (Lb := (fun p q => match p, q with | (l2, x3), _ => [row Ei 2 s2 l2])) ((l1, 0)) (()) ⟨rfl, rfl, rfl, rfl, trivial⟩ [0] rfl ?_ ?_
      · rintro ⟨l2, x3⟩ _
        refine TC.seq ?_
        refine TC.seq ?_
        refine TC.region ?_
        refine TL.move rfl rfl (v := .int .i64 x3) rfl ?_
        refine TL.bin .i64 x3 3 rfl rfl rfl rfl (v := .bool (decide (x3 < 3))) rfl ?_
        refine TL.done ?_
        refine TC.cond (b := (decide (x3 < 3))) rfl (fun c3 => ?_) (fun c4 => ?_)
        · refine TC.skip ?_
          refine TC.seq ?_
          refine TC.block (NoEx.loop1 rfl) ?_
          refine TC.seq ?_
          refine TC.region ?_
          refine TL.move rfl rfl (v := SV.v s1) rfl ?_
          refine TL.move rfl rfl (v := .int .i64 x2) rfl ?_
          refine TL.chk fun h4 => ?_
          refine TL.ixsM x2 x2.toNat (RdM.old h1) h4 Try.underlying22 Try.sizeOf53 rfl rfl rfl rfl (by omega) ?_
          refine TL.loadM2 (RdM.old h1) Try.isAgg53 x2 h4 (by omega) rfl rfl rfl ?_
          refine TL.move rfl rfl (v := .int .i64 x3) rfl ?_
          refine TL.chk fun h5 => ?_
          refine TL.ixs x3 x3.toNat (RdM.inn (RdM.old h1) h4) h5 Try.underlying53 Try.sizeOf2 rfl rfl rfl rfl (by omega) ?_
          refine TL.loadE (RdM.inn (RdM.old h1) h4) Try.isAgg2 x3.toNat 0 (gt_spec h5) (v := .int .i64 (gt (gt x1 x2) x3)) rfl (by simp only [show Ei.sz = 1 from rfl]; omega) rfl rfl rfl ?_
          refine TL.bin .i64 (gt (gt x1 x2) x3) 0 rfl rfl rfl rfl (v := .bool (decide ((gt (gt x1 x2) x3) > 0))) rfl ?_
          refine TL.done ?_
          refine TC.join1 (σ := (List Int)) (γ := Unit) (Γ' := (fun l3 _ => [(0, SV.v s1), (3, SV.v s2), (4, .int .i64 x2), (5, .int .i64 x3)])) (L' := (fun l3 _ => [row Ei 2 s2 l3])) ?_ ?_
          · refine TC.cond (b := (decide ((gt (gt x1 x2) x3) > 0))) rfl (fun c5 => ?_) (fun c6 => ?_)
            · refine TC.region ?_
              refine TL.move rfl rfl (v := SV.v s2) rfl ?_
              refine TL.move rfl rfl (v := SV.v s1) rfl ?_
              refine TL.move rfl rfl (v := .int .i64 x2) rfl ?_
              refine TL.ixsM x2 x2.toNat (RdM.old h1) h4 Try.underlying22 Try.sizeOf53 rfl rfl rfl rfl (by omega) ?_
              refine TL.loadM2 (RdM.old h1) Try.isAgg53 x2 h4 (by omega) rfl rfl rfl ?_
              refine TL.move rfl rfl (v := .int .i64 x3) rfl ?_
              refine TL.ixs x3 x3.toNat (RdM.inn (RdM.old h1) h4) h5 Try.underlying53 Try.sizeOf2 rfl rfl rfl rfl (by omega) ?_
              refine TL.loadE (RdM.inn (RdM.old h1) h4) Try.isAgg2 x3.toNat 0 (gt_spec h5) (v := .int .i64 (gt (gt x1 x2) x3)) rfl (by simp only [show Ei.sz = 1 from rfl]; omega) rfl rfl rfl ?_
              refine TL.chk fun h6 => ?_
              refine TL.ixs (gt (gt x1 x2) x3) ((gt (gt x1 x2) x3).toNat) (Rd.row 0 rfl) h6 Try.underlying53 Try.sizeOf2 rfl rfl rfl rfl (by omega) ?_
              refine TL.loadE (Rd.row 0 rfl) Try.isAgg2 (gt (gt x1 x2) x3).toNat 0 (gt_spec h6) (v := .int .i64 (gt l2 (gt (gt x1 x2) x3))) rfl (by simp only [show Ei.sz = 1 from rfl]; omega) rfl rfl rfl ?_
              refine TL.bin .i64 (gt l2 (gt (gt x1 x2) x3)) 1 rfl rfl rfl rfl (v := .int .i64 (w64 ((gt l2 (gt (gt x1 x2) x3)) + 1))) rfl ?_
              refine TL.ixs (gt (gt x1 x2) x3) ((gt (gt x1 x2) x3).toNat) (Rd.row 0 rfl) h6 Try.underlying53 Try.sizeOf2 rfl rfl rfl rfl (by omega) ?_
              refine TL.stE 0 ((gt (gt x1 x2) x3).toNat) (w64 ((gt l2 (gt (gt x1 x2) x3)) + 1)) (v := .int .i64 (w64 ((gt l2 (gt (gt x1 x2) x3)) + 1))) rfl Try.sizeOf2 rfl rfl rfl (by have h_ := h6; omega) (by simp only [show Ei.sz = 1 from rfl]; omega) rfl rfl rfl ?_
              refine TL.done ?_
              exact TC.nrm ((l2.set (gt (gt x1 x2) x3).toNat (w64 ((gt l2 (gt (gt x1 x2) x3)) + 1)))) (()) ⟨rfl, rfl, rfl, rfl, trivial⟩ [0] rfl
            · refine TC.region ?_
              refine TL.move rfl rfl (v := SV.v s2) rfl ?_
              refine TL.move rfl rfl (v := SV.v s1) rfl ?_
              refine TL.move rfl rfl (v := .int .i64 x2) rfl ?_
              refine TL.ixsM x2 x2.toNat (RdM.old h1) h4 Try.underlying22 Try.sizeOf53 rfl rfl rfl rfl (by omega) ?_
              refine TL.loadM2 (RdM.old h1) Try.isAgg53 x2 h4 (by omega) rfl rfl rfl ?_
              refine TL.move rfl rfl (v := .int .i64 x3) rfl ?_
              refine TL.ixs x3 x3.toNat (RdM.inn (RdM.old h1) h4) h5 Try.underlying53 Try.sizeOf2 rfl rfl rfl rfl (by omega) ?_
              refine TL.loadE (RdM.inn (RdM.old h1) h4) Try.isAgg2 x3.toNat 0 (gt_spec h5) (v := .int .i64 (gt (gt x1 x2) x3)) rfl (by simp only [show Ei.sz = 1 from rfl]; omega) rfl rfl rfl ?_
              refine TL.neg .i64 (gt (gt x1 x2) x3) rfl rfl rfl ?_
              refine TL.chk fun h7 => ?_
              refine TL.ixs (w64 (0 - (gt (gt x1 x2) x3))) ((w64 (0 - (gt (gt x1 x2) x3))).toNat) (Rd.row 0 rfl) h7 Try.underlying53 Try.sizeOf2 rfl rfl rfl rfl (by omega) ?_
              refine TL.loadE (Rd.row 0 rfl) Try.isAgg2 (w64 (0 - (gt (gt x1 x2) x3))).toNat 0 (gt_spec h7) (v := .int .i64 (gt l2 (w64 (0 - (gt (gt x1 x2) x3))))) rfl (by simp only [show Ei.sz = 1 from rfl]; omega) rfl rfl rfl ?_
              refine TL.bin .i64 (gt l2 (w64 (0 - (gt (gt x1 x2) x3)))) 1 rfl rfl rfl rfl (v := .int .i64 (w64 ((gt l2 (w64 (0 - (gt (gt x1 x2) x3)))) - 1))) rfl ?_
              refine TL.ixs (w64 (0 - (gt (gt x1 x2) x3))) ((w64 (0 - (gt (gt x1 x2) x3))).toNat) (Rd.row 0 rfl) h7 Try.underlying53 Try.sizeOf2 rfl rfl rfl rfl (by omega) ?_
              refine TL.stE 0 ((w64 (0 - (gt (gt x1 x2) x3))).toNat) (w64 ((gt l2 (w64 (0 - (gt (gt x1 x2) x3)))) - 1)) (v := .int .i64 (w64 ((gt l2 (w64 (0 - (gt (gt x1 x2) x3)))) - 1))) rfl Try.sizeOf2 rfl rfl rfl (by have h_ := h7; omega) (by simp only [show Ei.sz = 1 from rfl]; omega) rfl rfl rfl ?_
              refine TL.done ?_
              exact TC.nrm ((l2.set (w64 (0 - (gt (gt x1 x2) x3))).toNat (w64 ((gt l2 (w64 (0 - (gt (gt x1 x2) x3)))) - 1)))) (()) ⟨rfl, rfl, rfl, rfl, trivial⟩ [0] rfl
          · rintro l3 _
            refine TC.region ?_
            refine TL.move rfl rfl (v := .int .i64 x3) rfl ?_
            refine TL.bin .i64 x3 1 rfl rfl rfl rfl (v := .int .i64 (w64 (x3 + 1))) rfl ?_
            refine TL.assign rfl rfl (v := .int .i64 (w64 (x3 + 1))) rfl ?_
            refine TL.done ?_
            exact TC.next1 ((l3, (w64 (x3 + 1)))) (()) ⟨rfl, rfl, rfl, rfl, trivial⟩ [0] rfl
        · exact TC.brk1 ((l2, x3)) (()) ⟨rfl, rfl, rfl, rfl, trivial⟩ [0] rfl
      · rintro ⟨l2, x3⟩ _
        refine TC.region ?_
        refine TL.move rfl rfl (v := .int .i64 x2) rfl ?_
        refine TL.bin .i64 x2 1 rfl rfl rfl rfl (v := .int .i64 (w64 (x2 + 1))) rfl ?_
        refine TL.assign rfl rfl (v := .int .i64 (w64 (x2 + 1))) rfl ?_
        refine TL.done ?_
        exact TC.next1 ((l2, (w64 (x2 + 1)))) (()) ⟨rfl, rfl, rfl, trivial⟩ [0] rfl
    · exact TC.brk1 ((l1, x2)) (()) ⟨rfl, rfl, rfl, trivial⟩ [0] rfl
  · rintro ⟨l1, x2⟩ _
    refine TC.seq ?_
    refine TC.seq ?_
    refine TC.region ?_
    refine TL.assign rfl rfl (v := .int .i64 0) rfl ?_
    refine TL.done ?_
    refine TC.loopK (σ := Int) (γ := Unit) (Γ' := (fun x4 _ => [(3, SV.v s2), (6, .int .i64 x4)])) (L' := (fun x4 _ => [row Ei 2 s2 l1])) (Γb := (fun x4 _ => [(3, SV.v s2), (6, .int .i64 x4)])) (Lb := (fun x4 _ => [row Ei 2 s2 l1])) (0) (()) ⟨rfl, rfl, trivial⟩ [0] rfl ?_ ?_
    · rintro x4 _
      refine TC.seq ?_
      refine TC.seq ?_
      refine TC.region ?_
      refine TL.move rfl rfl (v := .int .i64 x4) rfl ?_
      refine TL.move rfl rfl (v := SV.v s2) rfl ?_
      refine TL.len (Rd.row 0 rfl) Try.underlying53 rfl rfl rfl ?_
      refine TL.bin .i64 x4 (l1.length : Int) rfl rfl rfl rfl (v := .bool (decide (x4 < (l1.length : Int)))) rfl ?_
      refine TL.done ?_
      refine TC.cond (b := (decide (x4 < (l1.length : Int)))) rfl (fun c7 => ?_) (fun c8 => ?_)
      · refine TC.skip ?_
        refine TC.seq ?_
        refine TC.block (NoEx.loop rfl NoEx.body) ?_
        refine TC.seq ?_
        refine TC.region ?_
        refine TL.move rfl rfl (v := SV.v s2) rfl ?_
        refine TL.move rfl rfl (v := .int .i64 x4) rfl ?_
        refine TL.chk fun h8 => ?_
        refine TL.ixs x4 x4.toNat (Rd.row 0 rfl) h8 Try.underlying53 Try.sizeOf2 rfl rfl rfl rfl (by omega) ?_
        refine TL.loadE (Rd.row 0 rfl) Try.isAgg2 x4.toNat 0 (gt_spec h8) (v := .int .i64 (gt l1 x4)) rfl (by simp only [show Ei.sz = 1 from rfl]; omega) rfl rfl rfl ?_
        refine TL.bin .i64 (gt l1 x4) 0 rfl rfl rfl rfl (v := .bool ((gt l1 x4) != 0)) rfl ?_
        refine TL.done ?_
        refine TC.cond (b := ((gt l1 x4) != 0)) rfl (fun c9 => ?_) (fun c10 => ?_)
        · refine TC.seq ?_
          refine TC.region ?_
          refine TL.assign rfl rfl (v := .bool false) rfl ?_
          refine TL.done ?_
          exact TC.retF (Fin.loop Far.ret (Fin.body (fin1 (.inr rfl) rfl (.tmp rfl) [] rfl ⟨rfl, rfl⟩)))
        · refine TC.skip ?_
          refine TC.region ?_
          refine TL.move rfl rfl (v := .int .i64 x4) rfl ?_
          refine TL.bin .i64 x4 1 rfl rfl rfl rfl (v := .int .i64 (w64 (x4 + 1))) rfl ?_
          refine TL.assign rfl rfl (v := .int .i64 (w64 (x4 + 1))) rfl ?_
          refine TL.done ?_
          exact TC.next ((w64 (x4 + 1))) (()) ⟨rfl, rfl, trivial⟩ [0] rfl
      · exact TC.brk (x4) (()) ⟨rfl, rfl, trivial⟩ [0] rfl
    · rintro x4 _
      refine TC.seq ?_
      refine TC.region ?_
      refine TL.assign rfl rfl (v := .bool true) rfl ?_
      refine TL.done ?_
      exact TC.retF (Fin.body (fin1 (.inr rfl) rfl (.tmp rfl) [] rfl ⟨rfl, rfl⟩))

end Go.Proofs.Ytnppkcemnjkboaa.G

/- spec.l07Different, as a pure function. -/
set_option linter.unusedVariables false
namespace Go.Proofs.Ytnppkcemnjkboaa.G
open Go Go.Sx Go.Proofs

def spec_l07Different.b0 (i1 : Int) (list_1 : List Int) : Bool × Int → Option (LB (Bool × Int)) := fun p => match p with | (first1, k_1) => (bif (decide (k_1 < i1)) then (bif first1 then chk k_1 list_1.length (chk i1 list_1.length (some (.next (((gt list_1 k_1) != (gt list_1 i1)), (w64 (k_1 + 1)))))) else some (.next (false, (w64 (k_1 + 1))))) else some (.brk (first1, k_1)))

def spec_l07Different.b1 (list_1 : List Int) : Int × Int → Option (LB (Int × Int)) := fun p => match p with | (count1, i1) => (bif (decide (i1 < (list_1.length : Int))) then (loop1 (spec_l07Different.b0 i1 list_1) (true, 0)).bind (fun p => match p with | (first1, k_1) => ((bif first1 then some (w64 (count1 + 1)) else some count1)).bind (fun count2 => some (.next (count2, (w64 (i1 + 1)))))) else some (.brk (count1, i1)))

def spec_l07Different.f (list_1 : List Int) : Option Int := (loop1 (spec_l07Different.b1 list_1) (0, 0)).bind (fun p => match p with | (count1, i1) => some count1)

def spec_l07Different.R (r : Int) (v : Value) (L : List Asn) : Prop := v = .int .i64 r ∧ L = []

set_option maxRecDepth 100000 in
set_option maxHeartbeats 4000000 in
theorem spec_l07Different.calls (w : World) (s1 : SV) (list_1 : List Int) (h1 : Reads Ei (hp w) s1 list_1) :
    ∀ r, spec_l07Different.f list_1 = some r → Calls Try.prog 65 #[SV.v s1] w (Ret w (spec_l07Different.R r)) := by

  refine calls_T (n := 34) (Γ := [(0, SV.v s1)]) (R := spec_l07Different.R) Try.func65 rfl rfl (Nat.le_of_ble_eq_true rfl) ⟨rfl, trivial⟩ ?_
  unfold spec_l07Different.f
  refine TC.seq ?_
  refine TC.region ?_
  refine TL.assign rfl rfl (v := .int .i64 0) rfl ?_
  refine TL.done ?_
  refine TC.seq ?_
  refine TC.region ?_
  refine TL.assign rfl rfl (v := .int .i64 0) rfl ?_
  refine TL.done ?_
  refine TC.seq ?_
  refine TC.seq ?_
  refine TC.region ?_
  refine TL.assign rfl rfl (v := .int .i64 0) rfl ?_
  refine TL.done ?_
  refine TC.loop1 (σ := Int × Int) (γ := Unit) (Γ' := (fun p q => match p, q with | (count1, i1), _ => [(0, SV.v s1), (3, .int .i64 count1), (4, .int .i64 i1)])) (L' := (fun p q => match p, q with | (count1, i1), _ => [])) (Γb := (fun p q => match p, q with | (count1, i1), _ => [(0, SV.v s1), (3, .int .i64 count1), (4, .int .i64 i1)])) (Lb := (fun p q => match p, q with | (count1, i1), _ => [])) ((0, 0)) (()) ⟨rfl, rfl, rfl, trivial⟩ [] rfl ?_ ?_
  · rintro ⟨count1, i1⟩ _
    refine TC.seq ?_
    refine TC.seq ?_
    refine TC.region ?_
    refine TL.move rfl rfl (v := .int .i64 i1) rfl ?_
    refine TL.move rfl rfl (v := SV.v s1) rfl ?_
    refine TL.len (Rd.old h1) Try.underlying53 rfl rfl rfl ?_
    refine TL.bin .i64 i1 (list_1.length : Int) rfl rfl rfl rfl (v := .bool (decide (i1 < (list_1.length : Int)))) rfl ?_
    refine TL.done ?_
    refine TC.cond (b := (decide (i1 < (list_1.length : Int)))) rfl (fun c1 => ?_) (fun c2 => ?_)
    · refine TC.skip ?_
      refine TC.seq ?_
      refine TC.block (NoEx.loop1 rfl) ?_
      refine TC.seq ?_
      refine TC.region ?_
      refine TL.assign rfl rfl (v := .bool true) rfl ?_
      refine TL.done ?_
      refine TC.seq ?_
      refine TC.seq ?_
      refine TC.region ?_
      refine TL.assign rfl rfl (v := .int .i64 0) rfl ?_
      refine TL.done ?_
      refine TC.loop1 (σ := Bool × Int) (γ := Unit) (Γ' := (fun p q => match p, q with | (first1, k_1), _ => [(0, SV.v s1), (3, .int .i64 count1), (4, .int .i64 i1), (5, .bool first1), (6, .int .i64 k_1)])) (L' := (fun p q => match p, q with | (first1, k_1), _ => [])) (Γb := (fun p q => match p, q with | (first1, k_1), _ => [(0, SV.v s1), (3, .int .i64 count1), (4, .int .i64 i1), (5, .bool first1), (6, .int .i64 k_1)])) (Lb := (fun p q => match p, q with | (first1, k_1), _ => [])) ((true, 0)) (()) ⟨rfl, rfl, rfl, rfl, rfl, trivial⟩ [] rfl ?_ ?_
      · rintro ⟨first1, k_1⟩ _
        refine TC.seq ?_
        refine TC.seq ?_
        refine TC.region ?_
        refine TL.move rfl rfl (v := .int .i64 k_1) rfl ?_
        refine TL.move rfl rfl (v := .int .i64 i1) rfl ?_
        refine TL.bin .i64 k_1 i1 rfl rfl rfl rfl (v := .bool (decide (k_1 < i1))) rfl ?_
        refine TL.done ?_
        refine TC.cond (b := (decide (k_1 < i1))) rfl (fun c3 => ?_) (fun c4 => ?_)
        · refine TC.skip ?_
          refine TC.seq ?_
          refine TC.block (NoEx.loop1 rfl) ?_
          refine TC.ifB first1 (fun c5 => ?_) (fun c5 => ?_)
          · refine TC.wk (Γ' := [(0, SV.v s1), (3, .int .i64 count1), (4, .int .i64 i1), (6, .int .i64 k_1), (13, .int .i64 k_1), (14, .int .i64 i1), (15, .bool (decide (k_1 < i1))), (5, .bool first1)]) ⟨rfl, rfl, rfl, rfl, rfl, rfl, rfl, rfl, trivial⟩ ?_
            refine TC.chk fun h2 => ?_
            refine TC.chk fun h3 => ?_
            refine TC.drawG [(0, SV.v s1), (3, .int .i64 count1), (4, .int .i64 i1), (6, .int .i64 k_1), (13, .int .i64 k_1), (14, .int .i64 i1), (15, .bool (decide (k_1 < i1)))] [(5, .bool first1, 12)] ⟨rfl, rfl, rfl, rfl, rfl, rfl, rfl, trivial⟩ ⟨rfl, trivial⟩ (fun l_ g2 => []) (fun g2 => [.bool true, .bool true, SV.v s1, .int .i64 k_1, ep s1 k_1.toNat, .int .i64 (gt list_1 k_1), SV.v s1, .int .i64 i1, ep s1 i1.toNat, .int .i64 (gt list_1 i1), .bool ((gt list_1 k_1) != (gt list_1 i1)), .bool ((gt list_1 k_1) != (gt list_1 i1)), .bool ((gt list_1 k_1) != (gt list_1 i1))]) [[], [0], [0, 1], [0, 1], [0, 1, 2, 3], [0, 1, 2, 3, 4], [0, 1], [0, 1], [0, 1, 6, 7], [0, 1, 6, 7, 8], [0, 1, 2, 3, 4, 5, 6, 7, 8, 9], [0, 1, 2, 3, 4, 5, 6, 7, 8, 9, 10], [0, 1, 2, 3, 4, 5, 6, 7, 8, 9, 10, 11]] [[some false, some false, some false, some false, some false, some false, some false, some false, some false, some false, some false, some false, some false], [some true, some false, some false, some false, some false, some false, some false, some false, some false, some false, some false, some false, some false], [some true, some true, some false, none, some false, some false, none, none, none, none, some false, some false, some false], [some true, some true, none, some false, some false, some false, none, none, none, none, some false, some false, some false], [some true, some true, some true, some true, some false, some false, none, none, none, none, some false, some false, some false], [some true, some true, some true, some true, some true, some false, none, none, none, none, some false, some false, some false], [some true, some true, none, none, none, none, some false, none, some false, some false, some false, some false, some false], [some true, some true, none, none, none, none, none, some false, some false, some false, some false, some false, some false], [some true, some true, none, none, none, none, some true, some true, some false, some false, some false, some false, some false], [some true, some true, none, none, none, none, some true, some true, some true, some false, some false, some false, some false], [some true, some true, some true, some true, some true, some true, some true, some true, some true, some true, some false, some false, some false], [some true, some true, some true, some true, some true, some true, some true, some true, some true, some true, some true, some false, some false], [some true, some true, some true, some true, some true, some true, some true, some true, some true, some true, some true, some true, some false]] (by kernel_rfl) (fun _ => rfl) rfl rfl rfl rfl rfl (fun _ _ => ⟨⟨⟨⟨⟨⟨⟨⟨⟨⟨⟨⟨⟨trivial, rfl⟩, rfl⟩, rfl⟩, rfl⟩, rfl⟩, rfl⟩, rfl⟩, rfl⟩, rfl⟩, rfl⟩, rfl⟩, rfl⟩, rfl⟩) 0 [] (fun _ => rfl) ?_ ?_
            · refine ⟨rfl, ?_, rfl, ?_, rfl, ?_, rfl, ?_, rfl, ?_, rfl, ?_, rfl, ?_, rfl, ?_, rfl, ?_, rfl, ?_, rfl, ?_, rfl, ?_, rfl, ?_, trivial⟩
              · intro g2
                refine TL.move rfl rfl (v := .bool first1) rfl ?_
                refine TL.done ?_
                exact TC.nrm () [] ⟨(by rw [c5]; rfl), trivial⟩ [] rfl
              · intro g2
                refine TL.move rfl rfl (v := .bool true) rfl ?_
                refine TL.done ?_
                exact TC.nrm () [] ⟨rfl, trivial⟩ [] rfl
              · intro b3_ b6_ b7_ b8_ b9_ g2
                refine TL.move rfl rfl (v := SV.v s1) rfl ?_
                refine TL.done ?_
                exact TC.nrm () [] ⟨rfl, trivial⟩ [] rfl
              · intro b2_ b6_ b7_ b8_ b9_ g2
                refine TL.move rfl rfl (v := .int .i64 k_1) rfl ?_
                refine TL.done ?_
                exact TC.nrm () [] ⟨rfl, trivial⟩ [] rfl
              · intro b6_ b7_ b8_ b9_ g2
                refine TL.asL [] rfl ?_
                refine TL.ixs k_1 k_1.toNat (Rd.old h1) h2 Try.underlying53 Try.sizeOf2 rfl rfl rfl rfl (by omega) ?_
                refine TL.done ?_
                exact TC.nrm () [] ⟨rfl, trivial⟩ [] rfl
              · intro b6_ b7_ b8_ b9_ g2
                refine TL.asL [] rfl ?_
                refine TL.loadE (Rd.old h1) Try.isAgg2 k_1.toNat 0 (gt_spec h2) (v := .int .i64 (gt list_1 k_1)) rfl (by simp only [show Ei.sz = 1 from rfl]; omega) rfl rfl rfl ?_
                refine TL.done ?_
                exact TC.nrm () [] ⟨rfl, trivial⟩ [] rfl
              · intro b2_ b3_ b4_ b5_ b7_ g2
                refine TL.move rfl rfl (v := SV.v s1) rfl ?_
                refine TL.done ?_
                exact TC.nrm () [] ⟨rfl, trivial⟩ [] rfl
              · intro b2_ b3_ b4_ b5_ b6_ g2
                refine TL.move rfl rfl (v := .int .i64 i1) rfl ?_
                refine TL.done ?_
                exact TC.nrm () [] ⟨rfl, trivial⟩ [] rfl
              · intro b2_ b3_ b4_ b5_ g2
                refine TL.asL [] rfl ?_
                refine TL.ixs i1 i1.toNat (Rd.old h1) h3 Try.underlying53 Try.sizeOf2 rfl rfl rfl rfl (by omega) ?_
                refine TL.done ?_
                exact TC.nrm () [] ⟨rfl, trivial⟩ [] rfl
              · intro b2_ b3_ b4_ b5_ g2
                refine TL.asL [] rfl ?_
                refine TL.loadE (Rd.old h1) Try.isAgg2 i1.toNat 0 (gt_spec h3) (v := .int .i64 (gt list_1 i1)) rfl (by simp only [show Ei.sz = 1 from rfl]; omega) rfl rfl rfl ?_
                refine TL.done ?_
                exact TC.nrm () [] ⟨rfl, trivial⟩ [] rfl
              · intro g2
                refine TL.bin .i64 (gt list_1 k_1) (gt list_1 i1) rfl rfl rfl rfl (v := .bool ((gt list_1 k_1) != (gt list_1 i1))) rfl ?_
                refine TL.done ?_
                exact TC.nrm () [] ⟨rfl, trivial⟩ [] rfl
              · intro g2
                refine TL.pick rfl rfl (b := true) rfl (r := .bool ((gt list_1 k_1) != (gt list_1 i1))) rfl ?_
                refine TL.done ?_
                exact TC.nrm () [] ⟨rfl, trivial⟩ [] rfl
              · intro g2
                refine TL.assign rfl rfl (v := .bool ((gt list_1 k_1) != (gt list_1 i1))) rfl ?_
                refine TL.done ?_
                exact TC.nrm () [] ⟨rfl, trivial⟩ [] rfl
            · intro g2
              refine TC.asL [] rfl ?_
              refine TC.region ?_
              refine TL.move rfl rfl (v := .int .i64 k_1) rfl ?_
              refine TL.bin .i64 k_1 1 rfl rfl rfl rfl (v := .int .i64 (w64 (k_1 + 1))) rfl ?_
              refine TL.assign rfl rfl (v := .int .i64 (w64 (k_1 + 1))) rfl ?_
              refine TL.done ?_
              exact TC.next1 ((((gt list_1 k_1) != (gt list_1 i1)), (w64 (k_1 + 1)))) (()) ⟨rfl, rfl, rfl, rfl, rfl, trivial⟩ [] rfl
          · refine TC.wk (Γ' := [(0, SV.v s1), (3, .int .i64 count1), (4, .int .i64 i1), (6, .int .i64 k_1), (13, .int .i64 k_1), (14, .int .i64 i1), (15, .bool (decide (k_1 < i1))), (5, .bool first1)]) ⟨rfl, rfl, rfl, rfl, rfl, rfl, rfl, rfl, trivial⟩ ?_
            refine TC.drawG [(0, SV.v s1), (3, .int .i64 count1), (4, .int .i64 i1), (6, .int .i64 k_1), (13, .int .i64 k_1), (14, .int .i64 i1), (15, .bool (decide (k_1 < i1)))] [(5, .bool first1, 12)] ⟨rfl, rfl, rfl, rfl, rfl, rfl, rfl, trivial⟩ ⟨rfl, trivial⟩ (fun l_ g3 => []) (fun g3 => [.bool false, .bool false, undef, undef, undef, undef, undef, undef, undef, undef, undef, .bool false, .bool false]) [[], [0], [0, 1], [0, 1], [0, 1, 2, 3], [0, 1, 2, 3, 4], [0, 1], [0, 1], [0, 1, 6, 7], [0, 1, 6, 7, 8], [0, 1, 2, 3, 4, 5, 6, 7, 8, 9], [0, 1, 2, 3, 4, 5, 6, 7, 8, 9, 10], [0, 1, 2, 3, 4, 5, 6, 7, 8, 9, 10, 11]] [[some false, some false, some false, some false, some false, some false, some false, some false, some false, some false, some false, some false, some false], [some true, some false, some false, some false, some false, some false, some false, some false, some false, some false, some false, some false, some false], [some true, some true, some false, none, some false, some false, none, none, none, none, some false, some false, some false], [some true, some true, none, some false, some false, some false, none, none, none, none, some false, some false, some false], [some true, some true, some true, some true, some false, some false, none, none, none, none, some false, some false, some false], [some true, some true, some true, some true, some true, some false, none, none, none, none, some false, some false, some false], [some true, some true, none, none, none, none, some false, none, some false, some false, some false, some false, some false], [some true, some true, none, none, none, none, none, some false, some false, some false, some false, some false, some false], [some true, some true, none, none, none, none, some true, some true, some false, some false, some false, some false, some false], [some true, some true, none, none, none, none, some true, some true, some true, some false, some false, some false, some false], [some true, some true, some true, some true, some true, some true, some true, some true, some true, some true, some false, some false, some false], [some true, some true, some true, some true, some true, some true, some true, some true, some true, some true, some true, some false, some false], [some true, some true, some true, some true, some true, some true, some true, some true, some true, some true, some true, some true, some false]] (by kernel_rfl) (fun _ => rfl) rfl rfl rfl rfl rfl (fun _ _ => ⟨⟨⟨⟨⟨⟨⟨⟨⟨⟨⟨⟨⟨trivial, rfl⟩, rfl⟩, rfl⟩, rfl⟩, rfl⟩, rfl⟩, rfl⟩, rfl⟩, rfl⟩, rfl⟩, rfl⟩, rfl⟩, rfl⟩) 0 [] (fun _ => rfl) ?_ ?_
            · refine ⟨rfl, ?_, rfl, ?_, rfl, ?_, rfl, ?_, rfl, ?_, rfl, ?_, rfl, ?_, rfl, ?_, rfl, ?_, rfl, ?_, rfl, ?_, rfl, ?_, rfl, ?_, trivial⟩
              · intro g3
                refine TL.move rfl rfl (v := .bool first1) rfl ?_
                refine TL.done ?_
                exact TC.nrm () [] ⟨(by rw [c5]; rfl), trivial⟩ [] rfl
              · intro g3
                refine TL.move rfl rfl (v := .bool false) rfl ?_
                refine TL.done ?_
                exact TC.nrm () [] ⟨rfl, trivial⟩ [] rfl
              · intro b3_ b6_ b7_ b8_ b9_ g3
                refine TL.skip rfl rfl (by decide) ?_
                refine TL.done ?_
                exact TC.nrm () [] ⟨rfl, trivial⟩ [] rfl
              · intro b2_ b6_ b7_ b8_ b9_ g3
                refine TL.skip rfl rfl (by decide) ?_
                refine TL.done ?_
                exact TC.nrm () [] ⟨rfl, trivial⟩ [] rfl
              · intro b6_ b7_ b8_ b9_ g3
                refine TL.asL [] rfl ?_
                refine TL.skip rfl rfl (by decide) ?_
                refine TL.done ?_
                exact TC.nrm () [] ⟨rfl, trivial⟩ [] rfl
              · intro b6_ b7_ b8_ b9_ g3
                refine TL.asL [] rfl ?_
                refine TL.skip rfl rfl (by decide) ?_
                refine TL.done ?_
                exact TC.nrm () [] ⟨rfl, trivial⟩ [] rfl
              · intro b2_ b3_ b4_ b5_ b7_ g3
                refine TL.skip rfl rfl (by decide) ?_
                refine TL.done ?_
                exact TC.nrm () [] ⟨rfl, trivial⟩ [] rfl
              · intro b2_ b3_ b4_ b5_ b6_ g3
                refine TL.skip rfl rfl (by decide) ?_
                refine TL.done ?_
                exact TC.nrm () [] ⟨rfl, trivial⟩ [] rfl
              · intro b2_ b3_ b4_ b5_ g3
                refine TL.asL [] rfl ?_
                refine TL.skip rfl rfl (by decide) ?_
                refine TL.done ?_
                exact TC.nrm () [] ⟨rfl, trivial⟩ [] rfl
              · intro b2_ b3_ b4_ b5_ g3
                refine TL.asL [] rfl ?_
                refine TL.skip rfl rfl (by decide) ?_
                refine TL.done ?_
                exact TC.nrm () [] ⟨rfl, trivial⟩ [] rfl
              · intro g3
                refine TL.skip rfl rfl (by decide) ?_
                refine TL.done ?_
                exact TC.nrm () [] ⟨rfl, trivial⟩ [] rfl
              · intro g3
                refine TL.pick rfl rfl (b := false) rfl (r := .bool false) rfl ?_
                refine TL.done ?_
                exact TC.nrm () [] ⟨rfl, trivial⟩ [] rfl
              · intro g3
                refine TL.assign rfl rfl (v := .bool false) rfl ?_
                refine TL.done ?_
                exact TC.nrm () [] ⟨rfl, trivial⟩ [] rfl
            · intro g3
              refine TC.asL [] rfl ?_
              refine TC.region ?_
              refine TL.move rfl rfl (v := .int .i64 k_1) rfl ?_
              refine TL.bin .i64 k_1 1 rfl rfl rfl rfl (v := .int .i64 (w64 (k_1 + 1))) rfl ?_
              refine TL.assign rfl rfl (v := .int .i64 (w64 (k_1 + 1))) rfl ?_
              refine TL.done ?_
              exact TC.next1 ((false, (w64 (k_1 + 1)))) (()) ⟨rfl, rfl, rfl, rfl, rfl, trivial⟩ [] rfl
        · exact TC.brk1 ((first1, k_1)) (()) ⟨rfl, rfl, rfl, rfl, rfl, trivial⟩ [] rfl
      · rintro ⟨first1, k_1⟩ _
        refine TC.seq ?_
        refine TC.region ?_
        refine TL.move rfl rfl (v := .bool first1) rfl ?_
        refine TL.done ?_
        refine TC.join1 (σ := Int) (γ := Unit) (Γ' := (fun count2 _ => [(0, SV.v s1), (3, .int .i64 count2), (4, .int .i64 i1)])) (L' := (fun count2 _ => [])) ?_ ?_
        · refine TC.cond (b := first1) rfl (fun c6 => ?_) (fun c7 => ?_)
          · refine TC.region ?_
            refine TL.move rfl rfl (v := .int .i64 count1) rfl ?_
            refine TL.bin .i64 count1 1 rfl rfl rfl rfl (v := .int .i64 (w64 (count1 + 1))) rfl ?_
            refine TL.assign rfl rfl (v := .int .i64 (w64 (count1 + 1))) rfl ?_
            refine TL.done ?_
            exact TC.nrm ((w64 (count1 + 1))) (()) ⟨rfl, rfl, rfl, trivial⟩ [] rfl
          · refine TC.skip ?_
            exact TC.nrm (count1) (()) ⟨rfl, rfl, rfl, trivial⟩ [] rfl
        · rintro count2 _
          refine TC.region ?_
          refine TL.move rfl rfl (v := .int .i64 i1) rfl ?_
          refine TL.bin .i64 i1 1 rfl rfl rfl rfl (v := .int .i64 (w64 (i1 + 1))) rfl ?_
          refine TL.assign rfl rfl (v := .int .i64 (w64 (i1 + 1))) rfl ?_
          refine TL.done ?_
          exact TC.next1 ((count2, (w64 (i1 + 1)))) (()) ⟨rfl, rfl, rfl, trivial⟩ [] rfl
    · exact TC.brk1 ((count1, i1)) (()) ⟨rfl, rfl, rfl, trivial⟩ [] rfl
  · rintro ⟨count1, i1⟩ _
    refine TC.seq ?_
    refine TC.region ?_
    refine TL.move rfl rfl (v := .int .i64 count1) rfl ?_
    refine TL.assign rfl rfl (v := .int .i64 count1) rfl ?_
    refine TL.done ?_
    exact TC.retF (Fin.body (fin1 (.inr rfl) rfl (.tmp rfl) [] rfl ⟨rfl, rfl⟩))

end Go.Proofs.Ytnppkcemnjkboaa.G

/- spec.l07Numbers, as a pure function. -/
set_option linter.unusedVariables false
namespace Go.Proofs.Ytnppkcemnjkboaa.G
open Go Go.Sx Go.Proofs

def spec_l07Numbers.b0 (n_1 : Int) : (List Int) × Int → Option (LB ((List Int) × Int)) := fun p => match p with | (out1, i1) => (bif (decide (i1 < n_1)) then small (out1.length + ([i1] : List Int).length) (some (.next ((out1 ++ ([i1] : List Int)), (w64 (i1 + 1))))) else some (.brk (out1, i1)))

def spec_l07Numbers.f (n_1 : Int) : Option (List Int) := (loop1 (spec_l07Numbers.b0 n_1) (([] : List Int), 0)).bind (fun p => match p with | (out1, i1) => some out1)

def spec_l07Numbers.R (r : List Int) (v : Value) (L : List Asn) : Prop := ∃ (s0 : SV), v = SV.v s0 ∧ L = [row Ei 2 s0 r]

set_option maxRecDepth 100000 in
set_option maxHeartbeats 4000000 in
theorem spec_l07Numbers.calls (w : World) (n_1 : Int) :
    ∀ r, spec_l07Numbers.f n_1 = some r → Calls Try.prog 101 #[.int .i64 n_1] w (Ret w (spec_l07Numbers.R r)) := by

  refine calls_T (n := 16) (Γ := [(0, .int .i64 n_1)]) (R := spec_l07Numbers.R) Try.func101 rfl rfl (Nat.le_of_ble_eq_true rfl) ⟨rfl, trivial⟩ ?_
  unfold spec_l07Numbers.f
  refine TC.seq ?_
  refine TC.region ?_
  refine TL.assign rfl rfl (v := SV.v ⟨none, 0, 0⟩) rfl ?_
  refine TL.done ?_
  refine TC.seq ?_
  refine TC.region ?_
  refine TL.bslice0 Ei Try.underlying53 Try.sizeOf2 rfl rfl fun s1 => ?_
  refine TL.assign rfl rfl (v := SV.v s1) rfl ?_
  refine TL.done ?_
  refine TC.seq ?_
  refine TC.seq ?_
  refine TC.region ?_
  refine TL.assign rfl rfl (v := .int .i64 0) rfl ?_
  refine TL.done ?_
  refine TC.loop1 (σ := (List Int) × Int) (γ := SV) (Γ' := (fun p q => match p, q with | (out1, i1), s2 => [(0, .int .i64 n_1), (3, SV.v s2), (4, .int .i64 i1)])) (L' := (fun p q => match p, q with | (out1, i1), s2 => [row Ei 2 s2 out1])) (Γb := (fun p q => match p, q with | (out1, i1), s2 => [(0, .int .i64 n_1), (3, SV.v s2), (4, .int .i64 i1)])) (Lb := (fun p q => match p, q with | (out1, i1), s2 => [row Ei 2 s2 out1])) ((([] : List Int), 0)) (s1) ⟨rfl, rfl, rfl, trivial⟩ [0] rfl ?_ ?_
  · rintro ⟨out1, i1⟩ s2
    refine TC.seq ?_
    refine TC.seq ?_
    refine TC.region ?_
    refine TL.move rfl rfl (v := .int .i64 i1) rfl ?_
    refine TL.move rfl rfl (v := .int .i64 n_1) rfl ?_
    refine TL.bin .i64 i1 n_1 rfl rfl rfl rfl (v := .bool (decide (i1 < n_1))) rfl ?_
    refine TL.done ?_
    refine TC.cond (b := (decide (i1 < n_1))) rfl (fun c1 => ?_) (fun c2 => ?_)
    · refine TC.skip ?_
      refine TC.seq ?_
      refine TC.block (NoEx.loop1 rfl) ?_
      refine TC.region ?_
      refine TL.move rfl rfl (v := SV.v s2) rfl ?_
      refine TL.move rfl rfl (v := .int .i64 i1) rfl ?_
      refine TL.blit Ei ([i1] : List Int) Try.underlying53 Try.sizeOf2 Try.zeroValue2 rfl rfl rfl [(0, .int .i64 i1)] rfl ⟨rfl, rfl, trivial⟩ rfl rfl fun s3 => ?_
      refine TL.small fun h1 => ?_
      refine TL.append 1 rfl (Rd.row 0 rfl) Try.underlying53 (info_of Try.type2) (zv := (Try.t2.zero.getD (.bool false))) rfl rfl rfl (by decide) h1 rfl rfl rfl rfl fun s4 => ?_
      refine TL.assign rfl rfl (v := SV.v s4) rfl ?_
      refine TL.done ?_
      refine TC.region ?_
      refine TL.move rfl rfl (v := .int .i64 i1) rfl ?_
      refine TL.bin .i64 i1 1 rfl rfl rfl rfl (v := .int .i64 (w64 (i1 + 1))) rfl ?_
      refine TL.assign rfl rfl (v := .int .i64 (w64 (i1 + 1))) rfl ?_
      refine TL.done ?_
      exact TC.next1 (((out1 ++ ([i1] : List Int)), (w64 (i1 + 1)))) (s4) ⟨rfl, rfl, rfl, trivial⟩ [1] rfl
    · exact TC.brk1 ((out1, i1)) (s2) ⟨rfl, rfl, rfl, trivial⟩ [0] rfl
  · rintro ⟨out1, i1⟩ s2
    refine TC.seq ?_
    refine TC.region ?_
    refine TL.move rfl rfl (v := SV.v s2) rfl ?_
    refine TL.assign rfl rfl (v := SV.v s2) rfl ?_
    refine TL.done ?_
    exact TC.retF (Fin.body (fin1 (.inr rfl) rfl (.tmp rfl) [0] rfl ⟨s2, rfl, rfl⟩))

end Go.Proofs.Ytnppkcemnjkboaa.G

/- spec.l07Edge, as a pure function. -/
set_option linter.unusedVariables false
namespace Go.Proofs.Ytnppkcemnjkboaa.G
open Go Go.Sx Go.Proofs

def spec_l07Edge.f (side1 : Int) : Option Int := some (if (w64 (0 - side1)) > side1 then (w64 (0 - side1)) else side1)

def spec_l07Edge.R (r : Int) (v : Value) (L : List Asn) : Prop := v = .int .i64 r ∧ L = []

set_option maxRecDepth 100000 in
set_option maxHeartbeats 4000000 in
theorem spec_l07Edge.calls (w : World) (side1 : Int) :
    ∀ r, spec_l07Edge.f side1 = some r → Calls Try.prog 130 #[.int .i64 side1] w (Ret w (spec_l07Edge.R r)) := by

  refine calls_T (n := 7) (Γ := [(0, .int .i64 side1)]) (R := spec_l07Edge.R) Try.func130 rfl rfl (Nat.le_of_ble_eq_true rfl) ⟨rfl, trivial⟩ ?_
  unfold spec_l07Edge.f
  refine TC.seq ?_
  refine TC.region ?_
  refine TL.assign rfl rfl (v := .int .i64 0) rfl ?_
  refine TL.done ?_
  refine TC.seq ?_
  refine TC.region ?_
  refine TL.move rfl rfl (v := .int .i64 side1) rfl ?_
  refine TL.move rfl rfl (v := .int .i64 side1) rfl ?_
  refine TL.neg .i64 side1 rfl rfl rfl ?_
  refine TL.max2 rfl rfl rfl rfl ?_
  refine TL.assign rfl rfl (v := .int .i64 (if (w64 (0 - side1)) > side1 then (w64 (0 - side1)) else side1)) rfl ?_
  refine TL.done ?_
  exact TC.retF (Fin.body (fin1 (.inr rfl) rfl (.tmp rfl) [] rfl ⟨rfl, rfl⟩))

end Go.Proofs.Ytnppkcemnjkboaa.G
