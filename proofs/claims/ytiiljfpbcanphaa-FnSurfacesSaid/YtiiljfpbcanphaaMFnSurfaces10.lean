/- Functions of the program, as pure functions. -/
import Derived.Test.YtiiljfpbcanphaaMFnSurfaces9
import Derived.Test.YtiiljfpbcanphaaProg
/- laws.toInt64S, as a pure function. -/
set_option linter.unusedVariables false
namespace Go.Proofs.Ytiiljfpbcanphaa.G
open Go Go.Sx Go.Proofs

def laws_toInt64S.b0 (a_1 : List Int) : (List Int) × Int → Option (LB ((List Int) × Int)) := fun p => match p with | (out1, i1) => (bif (decide (i1 < (a_1.length : Int))) then chk i1 a_1.length (chk i1 out1.length (some (.next ((out1.set i1.toNat (gt a_1 i1)), (w64 (i1 + 1)))))) else some (.brk (out1, i1)))

def laws_toInt64S.f (a_1 : List Int) : Option (List Int) := small a_1.length ((loop1 (laws_toInt64S.b0 a_1) ((List.replicate (a_1.length : Int).toNat (0 : Int)), 0)).bind (fun p => match p with | (out1, i1) => some out1))

def laws_toInt64S.R (r : List Int) (v : Value) (L : List Asn) : Prop := ∃ (s0 : SV), v = SV.v s0 ∧ L = [row Ei 2 s0 r]

set_option maxRecDepth 100000 in
set_option maxHeartbeats 4000000 in
theorem laws_toInt64S.calls (w : World) (s1 : SV) (a_1 : List Int) (h1 : Reads Ei (hp w) s1 a_1) :
  ∀ r, laws_toInt64S.f a_1 = some r → Calls Try.prog 13 #[SV.v s1] w (Ret w (laws_toInt64S.R r)) := by

 refine calls_T (n := 22) (Γ := [(0, SV.v s1)]) (R := laws_toInt64S.R) Try.func13 rfl rfl (Nat.le_of_ble_eq_true rfl) ⟨rfl, trivial⟩ ?_
 unfold laws_toInt64S.f
 refine TC.seq ?_
 refine TC.region ?_
 refine TL.assign rfl rfl (v := SV.v ⟨none, 0, 0⟩) rfl ?_
 refine TL.done ?_
 refine TC.seq ?_
 refine TC.region ?_
 refine TL.move rfl rfl (v := SV.v s1) rfl ?_
 refine TL.len (Rd.old h1) Try.underlying22 rfl rfl rfl ?_
 refine TL.small fun h2 => ?_
 refine TL.mkslice Ei (0 : Int) (a_1.length : Int) Try.underlying22 (info_of Try.type2) (zv := (Try.t2.zero.getD (.bool false))) rfl rfl rfl (by simp [Ei, flat, Seg.cells]) (by decide) (by omega) (by omega) rfl rfl rfl rfl fun s2 => ?_
 refine TL.assign rfl rfl (v := SV.v s2) rfl ?_
 refine TL.done ?_
 refine TC.seq ?_
 refine TC.seq ?_
 refine TC.region ?_
 refine TL.assign rfl rfl (v := .int .i64 0) rfl ?_
 refine TL.done ?_
 refine TC.loop1 (σ := (List Int) × Int) (γ := Unit) (Γ' := (fun p q => match p, q with | (out1, i1), _ => [(0, SV.v s1), (3, SV.v s2), (4, .int .i64 i1)])) (L' := (fun p q => match p, q with | (out1, i1), _ => [row Ei 2 s2 out1])) (Γb := (fun p q => match p, q with | (out1, i1), _ => [(0, SV.v s1), (3, SV.v s2), (4, .int .i64 i1)])) (Lb := (fun p q => match p, q with | (out1, i1), _ => [row Ei 2 s2 out1])) (((List.replicate (a_1.length : Int).toNat (0 : Int)), 0)) (()) ⟨rfl, rfl, rfl, trivial⟩ [0] rfl ?_ ?_
 ·rintro ⟨out1, i1⟩ _
  refine TC.seq ?_
  refine TC.seq ?_
  refine TC.region ?_
  refine TL.move rfl rfl (v := .int .i64 i1) rfl ?_
  refine TL.move rfl rfl (v := SV.v s1) rfl ?_
  refine TL.len (Rd.old h1) Try.underlying22 rfl rfl rfl ?_
  refine TL.bin .i64 i1 (a_1.length : Int) rfl rfl rfl rfl (v := .bool (decide (i1 < (a_1.length : Int)))) rfl ?_
  refine TL.done ?_
  refine TC.cond (b := (decide (i1 < (a_1.length : Int)))) rfl (fun c1 => ?_) (fun c2 => ?_)
  ·refine TC.skip ?_
   refine TC.seq ?_
   refine TC.block (NoEx.loop1 rfl) ?_
   refine TC.region ?_
   refine TL.move rfl rfl (v := SV.v s2) rfl ?_
   refine TL.move rfl rfl (v := .int .i64 i1) rfl ?_
   refine TL.move rfl rfl (v := SV.v s1) rfl ?_
   refine TL.move rfl rfl (v := .int .i64 i1) rfl ?_
   refine TL.chk fun h4 => ?_
   refine TL.ixs i1 i1.toNat (Rd.old h1) h4 Try.underlying22 Try.sizeOf2 rfl rfl rfl rfl (by omega) ?_
   refine TL.loadE (Rd.old h1) Try.isAgg2 i1.toNat 0 (gt_spec h4) (v := .int .i64 (gt a_1 i1)) rfl (by simp only [show Ei.sz = 1 from rfl] <;> omega) rfl rfl rfl ?_
   refine TL.chk fun h5 => ?_
   refine TL.ixs i1 i1.toNat (Rd.row 0 rfl) h5 Try.underlying22 Try.sizeOf2 rfl rfl rfl rfl (by omega) ?_
   refine TL.stE 0 (i1.toNat) (gt a_1 i1) (v := .int .i64 (gt a_1 i1)) rfl Try.sizeOf2 rfl rfl rfl (by have h_ := h5; omega) (by simp only [show Ei.sz = 1 from rfl] <;> omega) rfl rfl rfl ?_
   refine TL.done ?_
   refine TC.region ?_
   refine TL.move rfl rfl (v := .int .i64 i1) rfl ?_
   refine TL.bin .i64 i1 1 rfl rfl rfl rfl (v := .int .i64 (w64 (i1 + 1))) rfl ?_
   refine TL.assign rfl rfl (v := .int .i64 (w64 (i1 + 1))) rfl ?_
   refine TL.done ?_
   exact TC.next1 (((out1.set i1.toNat (gt a_1 i1)), (w64 (i1 + 1)))) (()) ⟨rfl, rfl, rfl, trivial⟩ [0] rfl
  ·exact TC.brk1 ((out1, i1)) (()) ⟨rfl, rfl, rfl, trivial⟩ [0] rfl
 ·rintro ⟨out1, i1⟩ _
  refine TC.seq ?_
  refine TC.region ?_
  refine TL.move rfl rfl (v := SV.v s2) rfl ?_
  refine TL.assign rfl rfl (v := SV.v s2) rfl ?_
  refine TL.done ?_
  exact TC.retF (Fin.body (fin1 (.inr rfl) rfl (.tmp rfl) [0] rfl ⟨s2, rfl, rfl⟩))

end Go.Proofs.Ytiiljfpbcanphaa.G

/- laws.szInt64S, as a pure function. -/
set_option linter.unusedVariables false
namespace Go.Proofs.Ytiiljfpbcanphaa.G
open Go Go.Sx Go.Proofs

def laws_szInt64S.f (a_1 : List Int) (left_1 : Int) : Option Int := (bif (decide ((w64 (left_1 - (a_1.length : Int))) < 0)) then some (-1) else some (w64 (left_1 - (a_1.length : Int))))

def laws_szInt64S.R (r : Int) (v : Value) (L : List Asn) : Prop := v = .int .i64 r ∧ L = []

set_option maxRecDepth 100000 in
set_option maxHeartbeats 4000000 in
theorem laws_szInt64S.calls (w : World) (s1 : SV) (a_1 : List Int) (left_1 : Int) (h1 : Reads Ei (hp w) s1 a_1) :
  ∀ r, laws_szInt64S.f a_1 left_1 = some r → Calls Try.prog 99 #[SV.v s1, .int .i64 left_1] w (Ret w (laws_szInt64S.R r)) := by

 refine calls_T (n := 12) (Γ := [(0, SV.v s1), (1, .int .i64 left_1)]) (R := laws_szInt64S.R) Try.func99 rfl rfl (Nat.le_of_ble_eq_true rfl) ⟨rfl, rfl, trivial⟩ ?_
 unfold laws_szInt64S.f
 refine TC.seq ?_
 refine TC.region ?_
 refine TL.assign rfl rfl (v := .int .i64 0) rfl ?_
 refine TL.done ?_
 refine TC.seq ?_
 refine TC.region ?_
 refine TL.move rfl rfl (v := .int .i64 left_1) rfl ?_
 refine TL.move rfl rfl (v := SV.v s1) rfl ?_
 refine TL.len (Rd.old h1) Try.underlying22 rfl rfl rfl ?_
 refine TL.bin .i64 left_1 (a_1.length : Int) rfl rfl rfl rfl (v := .int .i64 (w64 (left_1 - (a_1.length : Int)))) rfl ?_
 refine TL.assign rfl rfl (v := .int .i64 (w64 (left_1 - (a_1.length : Int)))) rfl ?_
 refine TL.done ?_
 refine TC.seq ?_
 refine TC.seq ?_
 refine TC.region ?_
 refine TL.move rfl rfl (v := .int .i64 (w64 (left_1 - (a_1.length : Int)))) rfl ?_
 refine TL.bin .i64 (w64 (left_1 - (a_1.length : Int))) 0 rfl rfl rfl rfl (v := .bool (decide ((w64 (left_1 - (a_1.length : Int))) < 0))) rfl ?_
 refine TL.done ?_
 refine TC.cond (b := (decide ((w64 (left_1 - (a_1.length : Int))) < 0))) rfl (fun c1 => ?_) (fun c2 => ?_)
 ·refine TC.seq ?_
  refine TC.region ?_
  refine TL.assign rfl rfl (v := .int .i64 (-1)) rfl ?_
  refine TL.done ?_
  exact TC.retF (Fin.body (fin1 (.inr rfl) rfl (.tmp rfl) [] rfl ⟨rfl, rfl⟩))
 ·refine TC.skip ?_
  refine TC.seq ?_
  refine TC.region ?_
  refine TL.move rfl rfl (v := .int .i64 (w64 (left_1 - (a_1.length : Int)))) rfl ?_
  refine TL.assign rfl rfl (v := .int .i64 (w64 (left_1 - (a_1.length : Int)))) rfl ?_
  refine TL.done ?_
  exact TC.retF (Fin.body (fin1 (.inr rfl) rfl (.tmp rfl) [] rfl ⟨rfl, rfl⟩))

end Go.Proofs.Ytiiljfpbcanphaa.G

/- laws.toInt64SS, as a pure function. -/
set_option linter.unusedVariables false
namespace Go.Proofs.Ytiiljfpbcanphaa.G
open Go Go.Sx Go.Proofs

def laws_toInt64SS.b0 (a_1 : List (List Int)) : (List (List Int)) × Int → Option (LB ((List (List Int)) × Int)) := fun p => match p with | (out1, i1) => (bif (decide (i1 < (a_1.length : Int))) then chk i1 a_1.length ((G.laws_toInt64S.f (gt a_1 i1)).bind (fun r_1 => chk i1 out1.length (some (.next ((out1.set i1.toNat r_1), (w64 (i1 + 1))))))) else some (.brk (out1, i1)))

def laws_toInt64SS.f (a_1 : List (List Int)) : Option (List (List Int)) := small a_1.length ((loop1 (laws_toInt64SS.b0 a_1) ((List.replicate (a_1.length : Int).toNat ([] : List Int)), 0)).bind (fun p => match p with | (out1, i1) => some out1))

def laws_toInt64SS.R (r : List (List Int)) (v : Value) (L : List Asn) : Prop := ∃ (s0 : SV) (ss0 : List SV), v = SV.v s0 ∧ L = [mat Ei 2 22 s0 ss0 r]

set_option maxRecDepth 100000 in
set_option maxHeartbeats 4000000 in
theorem laws_toInt64SS.calls (w : World) (s1 : SV) (ss1 : List SV) (a_1 : List (List Int)) (h1 : ReadsM Ei (hp w) s1 ss1 a_1) :
  ∀ r, laws_toInt64SS.f a_1 = some r → Calls Try.prog 34 #[SV.v s1] w (Ret w (laws_toInt64SS.R r)) := by

 refine calls_T (n := 23) (Γ := [(0, SV.v s1)]) (R := laws_toInt64SS.R) Try.func34 rfl rfl (Nat.le_of_ble_eq_true rfl) ⟨rfl, trivial⟩ ?_
 unfold laws_toInt64SS.f
 refine TC.seq ?_
 refine TC.region ?_
 refine TL.assign rfl rfl (v := SV.v ⟨none, 0, 0⟩) rfl ?_
 refine TL.done ?_
 refine TC.seq ?_
 refine TC.region ?_
 refine TL.move rfl rfl (v := SV.v s1) rfl ?_
 refine TL.lenM (RdM.old h1) Try.underlying32 rfl rfl rfl ?_
 refine TL.small fun h2 => ?_
 refine TL.mkslice Ev (⟨none, 0, 0⟩ : SV) (a_1.length : Int) Try.underlying32 (info_of Try.type22) (zv := (Try.t22.zero.getD (.bool false))) rfl rfl rfl (by simp [Ev]) (by decide) (by omega) (by omega) rfl rfl rfl rfl fun s2 => ?_
 refine TL.rowsRep Ei 2 ((a_1.length : Int).toNat) ?_
 refine TL.matmk 1 0 rfl rfl ?_
 refine TL.drop 1 rfl ?_
 refine TL.asL [mat Ei 2 22 s2 (List.replicate (a_1.length : Int).toNat (⟨none, 0, 0⟩ : SV)) (List.replicate (a_1.length : Int).toNat ([] : List Int))] rfl ?_
 refine TL.assign rfl rfl (v := SV.v s2) rfl ?_
 refine TL.done ?_
 refine TC.seq ?_
 refine TC.seq ?_
 refine TC.region ?_
 refine TL.assign rfl rfl (v := .int .i64 0) rfl ?_
 refine TL.done ?_
 refine TC.loop1 (σ := (List (List Int)) × Int) (γ := (List SV)) (Γ' := (fun p q => match p, q with | (out1, i1), ss2 => [(0, SV.v s1), (3, SV.v s2), (4, .int .i64 i1)])) (L' := (fun p q => match p, q with | (out1, i1), ss2 => [mat Ei 2 22 s2 ss2 out1])) (Γb := (fun p q => match p, q with | (out1, i1), ss2 => [(0, SV.v s1), (3, SV.v s2), (4, .int .i64 i1)])) (Lb := (fun p q => match p, q with | (out1, i1), ss2 => [mat Ei 2 22 s2 ss2 out1])) (((List.replicate (a_1.length : Int).toNat ([] : List Int)), 0)) ((List.replicate (a_1.length : Int).toNat (⟨none, 0, 0⟩ : SV))) ⟨rfl, rfl, rfl, trivial⟩ [0] rfl ?_ ?_
 ·rintro ⟨out1, i1⟩ ss2
  refine TC.seq ?_
  refine TC.seq ?_
  refine TC.region ?_
  refine TL.move rfl rfl (v := .int .i64 i1) rfl ?_
  refine TL.move rfl rfl (v := SV.v s1) rfl ?_
  refine TL.lenM (RdM.old h1) Try.underlying32 rfl rfl rfl ?_
  refine TL.bin .i64 i1 (a_1.length : Int) rfl rfl rfl rfl (v := .bool (decide (i1 < (a_1.length : Int)))) rfl ?_
  refine TL.done ?_
  refine TC.cond (b := (decide (i1 < (a_1.length : Int)))) rfl (fun c1 => ?_) (fun c2 => ?_)
  ·refine TC.skip ?_
   refine TC.seq ?_
   refine TC.block (NoEx.loop1 rfl) ?_
   refine TC.region ?_
   refine TL.move rfl rfl (v := SV.v s2) rfl ?_
   refine TL.move rfl rfl (v := .int .i64 i1) rfl ?_
   refine TL.move rfl rfl (v := SV.v s1) rfl ?_
   refine TL.move rfl rfl (v := .int .i64 i1) rfl ?_
   refine TL.chk fun h4 => ?_
   refine TL.ixsM i1 i1.toNat (RdM.old h1) h4 Try.underlying32 Try.sizeOf22 rfl rfl rfl rfl (by omega) ?_
   refine TL.loadM2 (RdM.old h1) Try.isAgg22 i1 h4 (by omega) rfl rfl rfl ?_
   refine TL.call (R := G.laws_toInt64S.R) Try.call13 rfl rfl rfl (fun w hS => G.laws_toInt64S.calls w (gt ss1 i1) (gt a_1 i1) ((RdM.inn (RdM.old h1) h4) w hS)) ?_
   rintro r_1 _ _ ⟨s3, rfl, rfl⟩
   refine TL.chk fun h5 => ?_
   refine TL.ixsM i1 i1.toNat (RdM.mat 1 rfl) h5 Try.underlying32 Try.sizeOf22 rfl rfl rfl rfl (by omega) ?_
   refine TL.matlen 1 rfl fun h6 => ?_
   refine TL.matcut 1 rfl ?_
   refine TL.stE 0 (i1.toNat) s3 (v := SV.v s3) rfl Try.sizeOf22 rfl rfl rfl (by have h_ := h5; have l_ := h6; (try simp only [List.length_set] at h_ l_ ⊢); omega) (by simp only [show Ev.sz = 1 from rfl] <;> omega) rfl rfl rfl ?_
   refine TL.hole 2 i1 rfl h5 ?_
   refine TL.rowsPut 1 2 rfl rfl ?_
   refine TL.matmk 0 2 rfl rfl ?_
   refine TL.drop 0 rfl ?_
   refine TL.asL [emp, mat Ei 2 22 s2 (ss2.set i1.toNat s3) (out1.set i1.toNat r_1)] (by kernel_rfl) ?_
   refine TL.done ?_
   refine TC.region ?_
   refine TL.move rfl rfl (v := .int .i64 i1) rfl ?_
   refine TL.bin .i64 i1 1 rfl rfl rfl rfl (v := .int .i64 (w64 (i1 + 1))) rfl ?_
   refine TL.assign rfl rfl (v := .int .i64 (w64 (i1 + 1))) rfl ?_
   refine TL.done ?_
   exact TC.next1 (((out1.set i1.toNat r_1), (w64 (i1 + 1)))) ((ss2.set i1.toNat s3)) ⟨rfl, rfl, rfl, trivial⟩ [1] rfl
  ·exact TC.brk1 ((out1, i1)) (ss2) ⟨rfl, rfl, rfl, trivial⟩ [0] rfl
 ·rintro ⟨out1, i1⟩ ss2
  refine TC.seq ?_
  refine TC.region ?_
  refine TL.move rfl rfl (v := SV.v s2) rfl ?_
  refine TL.assign rfl rfl (v := SV.v s2) rfl ?_
  refine TL.done ?_
  exact TC.retF (Fin.body (fin1 (.inr rfl) rfl (.tmp rfl) [0] rfl ⟨s2, ss2, rfl, rfl⟩))

end Go.Proofs.Ytiiljfpbcanphaa.G

/- laws.szInt64SS, as a pure function. -/
set_option linter.unusedVariables false
namespace Go.Proofs.Ytiiljfpbcanphaa.G
open Go Go.Sx Go.Proofs

def laws_szInt64SS.b0 (a_1 : List (List Int)) : Int × Int → Option (LR (Int × Int) Int) := fun p => match p with | (left_2, i1) => (bif (decide (i1 < (a_1.length : Int))) then chk i1 a_1.length ((G.laws_szInt64S.f (gt a_1 i1) left_2).bind (fun r_1 => (bif (decide (r_1 < 0)) then some (.ret ((-1))) else some (.next (r_1, (w64 (i1 + 1))))))) else some (.brk (left_2, i1)))

def laws_szInt64SS.f (a_1 : List (List Int)) (left_1 : Int) : Option Int := (bif (decide ((w64 (left_1 - (a_1.length : Int))) < 0)) then some (-1) else (loop (laws_szInt64SS.b0 a_1) ((w64 (left_1 - (a_1.length : Int))), 0)).bind (ln (fun p => match p with | (left_2, i1) => some left_2)))

def laws_szInt64SS.R (r : Int) (v : Value) (L : List Asn) : Prop := v = .int .i64 r ∧ L = []

set_option maxRecDepth 100000 in
set_option maxHeartbeats 4000000 in
theorem laws_szInt64SS.calls (w : World) (s1 : SV) (ss1 : List SV) (a_1 : List (List Int)) (left_1 : Int) (h1 : ReadsM Ei (hp w) s1 ss1 a_1) :
  ∀ r, laws_szInt64SS.f a_1 left_1 = some r → Calls Try.prog 32 #[SV.v s1, .int .i64 left_1] w (Ret w (laws_szInt64SS.R r)) := by

 refine calls_T (n := 27) (Γ := [(0, SV.v s1), (1, .int .i64 left_1)]) (R := laws_szInt64SS.R) Try.func32 rfl rfl (Nat.le_of_ble_eq_true rfl) ⟨rfl, rfl, trivial⟩ ?_
 unfold laws_szInt64SS.f
 refine TC.seq ?_
 refine TC.region ?_
 refine TL.assign rfl rfl (v := .int .i64 0) rfl ?_
 refine TL.done ?_
 refine TC.seq ?_
 refine TC.region ?_
 refine TL.move rfl rfl (v := .int .i64 left_1) rfl ?_
 refine TL.move rfl rfl (v := SV.v s1) rfl ?_
 refine TL.lenM (RdM.old h1) Try.underlying32 rfl rfl rfl ?_
 refine TL.bin .i64 left_1 (a_1.length : Int) rfl rfl rfl rfl (v := .int .i64 (w64 (left_1 - (a_1.length : Int)))) rfl ?_
 refine TL.assign rfl rfl (v := .int .i64 (w64 (left_1 - (a_1.length : Int)))) rfl ?_
 refine TL.done ?_
 refine TC.seq ?_
 refine TC.seq ?_
 refine TC.region ?_
 refine TL.move rfl rfl (v := .int .i64 (w64 (left_1 - (a_1.length : Int)))) rfl ?_
 refine TL.bin .i64 (w64 (left_1 - (a_1.length : Int))) 0 rfl rfl rfl rfl (v := .bool (decide ((w64 (left_1 - (a_1.length : Int))) < 0))) rfl ?_
 refine TL.done ?_
 refine TC.cond (b := (decide ((w64 (left_1 - (a_1.length : Int))) < 0))) rfl (fun c1 => ?_) (fun c2 => ?_)
 ·refine TC.seq ?_
  refine TC.region ?_
  refine TL.assign rfl rfl (v := .int .i64 (-1)) rfl ?_
  refine TL.done ?_
  exact TC.retF (Fin.body (fin1 (.inr rfl) rfl (.tmp rfl) [] rfl ⟨rfl, rfl⟩))
 ·refine TC.skip ?_
  refine TC.seq ?_
  refine TC.seq ?_
  refine TC.region ?_
  refine TL.assign rfl rfl (v := .int .i64 0) rfl ?_
  refine TL.done ?_
  refine TC.loopK (σ := Int × Int) (γ := Unit) (Γ' := (fun p q => match p, q with | (left_2, i1), _ => [(0, SV.v s1), (1, .int .i64 left_2), (5, .int .i64 i1)])) (L' := (fun p q => match p, q with | (left_2, i1), _ => [])) (Γb := (fun p q => match p, q with | (left_2, i1), _ => [(0, SV.v s1), (1, .int .i64 left_2), (5, .int .i64 i1)])) (Lb := (fun p q => match p, q with | (left_2, i1), _ => [])) (((w64 (left_1 - (a_1.length : Int))), 0)) (()) ⟨rfl, rfl, rfl, trivial⟩ [] rfl ?_ ?_
  ·rintro ⟨left_2, i1⟩ _
   refine TC.seq ?_
   refine TC.seq ?_
   refine TC.region ?_
   refine TL.move rfl rfl (v := .int .i64 i1) rfl ?_
   refine TL.move rfl rfl (v := SV.v s1) rfl ?_
   refine TL.lenM (RdM.old h1) Try.underlying32 rfl rfl rfl ?_
   refine TL.bin .i64 i1 (a_1.length : Int) rfl rfl rfl rfl (v := .bool (decide (i1 < (a_1.length : Int)))) rfl ?_
   refine TL.done ?_
   refine TC.cond (b := (decide (i1 < (a_1.length : Int)))) rfl (fun c3 => ?_) (fun c4 => ?_)
   ·refine TC.skip ?_
    refine TC.seq ?_
    refine TC.block (NoEx.loop rfl NoEx.body) ?_
    refine TC.seq ?_
    refine TC.region ?_
    refine TL.move rfl rfl (v := SV.v s1) rfl ?_
    refine TL.move rfl rfl (v := .int .i64 i1) rfl ?_
    refine TL.chk fun h2 => ?_
    refine TL.ixsM i1 i1.toNat (RdM.old h1) h2 Try.underlying32 Try.sizeOf22 rfl rfl rfl rfl (by omega) ?_
    refine TL.loadM2 (RdM.old h1) Try.isAgg22 i1 h2 (by omega) rfl rfl rfl ?_
    refine TL.move rfl rfl (v := .int .i64 left_2) rfl ?_
    refine TL.call (R := G.laws_szInt64S.R) Try.call99 rfl rfl rfl (fun w hS => G.laws_szInt64S.calls w (gt ss1 i1) (gt a_1 i1) left_2 ((RdM.inn (RdM.old h1) h2) w hS)) ?_
    rintro r_1 _ _ ⟨rfl, rfl⟩
    refine TL.assign rfl rfl (v := .int .i64 r_1) rfl ?_
    refine TL.done ?_
    refine TC.seq ?_
    refine TC.region ?_
    refine TL.move rfl rfl (v := .int .i64 r_1) rfl ?_
    refine TL.bin .i64 r_1 0 rfl rfl rfl rfl (v := .bool (decide (r_1 < 0))) rfl ?_
    refine TL.done ?_
    refine TC.cond (b := (decide (r_1 < 0))) rfl (fun c5 => ?_) (fun c6 => ?_)
    ·refine TC.seq ?_
     refine TC.region ?_
     refine TL.assign rfl rfl (v := .int .i64 (-1)) rfl ?_
     refine TL.done ?_
     exact TC.retF (Fin.loop Far.ret (Fin.body (fin1 (.inr rfl) rfl (.tmp rfl) [] rfl ⟨rfl, rfl⟩)))
    ·refine TC.skip ?_
     refine TC.region ?_
     refine TL.move rfl rfl (v := .int .i64 i1) rfl ?_
     refine TL.bin .i64 i1 1 rfl rfl rfl rfl (v := .int .i64 (w64 (i1 + 1))) rfl ?_
     refine TL.assign rfl rfl (v := .int .i64 (w64 (i1 + 1))) rfl ?_
     refine TL.done ?_
     exact TC.next ((r_1, (w64 (i1 + 1)))) (()) ⟨rfl, rfl, rfl, trivial⟩ [] rfl
   ·exact TC.brk ((left_2, i1)) (()) ⟨rfl, rfl, rfl, trivial⟩ [] rfl
  ·rintro ⟨left_2, i1⟩ _
   refine TC.seq ?_
   refine TC.region ?_
   refine TL.move rfl rfl (v := .int .i64 left_2) rfl ?_
   refine TL.assign rfl rfl (v := .int .i64 left_2) rfl ?_
   refine TL.done ?_
   exact TC.retF (Fin.body (fin1 (.inr rfl) rfl (.tmp rfl) [] rfl ⟨rfl, rfl⟩))

end Go.Proofs.Ytiiljfpbcanphaa.G
