/- Functions of the program, as pure functions. -/
import Derived.Test.YtiiljfpbcanphaaMCornersOf1
import Derived.Test.YtiiljfpbcanphaaProg
/- laws.eqInt64SS, as a pure function. -/
set_option linter.unusedVariables false
namespace Go.Proofs.Ytiiljfpbcanphaa.G
open Go Go.Sx Go.Proofs

def laws_eqInt64SS.b0 (a_1 : List (List Int)) (b_1 : List (List Int)) : Int → Option (LR Int Bool) := fun i1 => (bif (decide (i1 < (a_1.length : Int))) then chk i1 a_1.length (chk i1 b_1.length ((G.laws_eqInt64S.f (gt a_1 i1) (gt b_1 i1)).bind (fun r_1 => (bif (!r_1) then some (.ret (false)) else some (.next (w64 (i1 + 1))))))) else some (.brk i1))

def laws_eqInt64SS.f (a_1 : List (List Int)) (b_1 : List (List Int)) : Option Bool := (bif ((a_1.length : Int) != (b_1.length : Int)) then some false else (loop (laws_eqInt64SS.b0 a_1 b_1) 0).bind (ln (fun i1 => some true)))

def laws_eqInt64SS.R (r : Bool) (v : Value) (L : List Asn) : Prop := v = .bool r ∧ L = []

set_option maxRecDepth 100000 in
set_option maxHeartbeats 4000000 in
theorem laws_eqInt64SS.calls (w : World) (s1 : SV) (ss1 : List SV) (a_1 : List (List Int)) (s2 : SV) (ss2 : List SV) (b_1 : List (List Int)) (h1 : ReadsM Ei (hp w) s1 ss1 a_1) (h2 : ReadsM Ei (hp w) s2 ss2 b_1) :
    ∀ r, laws_eqInt64SS.f a_1 b_1 = some r → Calls Try.prog 24 #[SV.v s1, SV.v s2] w (Ret w (laws_eqInt64SS.R r)) := by

  refine calls_T (n := 27) (Γ := [(0, SV.v s1), (1, SV.v s2)]) (R := laws_eqInt64SS.R) Try.func24 rfl rfl (Nat.le_of_ble_eq_true rfl) ⟨rfl, rfl, trivial⟩ ?_
  unfold laws_eqInt64SS.f
  refine TC.seq ?_
  refine TC.region ?_
  refine TL.assign rfl rfl (v := .bool false) rfl ?_
  refine TL.done ?_
  refine TC.seq ?_
  refine TC.seq ?_
  refine TC.region ?_
  refine TL.move rfl rfl (v := SV.v s1) rfl ?_
  refine TL.lenM (RdM.old h1) Try.underlying32 rfl rfl rfl ?_
  refine TL.move rfl rfl (v := SV.v s2) rfl ?_
  refine TL.lenM (RdM.old h2) Try.underlying32 rfl rfl rfl ?_
  refine TL.bin .i64 (a_1.length : Int) (b_1.length : Int) rfl rfl rfl rfl (v := .bool ((a_1.length : Int) != (b_1.length : Int))) rfl ?_
  refine TL.done ?_
  refine TC.cond (b := ((a_1.length : Int) != (b_1.length : Int))) rfl (fun c1 => ?_) (fun c2 => ?_)
  · refine TC.seq ?_
    refine TC.region ?_
    refine TL.assign rfl rfl (v := .bool false) rfl ?_
    refine TL.done ?_
    exact TC.retF (Fin.body (fin1 (.inr rfl) rfl (.tmp rfl) [] rfl ⟨rfl, rfl⟩))
  · refine TC.skip ?_
    refine TC.seq ?_
    refine TC.seq ?_
    refine TC.region ?_
    refine TL.assign rfl rfl (v := .int .i64 0) rfl ?_
    refine TL.done ?_
    refine TC.loopK (σ := Int) (γ := Unit) (Γ' := (fun i1 _ => [(0, SV.v s1), (1, SV.v s2), (5, .int .i64 i1)])) (L' := (fun i1 _ => [])) (Γb := (fun i1 _ => [(0, SV.v s1), (1, SV.v s2), (5, .int .i64 i1)])) (Lb := (fun i1 _ => [])) (0) (()) ⟨rfl, rfl, rfl, trivial⟩ [] rfl ?_ ?_
    · rintro i1 _
      refine TC.seq ?_
      refine TC.seq ?_
      refine TC.region ?_
      refine TL.move rfl rfl (v := .int .i64 i1) rfl ?_
      refine TL.move rfl rfl (v := SV.v s1) rfl ?_
      refine TL.lenM (RdM.old h1) Try.underlying32 rfl rfl rfl ?_
      refine TL.bin .i64 i1 (a_1.length : Int) rfl rfl rfl rfl (v := .bool (decide (i1 < (a_1.length : Int)))) rfl ?_
      refine TL.done ?_
      refine TC.cond (b := (decide (i1 < (a_1.length : Int)))) rfl (fun c3 => ?_) (fun c4 => ?_)
      · refine TC.skip ?_
        refine TC.seq ?_
        refine TC.block (NoEx.loop rfl NoEx.body) ?_
        refine TC.seq ?_
        refine TC.wk (Γ' := [(0, SV.v s1), (1, SV.v s2), (5, .int .i64 i1), (11, .int .i64 i1), (12, SV.v s1), (13, .int .i64 (a_1.length : Int)), (14, .bool (decide (i1 < (a_1.length : Int))))]) ⟨rfl, rfl, rfl, rfl, rfl, rfl, rfl, trivial⟩ ?_
        refine TC.chk fun h3 => ?_
        refine TC.chk fun h4 => ?_
        refine TC.bindE fun r_1 hr1 => ?_
        refine TC.draw [SV.v s1, .int .i64 i1, ep s1 i1.toNat, SV.v (gt ss1 i1), SV.v s2, .int .i64 i1, ep s2 i1.toNat, SV.v (gt ss2 i1), .bool r_1, .bool (!r_1)] 10 [] (by kernel_rfl) rfl rfl rfl rfl ?_ ?_
        · refine ⟨?_, ?_, ?_, ?_, ?_, ?_, ?_, ?_, ?_, ?_, trivial⟩
          · refine TL.move rfl rfl (v := SV.v s1) rfl ?_
            refine TL.done ?_
            exact TC.nrm () () ⟨rfl, trivial⟩ [] (by kernel_rfl)
          · refine TL.move rfl rfl (v := .int .i64 i1) rfl ?_
            refine TL.done ?_
            exact TC.nrm () () ⟨rfl, trivial⟩ [] (by kernel_rfl)
          · refine TL.ixsM i1 i1.toNat (RdM.old h1) h3 Try.underlying32 Try.sizeOf22 rfl rfl rfl rfl (by omega) ?_
            refine TL.done ?_
            exact TC.nrm () () ⟨rfl, trivial⟩ [] (by kernel_rfl)
          · refine TL.loadM2 (RdM.old h1) Try.isAgg22 i1 h3 (by omega) rfl rfl rfl ?_
            refine TL.done ?_
            exact TC.nrm () () ⟨rfl, trivial⟩ [] (by kernel_rfl)
          · refine TL.move rfl rfl (v := SV.v s2) rfl ?_
            refine TL.done ?_
            exact TC.nrm () () ⟨rfl, trivial⟩ [] (by kernel_rfl)
          · refine TL.move rfl rfl (v := .int .i64 i1) rfl ?_
            refine TL.done ?_
            exact TC.nrm () () ⟨rfl, trivial⟩ [] (by kernel_rfl)
          · refine TL.ixsM i1 i1.toNat (RdM.old h2) h4 Try.underlying32 Try.sizeOf22 rfl rfl rfl rfl (by omega) ?_
            refine TL.done ?_
            exact TC.nrm () () ⟨rfl, trivial⟩ [] (by kernel_rfl)
          · refine TL.loadM2 (RdM.old h2) Try.isAgg22 i1 h4 (by omega) rfl rfl rfl ?_
            refine TL.done ?_
            exact TC.nrm () () ⟨rfl, trivial⟩ [] (by kernel_rfl)
          · refine TL.callH (R := G.laws_eqInt64S.R) hr1 Try.call15 rfl rfl rfl (fun w hS => G.laws_eqInt64S.calls w (gt ss1 i1) (gt a_1 i1) (gt ss2 i1) (gt b_1 i1) ((RdM.inn (RdM.old h1) h3) w hS) ((RdM.inn (RdM.old h2) h4) w hS)) ?_
            rintro _ _ ⟨rfl, rfl⟩
            refine TL.done ?_
            exact TC.nrm () () ⟨rfl, trivial⟩ [] (by kernel_rfl)
          · refine TL.not r_1 rfl rfl rfl ?_
            refine TL.done ?_
            exact TC.nrm () () ⟨rfl, trivial⟩ [] (by kernel_rfl)
        · refine TC.cond (b := (!r_1)) rfl (fun c5 => ?_) (fun c6 => ?_)
          · refine TC.seq ?_
            refine TC.region ?_
            refine TL.assign rfl rfl (v := .bool false) rfl ?_
            refine TL.done ?_
            exact TC.retF (Fin.loop Far.ret (Fin.body (fin1 (.inr rfl) rfl (.tmp rfl) [] rfl ⟨rfl, rfl⟩)))
          · refine TC.skip ?_
            refine TC.region ?_
            refine TL.move rfl rfl (v := .int .i64 i1) rfl ?_
            refine TL.bin .i64 i1 1 rfl rfl rfl rfl (v := .int .i64 (w64 (i1 + 1))) rfl ?_
            refine TL.assign rfl rfl (v := .int .i64 (w64 (i1 + 1))) rfl ?_
            refine TL.done ?_
            exact TC.next ((w64 (i1 + 1))) (()) ⟨rfl, rfl, rfl, trivial⟩ [] rfl
      · exact TC.brk (i1) (()) ⟨rfl, rfl, rfl, trivial⟩ [] rfl
    · rintro i1 _
      refine TC.seq ?_
      refine TC.region ?_
      refine TL.assign rfl rfl (v := .bool true) rfl ?_
      refine TL.done ?_
      exact TC.retF (Fin.body (fin1 (.inr rfl) rfl (.tmp rfl) [] rfl ⟨rfl, rfl⟩))

end Go.Proofs.Ytiiljfpbcanphaa.G

/- laws.markInt64SS, as a pure function. -/
set_option linter.unusedVariables false
namespace Go.Proofs.Ytiiljfpbcanphaa.G
open Go Go.Sx Go.Proofs

def laws_markInt64SS.b0 : (List (List Int)) × Int × Int → Option (LB ((List (List Int)) × Int × Int)) := fun p => match p with | (a_2, k_2, i1) => (bif (decide (i1 < (a_2.length : Int))) then chk i1 a_2.length ((G.laws_markInt64S.f (gt a_2 i1) k_2).bind (fun p => match p with | (r_1, l1) => some (.next ((a_2.set i1.toNat l1), r_1, (w64 (i1 + 1)))))) else some (.brk (a_2, k_2, i1)))

def laws_markInt64SS.f (a_1 : List (List Int)) (k_1 : Int) : Option (Int × (List (List Int))) := (loop1 (laws_markInt64SS.b0) (a_1, k_1, 0)).bind (fun p => match p with | (a_2, k_2, i1) => some (k_2, a_2))

def laws_markInt64SS.R (s1 : SV) (r : Int × (List (List Int))) (v : Value) (L : List Asn) : Prop := ∃ (ss0 : List SV), v = .int .i64 r.1 ∧ L = [mat Ei 2 22 s1 ss0 r.2]

set_option maxRecDepth 100000 in
set_option maxHeartbeats 4000000 in
theorem laws_markInt64SS.calls (w0 : World) (I : Hp) (w : World) (s1 : SV) (ss1 : List SV) (a_1 : List (List Int)) (k_1 : Int) (hS : St w0 I [mat Ei 2 22 s1 ss1 a_1] w) :
    ∀ r, laws_markInt64SS.f a_1 k_1 = some r → Calls Try.prog 25 #[SV.v s1, .int .i64 k_1] w (RetM w0 I ((laws_markInt64SS.R s1) r)) := by

  refine calls_TM (w0 := w0) (I := I) (L := [mat Ei 2 22 s1 ss1 a_1]) (n := 19) (Γ := [(0, SV.v s1), (1, .int .i64 k_1)]) (R := (laws_markInt64SS.R s1)) Try.func25 rfl rfl (Nat.le_of_ble_eq_true rfl) ⟨rfl, rfl, trivial⟩ ?_ w hS
  unfold laws_markInt64SS.f
  refine TC.seq ?_
  refine TC.region ?_
  refine TL.assign rfl rfl (v := .int .i64 0) rfl ?_
  refine TL.done ?_
  refine TC.seq ?_
  refine TC.seq ?_
  refine TC.region ?_
  refine TL.assign rfl rfl (v := .int .i64 0) rfl ?_
  refine TL.done ?_
  refine TC.loop1 (σ := (List (List Int)) × Int × Int) (γ := Unit) (Γ' := (fun p q => match p, q with | (a_2, k_2, i1), _ => [(0, SV.v s1), (1, .int .i64 k_2), (5, .int .i64 i1)])) (L' := (fun p q => match p, q with | (a_2, k_2, i1), _ => [mat Ei 2 22 s1 ss1 a_2])) (Γb := (fun p q => match p, q with | (a_2, k_2, i1), _ => [(0, SV.v s1), (1, .int .i64 k_2), (5, .int .i64 i1)])) (Lb := (fun p q => match p, q with | (a_2, k_2, i1), _ => [mat Ei 2 22 s1 ss1 a_2])) ((a_1, k_1, 0)) (()) ⟨rfl, rfl, rfl, trivial⟩ [0] rfl ?_ ?_
  · rintro ⟨a_2, k_2, i1⟩ _
    refine TC.seq ?_
    refine TC.seq ?_
    refine TC.region ?_
    refine TL.move rfl rfl (v := .int .i64 i1) rfl ?_
    refine TL.move rfl rfl (v := SV.v s1) rfl ?_
    refine TL.lenM (RdM.mat 0 rfl) Try.underlying32 rfl rfl rfl ?_
    refine TL.bin .i64 i1 (a_2.length : Int) rfl rfl rfl rfl (v := .bool (decide (i1 < (a_2.length : Int)))) rfl ?_
    refine TL.done ?_
    refine TC.cond (b := (decide (i1 < (a_2.length : Int)))) rfl (fun c1 => ?_) (fun c2 => ?_)
    · refine TC.skip ?_
      refine TC.seq ?_
      refine TC.block (NoEx.loop1 rfl) ?_
      refine TC.region ?_
      refine TL.move rfl rfl (v := SV.v s1) rfl ?_
      refine TL.move rfl rfl (v := .int .i64 i1) rfl ?_
      refine TL.chk fun h1 => ?_
      refine TL.ixsM i1 i1.toNat (RdM.mat 0 rfl) h1 Try.underlying32 Try.sizeOf22 rfl rfl rfl rfl (by omega) ?_
      refine TL.loadM2 (RdM.mat 0 rfl) Try.isAgg22 i1 h1 (by omega) rfl rfl rfl ?_
      refine TL.move rfl rfl (v := .int .i64 k_2) rfl ?_
      refine TL.matopen 0 i1 rfl h1 ?_
      refine TL.callX (R := G.laws_markInt64S.R (gt ss1 i1)) [0, 0] [row Ei 2 (gt ss1 i1) (gt a_2 i1)] [matX Ei 2 22 i1.toNat s1 ss1 a_2] rfl Try.call18 rfl rfl rfl (fun w I_ hle hB hS => G.laws_markInt64S.calls _ I_ w (gt ss1 i1) (gt a_2 i1) k_2 hS) ?_
      rintro ⟨r_1, l1⟩ _ _ ⟨rfl, rfl⟩
      refine TL.matXlen 1 rfl fun h2 => ?_
      refine TL.matclose 0 1 rfl rfl (gt_spec (by have h_ := h1; have l_ := h2; (try simp only [List.length_set] at h_ l_); omega)) ?_
      refine TL.drop 0 rfl ?_
      refine TL.asL [mat Ei 2 22 s1 ss1 (a_2.set i1.toNat l1)] (by kernel_rfl) ?_
      refine TL.assign rfl rfl (v := .int .i64 r_1) rfl ?_
      refine TL.done ?_
      refine TC.region ?_
      refine TL.move rfl rfl (v := .int .i64 i1) rfl ?_
      refine TL.bin .i64 i1 1 rfl rfl rfl rfl (v := .int .i64 (w64 (i1 + 1))) rfl ?_
      refine TL.assign rfl rfl (v := .int .i64 (w64 (i1 + 1))) rfl ?_
      refine TL.done ?_
      exact TC.next1 (((a_2.set i1.toNat l1), r_1, (w64 (i1 + 1)))) (()) ⟨rfl, rfl, rfl, trivial⟩ [0] rfl
    · exact TC.brk1 ((a_2, k_2, i1)) (()) ⟨rfl, rfl, rfl, trivial⟩ [0] rfl
  · rintro ⟨a_2, k_2, i1⟩ _
    refine TC.seq ?_
    refine TC.region ?_
    refine TL.move rfl rfl (v := .int .i64 k_2) rfl ?_
    refine TL.assign rfl rfl (v := .int .i64 k_2) rfl ?_
    refine TL.done ?_
    exact TC.retF (Fin.body (fin1 (.inr rfl) rfl (.tmp rfl) [0] rfl ⟨ss1, rfl, rfl⟩))

end Go.Proofs.Ytiiljfpbcanphaa.G

/- laws.heldInt64S, as a pure function. -/
set_option linter.unusedVariables false
namespace Go.Proofs.Ytiiljfpbcanphaa.G
open Go Go.Sx Go.Proofs

def laws_heldInt64S.b0 (a_1 : List Int) : Int × Int → Option (LR (Int × Int) Int) := fun p => match p with | (k_2, i1) => (bif (decide (i1 < (a_1.length : Int))) then chk i1 a_1.length ((bif ((gt a_1 i1) != k_2) then some (.ret ((-1))) else some (.next ((w64 (k_2 + 1)), (w64 (i1 + 1)))))) else some (.brk (k_2, i1)))

def laws_heldInt64S.f (a_1 : List Int) (k_1 : Int) : Option Int := (loop (laws_heldInt64S.b0 a_1) (k_1, 0)).bind (ln (fun p => match p with | (k_2, i1) => some k_2))

def laws_heldInt64S.R (r : Int) (v : Value) (L : List Asn) : Prop := v = .int .i64 r ∧ L = []

set_option maxRecDepth 100000 in
set_option maxHeartbeats 4000000 in
theorem laws_heldInt64S.calls (w : World) (s1 : SV) (a_1 : List Int) (k_1 : Int) (h1 : Reads Ei (hp w) s1 a_1) :
    ∀ r, laws_heldInt64S.f a_1 k_1 = some r → Calls Try.prog 19 #[SV.v s1, .int .i64 k_1] w (Ret w (laws_heldInt64S.R r)) := by

  refine calls_T (n := 21) (Γ := [(0, SV.v s1), (1, .int .i64 k_1)]) (R := laws_heldInt64S.R) Try.func19 rfl rfl (Nat.le_of_ble_eq_true rfl) ⟨rfl, rfl, trivial⟩ ?_
  unfold laws_heldInt64S.f
  refine TC.seq ?_
  refine TC.region ?_
  refine TL.assign rfl rfl (v := .int .i64 0) rfl ?_
  refine TL.done ?_
  refine TC.seq ?_
  refine TC.seq ?_
  refine TC.region ?_
  refine TL.assign rfl rfl (v := .int .i64 0) rfl ?_
  refine TL.done ?_
  refine TC.loopK (σ := Int × Int) (γ := Unit) (Γ' := (fun p q => match p, q with | (k_2, i1), _ => [(0, SV.v s1), (1, .int .i64 k_2), (5, .int .i64 i1)])) (L' := (fun p q => match p, q with | (k_2, i1), _ => [])) (Γb := (fun p q => match p, q with | (k_2, i1), _ => [(0, SV.v s1), (1, .int .i64 k_2), (5, .int .i64 i1)])) (Lb := (fun p q => match p, q with | (k_2, i1), _ => [])) ((k_1, 0)) (()) ⟨rfl, rfl, rfl, trivial⟩ [] rfl ?_ ?_
  · rintro ⟨k_2, i1⟩ _
    refine TC.seq ?_
    refine TC.seq ?_
    refine TC.region ?_
    refine TL.move rfl rfl (v := .int .i64 i1) rfl ?_
    refine TL.move rfl rfl (v := SV.v s1) rfl ?_
    refine TL.len (Rd.old h1) Try.underlying22 rfl rfl rfl ?_
    refine TL.bin .i64 i1 (a_1.length : Int) rfl rfl rfl rfl (v := .bool (decide (i1 < (a_1.length : Int)))) rfl ?_
    refine TL.done ?_
    refine TC.cond (b := (decide (i1 < (a_1.length : Int)))) rfl (fun c1 => ?_) (fun c2 => ?_)
    · refine TC.skip ?_
      refine TC.seq ?_
      refine TC.block (NoEx.loop rfl NoEx.body) ?_
      refine TC.seq ?_
      refine TC.seq ?_
      refine TC.region ?_
      refine TL.move rfl rfl (v := SV.v s1) rfl ?_
      refine TL.move rfl rfl (v := .int .i64 i1) rfl ?_
      refine TL.chk fun h2 => ?_
      refine TL.ixs i1 i1.toNat (Rd.old h1) h2 Try.underlying22 Try.sizeOf2 rfl rfl rfl rfl (by omega) ?_
      refine TL.loadE (Rd.old h1) Try.isAgg2 i1.toNat 0 (gt_spec h2) (v := .int .i64 (gt a_1 i1)) rfl (by simp only [show Ei.sz = 1 from rfl] <;> omega) rfl rfl rfl ?_
      refine TL.move rfl rfl (v := .int .i64 k_2) rfl ?_
      refine TL.bin .i64 (gt a_1 i1) k_2 rfl rfl rfl rfl (v := .bool ((gt a_1 i1) != k_2)) rfl ?_
      refine TL.done ?_
      refine TC.cond (b := ((gt a_1 i1) != k_2)) rfl (fun c3 => ?_) (fun c4 => ?_)
      · refine TC.seq ?_
        refine TC.region ?_
        refine TL.assign rfl rfl (v := .int .i64 (-1)) rfl ?_
        refine TL.done ?_
        exact TC.retF (Fin.loop Far.ret (Fin.body (fin1 (.inr rfl) rfl (.tmp rfl) [] rfl ⟨rfl, rfl⟩)))
      · refine TC.skip ?_
        refine TC.region ?_
        refine TL.move rfl rfl (v := .int .i64 k_2) rfl ?_
        refine TL.bin .i64 k_2 1 rfl rfl rfl rfl (v := .int .i64 (w64 (k_2 + 1))) rfl ?_
        refine TL.assign rfl rfl (v := .int .i64 (w64 (k_2 + 1))) rfl ?_
        refine TL.done ?_
        refine TC.region ?_
        refine TL.move rfl rfl (v := .int .i64 i1) rfl ?_
        refine TL.bin .i64 i1 1 rfl rfl rfl rfl (v := .int .i64 (w64 (i1 + 1))) rfl ?_
        refine TL.assign rfl rfl (v := .int .i64 (w64 (i1 + 1))) rfl ?_
        refine TL.done ?_
        exact TC.next (((w64 (k_2 + 1)), (w64 (i1 + 1)))) (()) ⟨rfl, rfl, rfl, trivial⟩ [] rfl
    · exact TC.brk ((k_2, i1)) (()) ⟨rfl, rfl, rfl, trivial⟩ [] rfl
  · rintro ⟨k_2, i1⟩ _
    refine TC.seq ?_
    refine TC.region ?_
    refine TL.move rfl rfl (v := .int .i64 k_2) rfl ?_
    refine TL.assign rfl rfl (v := .int .i64 k_2) rfl ?_
    refine TL.done ?_
    exact TC.retF (Fin.body (fin1 (.inr rfl) rfl (.tmp rfl) [] rfl ⟨rfl, rfl⟩))

end Go.Proofs.Ytiiljfpbcanphaa.G

/- laws.heldInt64SS, as a pure function. -/
set_option linter.unusedVariables false
namespace Go.Proofs.Ytiiljfpbcanphaa.G
open Go Go.Sx Go.Proofs

def laws_heldInt64SS.b0 (a_1 : List (List Int)) : Int × Int → Option (LR (Int × Int) Int) := fun p => match p with | (k_2, i1) => (bif (decide (i1 < (a_1.length : Int))) then chk i1 a_1.length ((G.laws_heldInt64S.f (gt a_1 i1) k_2).bind (fun r_1 => (bif (decide (r_1 < 0)) then some (.ret ((-1))) else some (.next (r_1, (w64 (i1 + 1))))))) else some (.brk (k_2, i1)))

def laws_heldInt64SS.f (a_1 : List (List Int)) (k_1 : Int) : Option Int := (loop (laws_heldInt64SS.b0 a_1) (k_1, 0)).bind (ln (fun p => match p with | (k_2, i1) => some k_2))

def laws_heldInt64SS.R (r : Int) (v : Value) (L : List Asn) : Prop := v = .int .i64 r ∧ L = []

set_option maxRecDepth 100000 in
set_option maxHeartbeats 4000000 in
theorem laws_heldInt64SS.calls (w : World) (s1 : SV) (ss1 : List SV) (a_1 : List (List Int)) (k_1 : Int) (h1 : ReadsM Ei (hp w) s1 ss1 a_1) :
    ∀ r, laws_heldInt64SS.f a_1 k_1 = some r → Calls Try.prog 26 #[SV.v s1, .int .i64 k_1] w (Ret w (laws_heldInt64SS.R r)) := by

  refine calls_T (n := 21) (Γ := [(0, SV.v s1), (1, .int .i64 k_1)]) (R := laws_heldInt64SS.R) Try.func26 rfl rfl (Nat.le_of_ble_eq_true rfl) ⟨rfl, rfl, trivial⟩ ?_
  unfold laws_heldInt64SS.f
  refine TC.seq ?_
  refine TC.region ?_
  refine TL.assign rfl rfl (v := .int .i64 0) rfl ?_
  refine TL.done ?_
  refine TC.seq ?_
  refine TC.seq ?_
  refine TC.region ?_
  refine TL.assign rfl rfl (v := .int .i64 0) rfl ?_
  refine TL.done ?_
  refine TC.loopK (σ := Int × Int) (γ := Unit) (Γ' := (fun p q => match p, q with | (k_2, i1), _ => [(0, SV.v s1), (1, .int .i64 k_2), (5, .int .i64 i1)])) (L' := (fun p q => match p, q with | (k_2, i1), _ => [])) (Γb := (fun p q => match p, q with | (k_2, i1), _ => [(0, SV.v s1), (1, .int .i64 k_2), (5, .int .i64 i1)])) (Lb := (fun p q => match p, q with | (k_2, i1), _ => [])) ((k_1, 0)) (()) ⟨rfl, rfl, rfl, trivial⟩ [] rfl ?_ ?_
  · rintro ⟨k_2, i1⟩ _
    refine TC.seq ?_
    refine TC.seq ?_
    refine TC.region ?_
    refine TL.move rfl rfl (v := .int .i64 i1) rfl ?_
    refine TL.move rfl rfl (v := SV.v s1) rfl ?_
    refine TL.lenM (RdM.old h1) Try.underlying32 rfl rfl rfl ?_
    refine TL.bin .i64 i1 (a_1.length : Int) rfl rfl rfl rfl (v := .bool (decide (i1 < (a_1.length : Int)))) rfl ?_
    refine TL.done ?_
    refine TC.cond (b := (decide (i1 < (a_1.length : Int)))) rfl (fun c1 => ?_) (fun c2 => ?_)
    · refine TC.skip ?_
      refine TC.seq ?_
      refine TC.block (NoEx.loop rfl NoEx.body) ?_
      refine TC.seq ?_
      refine TC.region ?_
      refine TL.move rfl rfl (v := SV.v s1) rfl ?_
      refine TL.move rfl rfl (v := .int .i64 i1) rfl ?_
      refine TL.chk fun h2 => ?_
      refine TL.ixsM i1 i1.toNat (RdM.old h1) h2 Try.underlying32 Try.sizeOf22 rfl rfl rfl rfl (by omega) ?_
      refine TL.loadM2 (RdM.old h1) Try.isAgg22 i1 h2 (by omega) rfl rfl rfl ?_
      refine TL.move rfl rfl (v := .int .i64 k_2) rfl ?_
      refine TL.call (R := G.laws_heldInt64S.R) Try.call19 rfl rfl rfl (fun w hS => G.laws_heldInt64S.calls w (gt ss1 i1) (gt a_1 i1) k_2 ((RdM.inn (RdM.old h1) h2) w hS)) ?_
      rintro r_1 _ _ ⟨rfl, rfl⟩
      refine TL.assign rfl rfl (v := .int .i64 r_1) rfl ?_
      refine TL.done ?_
      refine TC.seq ?_
      refine TC.region ?_
      refine TL.move rfl rfl (v := .int .i64 r_1) rfl ?_
      refine TL.bin .i64 r_1 0 rfl rfl rfl rfl (v := .bool (decide (r_1 < 0))) rfl ?_
      refine TL.done ?_
      refine TC.cond (b := (decide (r_1 < 0))) rfl (fun c3 => ?_) (fun c4 => ?_)
      · refine TC.seq ?_
        refine TC.region ?_
        refine TL.assign rfl rfl (v := .int .i64 (-1)) rfl ?_
        refine TL.done ?_
        exact TC.retF (Fin.loop Far.ret (Fin.body (fin1 (.inr rfl) rfl (.tmp rfl) [] rfl ⟨rfl, rfl⟩)))
      · refine TC.skip ?_
        refine TC.region ?_
        refine TL.move rfl rfl (v := .int .i64 i1) rfl ?_
        refine TL.bin .i64 i1 1 rfl rfl rfl rfl (v := .int .i64 (w64 (i1 + 1))) rfl ?_
        refine TL.assign rfl rfl (v := .int .i64 (w64 (i1 + 1))) rfl ?_
        refine TL.done ?_
        exact TC.next ((r_1, (w64 (i1 + 1)))) (()) ⟨rfl, rfl, rfl, trivial⟩ [] rfl
    · exact TC.brk ((k_2, i1)) (()) ⟨rfl, rfl, rfl, trivial⟩ [] rfl
  · rintro ⟨k_2, i1⟩ _
    refine TC.seq ?_
    refine TC.region ?_
    refine TL.move rfl rfl (v := .int .i64 k_2) rfl ?_
    refine TL.assign rfl rfl (v := .int .i64 k_2) rfl ?_
    refine TL.done ?_
    exact TC.retF (Fin.body (fin1 (.inr rfl) rfl (.tmp rfl) [] rfl ⟨rfl, rfl⟩))

end Go.Proofs.Ytiiljfpbcanphaa.G

/- laws.FnExactCornersOf, as a pure function. -/
set_option linter.unusedVariables false
namespace Go.Proofs.Ytiiljfpbcanphaa.G
open Go Go.Sx Go.Proofs

def laws_FnExactCornersOf.f (x1 : List Int) : Option Bool := (bif (decide ((x1.length : Int) > 1048576)) then some true else (G.laws_toInt64S.f x1).bind (fun r_1 => (G.spec_CornersOf.f r_1).bind (fun p => match p with | (r_2, r_3) => (G.laws_toInt64S.f x1).bind (fun r_4 => (G.impl_CornersOf.f r_4).bind (fun p => match p with | (r_5, r_6) => (G.laws_eqInt64SS.f r_5 r_2).bind (fun r_7 => (bif ((!r_7) || (r_6 != r_3)) then some false else (G.laws_toInt64S.f x1).bind (fun r_8 => (G.laws_eqInt64S.f r_4 r_8).bind (fun r_9 => (bif (!r_9) then some false else (G.laws_markInt64S.f r_4 1).bind (fun p => match p with | (r_10, l1) => (bif (decide (r_10 < 0)) then some true else (G.laws_eqInt64SS.f r_5 r_2).bind (fun r_11 => some (!r_11))).bind (fun b_1 => (bif (b_1 || (r_6 != r_3)) then some false else (G.laws_markInt64SS.f r_5 1).bind (fun p => match p with | (r_12, l2) => (G.laws_heldInt64SS.f l2 1).bind (fun r_13 => (bif (decide (r_13 < 0)) then some false else (bif (r_13 != r_12) then some false else (G.laws_toInt64S.f x1).bind (fun r_14 => (G.impl_CornersOf.f r_14).bind (fun p => match p with | (r_15, r_16) => (G.laws_eqInt64SS.f r_15 r_2).bind (fun r_17 => (bif ((!r_17) || (r_16 != r_3)) then some false else (G.laws_heldInt64SS.f l2 1).bind (fun r_18 => (bif (decide (r_18 < 0)) then some false else (bif (r_18 != r_12) then some false else some true))))))))))))))))))))))))

def laws_FnExactCornersOf.R (r : Bool) (v : Value) (L : List Asn) : Prop := v = .bool r ∧ L = []

set_option maxRecDepth 100000 in
set_option maxHeartbeats 4000000 in
theorem laws_FnExactCornersOf.calls (w : World) (s1 : SV) (x1 : List Int) (h1 : Reads Ei (hp w) s1 x1) :
    ∀ r, laws_FnExactCornersOf.f x1 = some r → Calls Try.prog 6 #[SV.v s1] w (Ret w (laws_FnExactCornersOf.R r)) := by

  refine calls_T (n := 93) (Γ := [(0, SV.v s1)]) (R := laws_FnExactCornersOf.R) Try.func6 rfl rfl (Nat.le_of_ble_eq_true rfl) ⟨rfl, trivial⟩ ?_
  unfold laws_FnExactCornersOf.f
  refine TC.seq ?_
  refine TC.region ?_
  refine TL.assign rfl rfl (v := .bool false) rfl ?_
  refine TL.done ?_
  refine TC.seq ?_
  refine TC.seq ?_
  refine TC.region ?_
  refine TL.move rfl rfl (v := SV.v s1) rfl ?_
  refine TL.len (Rd.old h1) Try.underlying22 rfl rfl rfl ?_
  refine TL.bin .i64 (x1.length : Int) 1048576 rfl rfl rfl rfl (v := .bool (decide ((x1.length : Int) > 1048576))) rfl ?_
  refine TL.done ?_
  refine TC.cond (b := (decide ((x1.length : Int) > 1048576))) rfl (fun c1 => ?_) (fun c2 => ?_)
  · refine TC.seq ?_
    refine TC.region ?_
    refine TL.assign rfl rfl (v := .bool true) rfl ?_
    refine TL.done ?_
    exact TC.retF (Fin.body (fin1 (.inr rfl) rfl (.tmp rfl) [] rfl ⟨rfl, rfl⟩))
  · refine TC.skip ?_
    refine TC.seq ?_
    refine TC.region ?_
    refine TL.move rfl rfl (v := SV.v s1) rfl ?_
    refine TL.call (R := G.laws_toInt64S.R) Try.call13 rfl rfl rfl (fun w hS => G.laws_toInt64S.calls w s1 x1 ((Rd.old h1) w hS)) ?_
    rintro r_1 _ _ ⟨s2, rfl, rfl⟩
    refine TL.call (R := G.spec_CornersOf.R) Try.call22 rfl rfl rfl (fun w hS => G.spec_CornersOf.calls w s2 r_1 ((Rd.row 0 rfl) w hS)) ?_
    rintro ⟨r_2, r_3⟩ _ _ ⟨s3, ss1, rfl, rfl⟩
    refine TL.move rfl rfl (v := .tuple #[SV.v s3, .int .i64 r_3]) rfl ?_
    refine TL.extract rfl rfl rfl (v := SV.v s3) rfl ?_
    refine TL.extract rfl rfl rfl (v := .int .i64 r_3) rfl ?_
    refine TL.assign rfl rfl (v := SV.v s3) rfl ?_
    refine TL.assign rfl rfl (v := .int .i64 r_3) rfl ?_
    refine TL.done ?_
    refine TC.seq ?_
    refine TC.region ?_
    refine TL.move rfl rfl (v := SV.v s1) rfl ?_
    refine TL.call (R := G.laws_toInt64S.R) Try.call13 rfl rfl rfl (fun w hS => G.laws_toInt64S.calls w s1 x1 ((Rd.old h1) w hS)) ?_
    rintro r_4 _ _ ⟨s4, rfl, rfl⟩
    refine TL.assign rfl rfl (v := SV.v s4) rfl ?_
    refine TL.done ?_
    refine TC.seq ?_
    refine TC.region ?_
    refine TL.move rfl rfl (v := SV.v s4) rfl ?_
    refine TL.call (R := G.impl_CornersOf.R) Try.call23 rfl rfl rfl (fun w hS => G.impl_CornersOf.calls w s4 r_4 ((Rd.row 0 rfl) w hS)) ?_
    rintro ⟨r_5, r_6⟩ _ _ ⟨s5, ss2, rfl, rfl⟩
    refine TL.move rfl rfl (v := .tuple #[SV.v s5, .int .i64 r_6]) rfl ?_
    refine TL.extract rfl rfl rfl (v := SV.v s5) rfl ?_
    refine TL.extract rfl rfl rfl (v := .int .i64 r_6) rfl ?_
    refine TL.assign rfl rfl (v := SV.v s5) rfl ?_
    refine TL.assign rfl rfl (v := .int .i64 r_6) rfl ?_
    refine TL.done ?_
    refine TC.seq ?_
    refine TC.seq ?_
    refine TC.region ?_
    refine TL.move rfl rfl (v := SV.v s5) rfl ?_
    refine TL.move rfl rfl (v := SV.v s3) rfl ?_
    refine TL.call (R := G.laws_eqInt64SS.R) Try.call24 rfl rfl rfl (fun w hS => G.laws_eqInt64SS.calls w s5 ss2 r_5 s3 ss1 r_2 ((RdM.mat 0 rfl) w hS) ((RdM.mat 2 rfl) w hS)) ?_
    rintro r_7 _ _ ⟨rfl, rfl⟩
    refine TL.not r_7 rfl rfl rfl ?_
    refine TL.move rfl rfl (v := .bool (!r_7)) rfl ?_
    refine TL.cutU 4 [(37, .bool ((!r_7) || (r_6 != r_3))), (0, SV.v s1), (2, .bool false), (13, SV.v s1), (14, .int .i64 (x1.length : Int)), (15, .bool (decide ((x1.length : Int) > 1048576))), (17, SV.v s1), (18, SV.v s2), (19, .tuple #[SV.v s3, .int .i64 r_3]), (16, .tuple #[SV.v s3, .int .i64 r_3]), (20, SV.v s3), (21, .int .i64 r_3), (3, SV.v s3), (4, .int .i64 r_3), (22, SV.v s1), (23, SV.v s4), (5, SV.v s4), (25, SV.v s4), (26, .tuple #[SV.v s5, .int .i64 r_6]), (24, .tuple #[SV.v s5, .int .i64 r_6]), (27, SV.v s5), (28, .int .i64 r_6), (6, SV.v s5), (7, .int .i64 r_6), (29, SV.v s5), (30, SV.v s3), (31, .bool r_7), (32, .bool (!r_7)), (33, .bool (!r_7))] [mat Ei 2 22 s5 ss2 r_5, row Ei 2 s4 r_4, mat Ei 2 22 s3 ss1 r_2, row Ei 2 s2 r_1] ?_ ?_
    · refine TL.cases (t := 33) (b := (!r_7)) rfl (fun c3 => ?_) (fun c4 => ?_)
      · refine TL.skip rfl rfl (by decide) ?_
        refine TL.skip rfl rfl (by decide) ?_
        refine TL.skip rfl rfl (by decide) ?_
        refine TL.pick rfl rfl (b := true) rfl (r := .bool true) rfl ?_
        refine TL.done ?_
        exact TC.nrm () () ⟨(by rw [c3]; rfl), rfl, rfl, rfl, rfl, rfl, rfl, rfl, rfl, rfl, rfl, rfl, rfl, rfl, rfl, rfl, rfl, rfl, rfl, rfl, rfl, rfl, rfl, rfl, rfl, rfl, rfl, rfl, (by rw [c3]; rfl), trivial⟩ [0, 0, 0, 0] (by kernel_rfl)
      · refine TL.move rfl rfl (v := .int .i64 r_6) rfl ?_
        refine TL.move rfl rfl (v := .int .i64 r_3) rfl ?_
        refine TL.bin .i64 r_6 r_3 rfl rfl rfl rfl (v := .bool (r_6 != r_3)) rfl ?_
        refine TL.pick rfl rfl (b := false) rfl (r := .bool (r_6 != r_3)) rfl ?_
        refine TL.done ?_
        exact TC.nrm () () ⟨(by rw [c4]; rfl), rfl, rfl, rfl, rfl, rfl, rfl, rfl, rfl, rfl, rfl, rfl, rfl, rfl, rfl, rfl, rfl, rfl, rfl, rfl, rfl, rfl, rfl, rfl, rfl, rfl, rfl, rfl, (by rw [c4]; rfl), trivial⟩ [0, 0, 0, 0] (by kernel_rfl)
    · refine TL.done ?_
      refine TC.cond (b := ((!r_7) || (r_6 != r_3))) rfl (fun c5 => ?_) (fun c6 => ?_)
      · refine TC.seq ?_
        refine TC.region ?_
        refine TL.assign rfl rfl (v := .bool false) rfl ?_
        refine TL.done ?_
        exact TC.retF (Fin.body (fin1 (.inr rfl) rfl (.tmp rfl) [] rfl ⟨rfl, rfl⟩))
      · refine TC.skip ?_
        refine TC.seq ?_
        refine TC.seq ?_
        refine TC.region ?_
        refine TL.move rfl rfl (v := SV.v s4) rfl ?_
        refine TL.move rfl rfl (v := SV.v s1) rfl ?_
        refine TL.call (R := G.laws_toInt64S.R) Try.call13 rfl rfl rfl (fun w hS => G.laws_toInt64S.calls w s1 x1 ((Rd.old h1) w hS)) ?_
        rintro r_8 _ _ ⟨s6, rfl, rfl⟩
        refine TL.call (R := G.laws_eqInt64S.R) Try.call15 rfl rfl rfl (fun w hS => G.laws_eqInt64S.calls w s4 r_4 s6 r_8 ((Rd.row 2 rfl) w hS) ((Rd.row 0 rfl) w hS)) ?_
        rintro r_9 _ _ ⟨rfl, rfl⟩
        refine TL.not r_9 rfl rfl rfl ?_
        refine TL.done ?_
        refine TC.cond (b := (!r_9)) rfl (fun c7 => ?_) (fun c8 => ?_)
        · refine TC.seq ?_
          refine TC.region ?_
          refine TL.assign rfl rfl (v := .bool false) rfl ?_
          refine TL.done ?_
          exact TC.retF (Fin.body (fin1 (.inr rfl) rfl (.tmp rfl) [] rfl ⟨rfl, rfl⟩))
        · refine TC.skip ?_
          refine TC.seq ?_
          refine TC.region ?_
          refine TL.assign rfl rfl (v := .int .i64 1) rfl ?_
          refine TL.done ?_
          refine TC.seq ?_
          refine TC.region ?_
          refine TL.move rfl rfl (v := SV.v s4) rfl ?_
          refine TL.move rfl rfl (v := .int .i64 1) rfl ?_
          refine TL.callX (R := G.laws_markInt64S.R s4) [2, 0, 0, 0, 0] [row Ei 2 s4 r_4] [row Ei 2 s6 r_8, mat Ei 2 22 s5 ss2 r_5, mat Ei 2 22 s3 ss1 r_2, row Ei 2 s2 r_1] rfl Try.call18 rfl rfl rfl (fun w I_ hle hB hS => G.laws_markInt64S.calls _ I_ w s4 r_4 1 hS) ?_
          rintro ⟨r_10, l1⟩ _ _ ⟨rfl, rfl⟩
          refine TL.assign rfl rfl (v := .int .i64 r_10) rfl ?_
          refine TL.done ?_
          refine TC.seq ?_
          refine TC.seq ?_
          refine TC.region ?_
          refine TL.move rfl rfl (v := .int .i64 r_10) rfl ?_
          refine TL.bin .i64 r_10 0 rfl rfl rfl rfl (v := .bool (decide (r_10 < 0))) rfl ?_
          refine TL.move rfl rfl (v := .bool (decide (r_10 < 0))) rfl ?_
          refine TL.cutJ (σ := Bool) (γ := Unit) (Γ' := fun b_1 _ => [(53, .bool b_1), (0, SV.v s1), (2, .bool false), (13, SV.v s1), (14, .int .i64 (x1.length : Int)), (15, .bool (decide ((x1.length : Int) > 1048576))), (17, SV.v s1), (18, SV.v s2), (19, .tuple #[SV.v s3, .int .i64 r_3]), (16, .tuple #[SV.v s3, .int .i64 r_3]), (20, SV.v s3), (21, .int .i64 r_3), (3, SV.v s3), (4, .int .i64 r_3), (22, SV.v s1), (23, SV.v s4), (5, SV.v s4), (25, SV.v s4), (26, .tuple #[SV.v s5, .int .i64 r_6]), (24, .tuple #[SV.v s5, .int .i64 r_6]), (27, SV.v s5), (28, .int .i64 r_6), (6, SV.v s5), (7, .int .i64 r_6), (29, SV.v s5), (30, SV.v s3), (31, .bool r_7), (32, .bool (!r_7)), (33, .bool (!r_7)), (37, .bool ((!r_7) || (r_6 != r_3))), (38, SV.v s4), (39, SV.v s1), (40, SV.v s6), (41, .bool r_9), (42, .bool (!r_9)), (8, .int .i64 r_10), (43, SV.v s4), (44, .int .i64 1), (45, .int .i64 r_10), (46, .int .i64 r_10), (47, .bool (decide (r_10 < 0))), (48, .bool (decide (r_10 < 0)))]) (L' := fun _ _ => [row Ei 2 s4 l1, row Ei 2 s6 r_8, mat Ei 2 22 s5 ss2 r_5, mat Ei 2 22 s3 ss1 r_2, row Ei 2 s2 r_1]) 5 ?_ ?_
          · refine TL.ifb (t := 48) (b := (decide (r_10 < 0))) rfl (fun c9 => ?_) (fun c10 => ?_)
            · refine TL.skip rfl rfl (by decide) ?_
              refine TL.skip rfl rfl (by decide) ?_
              refine TL.skip rfl rfl (by decide) ?_
              refine TL.skip rfl rfl (by decide) ?_
              refine TL.pick rfl rfl (b := true) rfl (r := .bool true) rfl ?_
              refine TL.done ?_
              exact TC.nrm (true) () ⟨rfl, rfl, rfl, rfl, rfl, rfl, rfl, rfl, rfl, rfl, rfl, rfl, rfl, rfl, rfl, rfl, rfl, rfl, rfl, rfl, rfl, rfl, rfl, rfl, rfl, rfl, rfl, rfl, rfl, rfl, rfl, rfl, rfl, rfl, rfl, rfl, rfl, rfl, rfl, rfl, rfl, (by rw [c9]; rfl), trivial⟩ [0, 0, 0, 0, 0] (by kernel_rfl)
            · refine TL.move rfl rfl (v := SV.v s5) rfl ?_
              refine TL.move rfl rfl (v := SV.v s3) rfl ?_
              refine TL.call (R := G.laws_eqInt64SS.R) Try.call24 rfl rfl rfl (fun w hS => G.laws_eqInt64SS.calls w s5 ss2 r_5 s3 ss1 r_2 ((RdM.mat 2 rfl) w hS) ((RdM.mat 3 rfl) w hS)) ?_
              rintro r_11 _ _ ⟨rfl, rfl⟩
              refine TL.not r_11 rfl rfl rfl ?_
              refine TL.pick rfl rfl (b := false) rfl (r := .bool (!r_11)) rfl ?_
              refine TL.done ?_
              exact TC.nrm ((!r_11)) () ⟨rfl, rfl, rfl, rfl, rfl, rfl, rfl, rfl, rfl, rfl, rfl, rfl, rfl, rfl, rfl, rfl, rfl, rfl, rfl, rfl, rfl, rfl, rfl, rfl, rfl, rfl, rfl, rfl, rfl, rfl, rfl, rfl, rfl, rfl, rfl, rfl, rfl, rfl, rfl, rfl, rfl, (by rw [c10]; rfl), trivial⟩ [0, 0, 0, 0, 0] (by kernel_rfl)
          · rintro b_1 _
            refine TL.move rfl rfl (v := .bool b_1) rfl ?_
            refine TL.cutU 4 [(58, .bool (b_1 || (r_6 != r_3))), (0, SV.v s1), (2, .bool false), (13, SV.v s1), (14, .int .i64 (x1.length : Int)), (15, .bool (decide ((x1.length : Int) > 1048576))), (17, SV.v s1), (18, SV.v s2), (19, .tuple #[SV.v s3, .int .i64 r_3]), (16, .tuple #[SV.v s3, .int .i64 r_3]), (20, SV.v s3), (21, .int .i64 r_3), (3, SV.v s3), (4, .int .i64 r_3), (22, SV.v s1), (23, SV.v s4), (5, SV.v s4), (25, SV.v s4), (26, .tuple #[SV.v s5, .int .i64 r_6]), (24, .tuple #[SV.v s5, .int .i64 r_6]), (27, SV.v s5), (28, .int .i64 r_6), (6, SV.v s5), (7, .int .i64 r_6), (29, SV.v s5), (30, SV.v s3), (31, .bool r_7), (32, .bool (!r_7)), (33, .bool (!r_7)), (37, .bool ((!r_7) || (r_6 != r_3))), (38, SV.v s4), (39, SV.v s1), (40, SV.v s6), (41, .bool r_9), (42, .bool (!r_9)), (8, .int .i64 r_10), (43, SV.v s4), (44, .int .i64 1), (45, .int .i64 r_10), (46, .int .i64 r_10), (47, .bool (decide (r_10 < 0))), (48, .bool (decide (r_10 < 0))), (53, .bool b_1), (54, .bool b_1)] [row Ei 2 s4 l1, row Ei 2 s6 r_8, mat Ei 2 22 s5 ss2 r_5, mat Ei 2 22 s3 ss1 r_2, row Ei 2 s2 r_1] ?_ ?_
            · refine TL.cases (t := 54) (b := b_1) rfl (fun c11 => ?_) (fun c12 => ?_)
              · refine TL.skip rfl rfl (by decide) ?_
                refine TL.skip rfl rfl (by decide) ?_
                refine TL.skip rfl rfl (by decide) ?_
                refine TL.pick rfl rfl (b := true) rfl (r := .bool true) rfl ?_
                refine TL.done ?_
                exact TC.nrm () () ⟨(by rw [c11]; rfl), rfl, rfl, rfl, rfl, rfl, rfl, rfl, rfl, rfl, rfl, rfl, rfl, rfl, rfl, rfl, rfl, rfl, rfl, rfl, rfl, rfl, rfl, rfl, rfl, rfl, rfl, rfl, rfl, rfl, rfl, rfl, rfl, rfl, rfl, rfl, rfl, rfl, rfl, rfl, rfl, rfl, rfl, (by rw [c11]; rfl), trivial⟩ [0, 0, 0, 0, 0] (by kernel_rfl)
              · refine TL.move rfl rfl (v := .int .i64 r_6) rfl ?_
                refine TL.move rfl rfl (v := .int .i64 r_3) rfl ?_
                refine TL.bin .i64 r_6 r_3 rfl rfl rfl rfl (v := .bool (r_6 != r_3)) rfl ?_
                refine TL.pick rfl rfl (b := false) rfl (r := .bool (r_6 != r_3)) rfl ?_
                refine TL.done ?_
                exact TC.nrm () () ⟨(by rw [c12]; rfl), rfl, rfl, rfl, rfl, rfl, rfl, rfl, rfl, rfl, rfl, rfl, rfl, rfl, rfl, rfl, rfl, rfl, rfl, rfl, rfl, rfl, rfl, rfl, rfl, rfl, rfl, rfl, rfl, rfl, rfl, rfl, rfl, rfl, rfl, rfl, rfl, rfl, rfl, rfl, rfl, rfl, rfl, (by rw [c12]; rfl), trivial⟩ [0, 0, 0, 0, 0] (by kernel_rfl)
            · refine TL.done ?_
              refine TC.cond (b := (b_1 || (r_6 != r_3))) rfl (fun c13 => ?_) (fun c14 => ?_)
              · refine TC.seq ?_
                refine TC.region ?_
                refine TL.assign rfl rfl (v := .bool false) rfl ?_
                refine TL.done ?_
                exact TC.retF (Fin.body (fin1 (.inr rfl) rfl (.tmp rfl) [] rfl ⟨rfl, rfl⟩))
              · refine TC.skip ?_
                refine TC.seq ?_
                refine TC.region ?_
                refine TL.assign rfl rfl (v := .int .i64 1) rfl ?_
                refine TL.done ?_
                refine TC.seq ?_
                refine TC.region ?_
                refine TL.move rfl rfl (v := SV.v s5) rfl ?_
                refine TL.move rfl rfl (v := .int .i64 1) rfl ?_
                refine TL.callX (R := G.laws_markInt64SS.R s5) [2, 0, 0, 0, 0] [mat Ei 2 22 s5 ss2 r_5] [row Ei 2 s4 l1, row Ei 2 s6 r_8, mat Ei 2 22 s3 ss1 r_2, row Ei 2 s2 r_1] rfl Try.call25 rfl rfl rfl (fun w I_ hle hB hS => G.laws_markInt64SS.calls _ I_ w s5 ss2 r_5 1 hS) ?_
                rintro ⟨r_12, l2⟩ _ _ ⟨ss3, rfl, rfl⟩
                refine TL.assign rfl rfl (v := .int .i64 r_12) rfl ?_
                refine TL.done ?_
                refine TC.seq ?_
                refine TC.region ?_
                refine TL.assign rfl rfl (v := .int .i64 1) rfl ?_
                refine TL.done ?_
                refine TC.seq ?_
                refine TC.region ?_
                refine TL.move rfl rfl (v := SV.v s5) rfl ?_
                refine TL.move rfl rfl (v := .int .i64 1) rfl ?_
                refine TL.call (R := G.laws_heldInt64SS.R) Try.call26 rfl rfl rfl (fun w hS => G.laws_heldInt64SS.calls w s5 ss3 l2 1 ((RdM.mat 0 rfl) w hS)) ?_
                rintro r_13 _ _ ⟨rfl, rfl⟩
                refine TL.assign rfl rfl (v := .int .i64 r_13) rfl ?_
                refine TL.done ?_
                refine TC.seq ?_
                refine TC.seq ?_
                refine TC.region ?_
                refine TL.move rfl rfl (v := .int .i64 r_13) rfl ?_
                refine TL.bin .i64 r_13 0 rfl rfl rfl rfl (v := .bool (decide (r_13 < 0))) rfl ?_
                refine TL.done ?_
                refine TC.cond (b := (decide (r_13 < 0))) rfl (fun c15 => ?_) (fun c16 => ?_)
                · refine TC.seq ?_
                  refine TC.region ?_
                  refine TL.assign rfl rfl (v := .bool false) rfl ?_
                  refine TL.done ?_
                  exact TC.retF (Fin.body (fin1 (.inr rfl) rfl (.tmp rfl) [] rfl ⟨rfl, rfl⟩))
                · refine TC.skip ?_
                  refine TC.seq ?_
                  refine TC.seq ?_
                  refine TC.region ?_
                  refine TL.move rfl rfl (v := .int .i64 r_13) rfl ?_
                  refine TL.move rfl rfl (v := .int .i64 r_12) rfl ?_
                  refine TL.bin .i64 r_13 r_12 rfl rfl rfl rfl (v := .bool (r_13 != r_12)) rfl ?_
                  refine TL.done ?_
                  refine TC.cond (b := (r_13 != r_12)) rfl (fun c17 => ?_) (fun c18 => ?_)
                  · refine TC.seq ?_
                    refine TC.region ?_
                    refine TL.assign rfl rfl (v := .bool false) rfl ?_
                    refine TL.done ?_
                    exact TC.retF (Fin.body (fin1 (.inr rfl) rfl (.tmp rfl) [] rfl ⟨rfl, rfl⟩))
                  · refine TC.skip ?_
                    refine TC.seq ?_
                    refine TC.region ?_
                    refine TL.move rfl rfl (v := SV.v s1) rfl ?_
                    refine TL.call (R := G.laws_toInt64S.R) Try.call13 rfl rfl rfl (fun w hS => G.laws_toInt64S.calls w s1 x1 ((Rd.old h1) w hS)) ?_
                    rintro r_14 _ _ ⟨s7, rfl, rfl⟩
                    refine TL.call (R := G.impl_CornersOf.R) Try.call23 rfl rfl rfl (fun w hS => G.impl_CornersOf.calls w s7 r_14 ((Rd.row 0 rfl) w hS)) ?_
                    rintro ⟨r_15, r_16⟩ _ _ ⟨s8, ss4, rfl, rfl⟩
                    refine TL.move rfl rfl (v := .tuple #[SV.v s8, .int .i64 r_16]) rfl ?_
                    refine TL.extract rfl rfl rfl (v := SV.v s8) rfl ?_
                    refine TL.extract rfl rfl rfl (v := .int .i64 r_16) rfl ?_
                    refine TL.assign rfl rfl (v := SV.v s8) rfl ?_
                    refine TL.assign rfl rfl (v := .int .i64 r_16) rfl ?_
                    refine TL.done ?_
                    refine TC.seq ?_
                    refine TC.seq ?_
                    refine TC.region ?_
                    refine TL.move rfl rfl (v := SV.v s8) rfl ?_
                    refine TL.move rfl rfl (v := SV.v s3) rfl ?_
                    refine TL.call (R := G.laws_eqInt64SS.R) Try.call24 rfl rfl rfl (fun w hS => G.laws_eqInt64SS.calls w s8 ss4 r_15 s3 ss1 r_2 ((RdM.mat 0 rfl) w hS) ((RdM.mat 5 rfl) w hS)) ?_
                    rintro r_17 _ _ ⟨rfl, rfl⟩
                    refine TL.not r_17 rfl rfl rfl ?_
                    refine TL.move rfl rfl (v := .bool (!r_17)) rfl ?_
                    refine TL.cutU 4 [(84, .bool ((!r_17) || (r_16 != r_3))), (0, SV.v s1), (2, .bool false), (13, SV.v s1), (14, .int .i64 (x1.length : Int)), (15, .bool (decide ((x1.length : Int) > 1048576))), (17, SV.v s1), (18, SV.v s2), (19, .tuple #[SV.v s3, .int .i64 r_3]), (16, .tuple #[SV.v s3, .int .i64 r_3]), (20, SV.v s3), (21, .int .i64 r_3), (3, SV.v s3), (4, .int .i64 r_3), (22, SV.v s1), (23, SV.v s4), (5, SV.v s4), (25, SV.v s4), (26, .tuple #[SV.v s5, .int .i64 r_6]), (24, .tuple #[SV.v s5, .int .i64 r_6]), (27, SV.v s5), (28, .int .i64 r_6), (6, SV.v s5), (7, .int .i64 r_6), (29, SV.v s5), (30, SV.v s3), (31, .bool r_7), (32, .bool (!r_7)), (33, .bool (!r_7)), (37, .bool ((!r_7) || (r_6 != r_3))), (38, SV.v s4), (39, SV.v s1), (40, SV.v s6), (41, .bool r_9), (42, .bool (!r_9)), (8, .int .i64 r_10), (43, SV.v s4), (44, .int .i64 1), (45, .int .i64 r_10), (46, .int .i64 r_10), (47, .bool (decide (r_10 < 0))), (48, .bool (decide (r_10 < 0))), (53, .bool b_1), (54, .bool b_1), (58, .bool (b_1 || (r_6 != r_3))), (9, .int .i64 r_12), (59, SV.v s5), (60, .int .i64 1), (61, .int .i64 r_12), (10, .int .i64 r_13), (62, SV.v s5), (63, .int .i64 1), (64, .int .i64 r_13), (65, .int .i64 r_13), (66, .bool (decide (r_13 < 0))), (67, .int .i64 r_13), (68, .int .i64 r_12), (69, .bool (r_13 != r_12)), (71, SV.v s1), (72, SV.v s7), (73, .tuple #[SV.v s8, .int .i64 r_16]), (70, .tuple #[SV.v s8, .int .i64 r_16]), (74, SV.v s8), (75, .int .i64 r_16), (11, SV.v s8), (12, .int .i64 r_16), (76, SV.v s8), (77, SV.v s3), (78, .bool r_17), (79, .bool (!r_17)), (80, .bool (!r_17))] [mat Ei 2 22 s8 ss4 r_15, row Ei 2 s7 r_14, mat Ei 2 22 s5 ss3 l2, row Ei 2 s4 l1, row Ei 2 s6 r_8, mat Ei 2 22 s3 ss1 r_2, row Ei 2 s2 r_1] ?_ ?_
                    · refine TL.cases (t := 80) (b := (!r_17)) rfl (fun c19 => ?_) (fun c20 => ?_)
                      · refine TL.skip rfl rfl (by decide) ?_
                        refine TL.skip rfl rfl (by decide) ?_
                        refine TL.skip rfl rfl (by decide) ?_
                        refine TL.pick rfl rfl (b := true) rfl (r := .bool true) rfl ?_
                        refine TL.done ?_
                        exact TC.nrm () () ⟨(by rw [c19]; rfl), rfl, rfl, rfl, rfl, rfl, rfl, rfl, rfl, rfl, rfl, rfl, rfl, rfl, rfl, rfl, rfl, rfl, rfl, rfl, rfl, rfl, rfl, rfl, rfl, rfl, rfl, rfl, rfl, rfl, rfl, rfl, rfl, rfl, rfl, rfl, rfl, rfl, rfl, rfl, rfl, rfl, rfl, rfl, rfl, rfl, rfl, rfl, rfl, rfl, rfl, rfl, rfl, rfl, rfl, rfl, rfl, rfl, rfl, rfl, rfl, rfl, rfl, rfl, rfl, rfl, rfl, rfl, rfl, rfl, (by rw [c19]; rfl), trivial⟩ [0, 0, 0, 0, 0, 0, 0] (by kernel_rfl)
                      · refine TL.move rfl rfl (v := .int .i64 r_16) rfl ?_
                        refine TL.move rfl rfl (v := .int .i64 r_3) rfl ?_
                        refine TL.bin .i64 r_16 r_3 rfl rfl rfl rfl (v := .bool (r_16 != r_3)) rfl ?_
                        refine TL.pick rfl rfl (b := false) rfl (r := .bool (r_16 != r_3)) rfl ?_
                        refine TL.done ?_
                        exact TC.nrm () () ⟨(by rw [c20]; rfl), rfl, rfl, rfl, rfl, rfl, rfl, rfl, rfl, rfl, rfl, rfl, rfl, rfl, rfl, rfl, rfl, rfl, rfl, rfl, rfl, rfl, rfl, rfl, rfl, rfl, rfl, rfl, rfl, rfl, rfl, rfl, rfl, rfl, rfl, rfl, rfl, rfl, rfl, rfl, rfl, rfl, rfl, rfl, rfl, rfl, rfl, rfl, rfl, rfl, rfl, rfl, rfl, rfl, rfl, rfl, rfl, rfl, rfl, rfl, rfl, rfl, rfl, rfl, rfl, rfl, rfl, rfl, rfl, rfl, (by rw [c20]; rfl), trivial⟩ [0, 0, 0, 0, 0, 0, 0] (by kernel_rfl)
                    · refine TL.done ?_
                      refine TC.cond (b := ((!r_17) || (r_16 != r_3))) rfl (fun c21 => ?_) (fun c22 => ?_)
                      · refine TC.seq ?_
                        refine TC.region ?_
                        refine TL.assign rfl rfl (v := .bool false) rfl ?_
                        refine TL.done ?_
                        exact TC.retF (Fin.body (fin1 (.inr rfl) rfl (.tmp rfl) [] rfl ⟨rfl, rfl⟩))
                      · refine TC.skip ?_
                        refine TC.seq ?_
                        refine TC.region ?_
                        refine TL.assign rfl rfl (v := .int .i64 1) rfl ?_
                        refine TL.done ?_
                        refine TC.seq ?_
                        refine TC.region ?_
                        refine TL.move rfl rfl (v := SV.v s5) rfl ?_
                        refine TL.move rfl rfl (v := .int .i64 1) rfl ?_
                        refine TL.call (R := G.laws_heldInt64SS.R) Try.call26 rfl rfl rfl (fun w hS => G.laws_heldInt64SS.calls w s5 ss3 l2 1 ((RdM.mat 2 rfl) w hS)) ?_
                        rintro r_18 _ _ ⟨rfl, rfl⟩
                        refine TL.assign rfl rfl (v := .int .i64 r_18) rfl ?_
                        refine TL.done ?_
                        refine TC.seq ?_
                        refine TC.seq ?_
                        refine TC.region ?_
                        refine TL.move rfl rfl (v := .int .i64 r_18) rfl ?_
                        refine TL.bin .i64 r_18 0 rfl rfl rfl rfl (v := .bool (decide (r_18 < 0))) rfl ?_
                        refine TL.done ?_
                        refine TC.cond (b := (decide (r_18 < 0))) rfl (fun c23 => ?_) (fun c24 => ?_)
                        · refine TC.seq ?_
                          refine TC.region ?_
                          refine TL.assign rfl rfl (v := .bool false) rfl ?_
                          refine TL.done ?_
                          exact TC.retF (Fin.body (fin1 (.inr rfl) rfl (.tmp rfl) [] rfl ⟨rfl, rfl⟩))
                        · refine TC.skip ?_
                          refine TC.seq ?_
                          refine TC.seq ?_
                          refine TC.region ?_
                          refine TL.move rfl rfl (v := .int .i64 r_18) rfl ?_
                          refine TL.move rfl rfl (v := .int .i64 r_12) rfl ?_
                          refine TL.bin .i64 r_18 r_12 rfl rfl rfl rfl (v := .bool (r_18 != r_12)) rfl ?_
                          refine TL.done ?_
                          refine TC.cond (b := (r_18 != r_12)) rfl (fun c25 => ?_) (fun c26 => ?_)
                          · refine TC.seq ?_
                            refine TC.region ?_
                            refine TL.assign rfl rfl (v := .bool false) rfl ?_
                            refine TL.done ?_
                            exact TC.retF (Fin.body (fin1 (.inr rfl) rfl (.tmp rfl) [] rfl ⟨rfl, rfl⟩))
                          · refine TC.skip ?_
                            refine TC.seq ?_
                            refine TC.region ?_
                            refine TL.assign rfl rfl (v := .bool true) rfl ?_
                            refine TL.done ?_
                            exact TC.retF (Fin.body (fin1 (.inr rfl) rfl (.tmp rfl) [] rfl ⟨rfl, rfl⟩))

end Go.Proofs.Ytiiljfpbcanphaa.G

/- slices.Index[[]int64,int64], as a pure function. -/
set_option linter.unusedVariables false
namespace Go.Proofs.Ytiiljfpbcanphaa.G
open Go Go.Sx Go.Proofs

def slices_Index_int64_int64.b0 (s1 : List Int) (v_1 : Int) : Int → Option (LR Int Int) := fun x1 => (bif (decide (x1 < (s1.length : Int))) then chk x1 s1.length ((bif (v_1 == (gt s1 x1)) then some (.ret (x1)) else some (.next (w64 (x1 + 1))))) else some (.brk x1))

def slices_Index_int64_int64.f (s1 : List Int) (v_1 : Int) : Option Int := (loop (slices_Index_int64_int64.b0 s1 v_1) 0).bind (ln (fun x1 => some (-1)))

def slices_Index_int64_int64.R (r : Int) (v : Value) (L : List Asn) : Prop := v = .int .i64 r ∧ L = []

set_option maxRecDepth 100000 in
set_option maxHeartbeats 4000000 in
theorem slices_Index_int64_int64.calls (w : World) (s2 : SV) (s1 : List Int) (v_1 : Int) (h1 : Reads Ei (hp w) s2 s1) :
    ∀ r, slices_Index_int64_int64.f s1 v_1 = some r → Calls Try.prog 151 #[SV.v s2, .int .i64 v_1] w (Ret w (slices_Index_int64_int64.R r)) := by

  refine calls_T (n := 19) (Γ := [(0, SV.v s2), (1, .int .i64 v_1)]) (R := slices_Index_int64_int64.R) Try.func151 rfl rfl (Nat.le_of_ble_eq_true rfl) ⟨rfl, rfl, trivial⟩ ?_
  unfold slices_Index_int64_int64.f
  refine TC.seq ?_
  refine TC.region ?_
  refine TL.assign rfl rfl (v := .int .i64 0) rfl ?_
  refine TL.done ?_
  refine TC.seq ?_
  refine TC.seq ?_
  refine TC.region ?_
  refine TL.move rfl rfl (v := SV.v s2) rfl ?_
  refine TL.len (Rd.old h1) Try.underlying22 rfl rfl rfl ?_
  refine TL.move rfl rfl (v := .int .i64 0) rfl ?_
  refine TL.done ?_
  refine TC.loopK (σ := Int) (γ := Unit) (Γ' := (fun x1 _ => [(0, SV.v s2), (1, .int .i64 v_1), (7, .int .i64 (s1.length : Int)), (8, .int .i64 x1)])) (L' := (fun x1 _ => [])) (Γb := (fun x1 _ => [(0, SV.v s2), (1, .int .i64 v_1), (7, .int .i64 (s1.length : Int)), (8, .int .i64 x1)])) (Lb := (fun x1 _ => [])) (0) (()) ⟨rfl, rfl, rfl, rfl, trivial⟩ [] rfl ?_ ?_
  · rintro x1 _
    refine TC.seq ?_
    refine TC.region ?_
    refine TL.bin .i64 x1 (s1.length : Int) rfl rfl rfl rfl (v := .bool (decide (x1 < (s1.length : Int)))) rfl ?_
    refine TL.done ?_
    refine TC.seq ?_
    refine TC.cond (b := (decide (x1 < (s1.length : Int)))) rfl (fun c1 => ?_) (fun c2 => ?_)
    · refine TC.skip ?_
      refine TC.seq ?_
      refine TC.block (NoEx.loop rfl NoEx.body) ?_
      refine TC.seq ?_
      refine TC.region ?_
      refine TL.move rfl rfl (v := .int .i64 x1) rfl ?_
      refine TL.assign rfl rfl (v := .int .i64 x1) rfl ?_
      refine TL.done ?_
      refine TC.seq ?_
      refine TC.region ?_
      refine TL.move rfl rfl (v := .int .i64 v_1) rfl ?_
      refine TL.move rfl rfl (v := SV.v s2) rfl ?_
      refine TL.move rfl rfl (v := .int .i64 x1) rfl ?_
      refine TL.chk fun h2 => ?_
      refine TL.ixs x1 x1.toNat (Rd.old h1) h2 Try.underlying22 Try.sizeOf2 rfl rfl rfl rfl (by omega) ?_
      refine TL.loadE (Rd.old h1) Try.isAgg2 x1.toNat 0 (gt_spec h2) (v := .int .i64 (gt s1 x1)) rfl (by simp only [show Ei.sz = 1 from rfl] <;> omega) rfl rfl rfl ?_
      refine TL.bin .i64 v_1 (gt s1 x1) rfl rfl rfl rfl (v := .bool (v_1 == (gt s1 x1))) rfl ?_
      refine TL.done ?_
      refine TC.cond (b := (v_1 == (gt s1 x1))) rfl (fun c3 => ?_) (fun c4 => ?_)
      · refine TC.seq ?_
        refine TC.region ?_
        refine TL.move rfl rfl (v := .int .i64 x1) rfl ?_
        refine TL.assign rfl rfl (v := .int .i64 x1) rfl ?_
        refine TL.done ?_
        exact TC.retF (Fin.loop Far.ret (Fin.body (fin1 (.inr rfl) rfl (.tmp rfl) [] rfl ⟨rfl, rfl⟩)))
      · refine TC.skip ?_
        refine TC.region ?_
        refine TL.bin .i64 x1 1 rfl rfl rfl rfl (v := .int .i64 (w64 (x1 + 1))) rfl ?_
        refine TL.move rfl rfl (v := .int .i64 (w64 (x1 + 1))) rfl ?_
        refine TL.done ?_
        exact TC.next ((w64 (x1 + 1))) (()) ⟨rfl, rfl, rfl, rfl, trivial⟩ [] rfl
    · exact TC.brk (x1) (()) ⟨rfl, rfl, rfl, rfl, trivial⟩ [] rfl
  · rintro x1 _
    refine TC.seq ?_
    refine TC.region ?_
    refine TL.assign rfl rfl (v := .int .i64 (-1)) rfl ?_
    refine TL.done ?_
    exact TC.retF (Fin.body (fin1 (.inr rfl) rfl (.tmp rfl) [] rfl ⟨rfl, rfl⟩))

end Go.Proofs.Ytiiljfpbcanphaa.G

/- slices.Contains[[]int64,int64], as a pure function. -/
set_option linter.unusedVariables false
namespace Go.Proofs.Ytiiljfpbcanphaa.G
open Go Go.Sx Go.Proofs

def slices_Contains_int64_int64.f (s1 : List Int) (v_1 : Int) : Option Bool := (G.slices_Index_int64_int64.f s1 v_1).bind (fun r_1 => some (decide (r_1 ≥ 0)))

def slices_Contains_int64_int64.R (r : Bool) (v : Value) (L : List Asn) : Prop := v = .bool r ∧ L = []

set_option maxRecDepth 100000 in
set_option maxHeartbeats 4000000 in
theorem slices_Contains_int64_int64.calls (w : World) (s2 : SV) (s1 : List Int) (v_1 : Int) (h1 : Reads Ei (hp w) s2 s1) :
    ∀ r, slices_Contains_int64_int64.f s1 v_1 = some r → Calls Try.prog 105 #[SV.v s2, .int .i64 v_1] w (Ret w (slices_Contains_int64_int64.R r)) := by

  refine calls_T (n := 9) (Γ := [(0, SV.v s2), (1, .int .i64 v_1)]) (R := slices_Contains_int64_int64.R) Try.func105 rfl rfl (Nat.le_of_ble_eq_true rfl) ⟨rfl, rfl, trivial⟩ ?_
  unfold slices_Contains_int64_int64.f
  refine TC.seq ?_
  refine TC.region ?_
  refine TL.assign rfl rfl (v := .bool false) rfl ?_
  refine TL.done ?_
  refine TC.seq ?_
  refine TC.region ?_
  refine TL.move rfl rfl (v := SV.v s2) rfl ?_
  refine TL.move rfl rfl (v := .int .i64 v_1) rfl ?_
  refine TL.call (R := G.slices_Index_int64_int64.R) Try.call151 rfl rfl rfl (fun w hS => G.slices_Index_int64_int64.calls w s2 s1 v_1 ((Rd.old h1) w hS)) ?_
  rintro r_1 _ _ ⟨rfl, rfl⟩
  refine TL.bin .i64 r_1 0 rfl rfl rfl rfl (v := .bool (decide (r_1 ≥ 0))) rfl ?_
  refine TL.assign rfl rfl (v := .bool (decide (r_1 ≥ 0))) rfl ?_
  refine TL.done ?_
  exact TC.retF (Fin.body (fin1 (.inr rfl) rfl (.tmp rfl) [] rfl ⟨rfl, rfl⟩))

end Go.Proofs.Ytiiljfpbcanphaa.G

/- laws.szInt64S, as a pure function. -/
set_option linter.unusedVariables false
namespace Go.Proofs.Ytiiljfpbcanphaa.G
open Go Go.Sx Go.Proofs

def laws_szInt64S.f (a_1 : List Int) (left_1 : Int) : Option Int := (bif (decide ((w64 (left_1 - (a_1.length : Int))) < 0)) then some (-1) else some (w64 (left_1 - (a_1.length : Int))))

def laws_szInt64S.R (r : Int) (v : Value) (L : List Asn) : Prop := v = .int .i64 r ∧ L = []

set_option maxRecDepth 100000 in
set_option maxHeartbeats 4000000 in
theorem laws_szInt64S.calls (w : World) (s1 : SV) (a_1 : List Int) (left_1 : Int) (h1 : Reads Ei (hp w) s1 a_1) :
    ∀ r, laws_szInt64S.f a_1 left_1 = some r → Calls Try.prog 99 #[SV.v s1, .int .i64 left_1] w (Ret w (laws_szInt64S.R r)) := by

  refine calls_T (n := 12) (Γ := [(0, SV.v s1), (1, .int .i64 left_1)]) (R := laws_szInt64S.R) Try.func99 rfl rfl (Nat.le_of_ble_eq_true rfl) ⟨rfl, rfl, trivial⟩ ?_
  unfold laws_szInt64S.f
  refine TC.seq ?_
  refine TC.region ?_
  refine TL.assign rfl rfl (v := .int .i64 0) rfl ?_
  refine TL.done ?_
  refine TC.seq ?_
  refine TC.region ?_
  refine TL.move rfl rfl (v := .int .i64 left_1) rfl ?_
  refine TL.move rfl rfl (v := SV.v s1) rfl ?_
  refine TL.len (Rd.old h1) Try.underlying22 rfl rfl rfl ?_
  refine TL.bin .i64 left_1 (a_1.length : Int) rfl rfl rfl rfl (v := .int .i64 (w64 (left_1 - (a_1.length : Int)))) rfl ?_
  refine TL.assign rfl rfl (v := .int .i64 (w64 (left_1 - (a_1.length : Int)))) rfl ?_
  refine TL.done ?_
  refine TC.seq ?_
  refine TC.seq ?_
  refine TC.region ?_
  refine TL.move rfl rfl (v := .int .i64 (w64 (left_1 - (a_1.length : Int)))) rfl ?_
  refine TL.bin .i64 (w64 (left_1 - (a_1.length : Int))) 0 rfl rfl rfl rfl (v := .bool (decide ((w64 (left_1 - (a_1.length : Int))) < 0))) rfl ?_
  refine TL.done ?_
  refine TC.cond (b := (decide ((w64 (left_1 - (a_1.length : Int))) < 0))) rfl (fun c1 => ?_) (fun c2 => ?_)
  · refine TC.seq ?_
    refine TC.region ?_
    refine TL.assign rfl rfl (v := .int .i64 (-1)) rfl ?_
    refine TL.done ?_
    exact TC.retF (Fin.body (fin1 (.inr rfl) rfl (.tmp rfl) [] rfl ⟨rfl, rfl⟩))
  · refine TC.skip ?_
    refine TC.seq ?_
    refine TC.region ?_
    refine TL.move rfl rfl (v := .int .i64 (w64 (left_1 - (a_1.length : Int)))) rfl ?_
    refine TL.assign rfl rfl (v := .int .i64 (w64 (left_1 - (a_1.length : Int)))) rfl ?_
    refine TL.done ?_
    exact TC.retF (Fin.body (fin1 (.inr rfl) rfl (.tmp rfl) [] rfl ⟨rfl, rfl⟩))

end Go.Proofs.Ytiiljfpbcanphaa.G
