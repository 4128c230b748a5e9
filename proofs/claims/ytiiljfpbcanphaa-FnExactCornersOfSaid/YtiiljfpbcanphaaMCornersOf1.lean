/- Functions of the program, as pure functions. -/
import Derived.Test.YtiiljfpbcanphaaSy2
import Derived.Test.YtiiljfpbcanphaaProg
/- laws.toInt64S, as a pure function. -/
set_option linter.unusedVariables false
namespace Go.Proofs.Ytiiljfpbcanphaa.G
open Go Go.Sx Go.Proofs

def laws_toInt64S.b0 (a_1 : List Int) : (List Int) × Int → Option (LB ((List Int) × Int)) := fun p => match p with | (out1, i1) => (bif (decide (i1 < (a_1.length : Int))) then chk i1 a_1.length (chk i1 out1.length (some (.next ((out1.set i1.toNat (gt a_1 i1)), (w64 (i1 + 1)))))) else some (.brk (out1, i1)))

def laws_toInt64S.f (a_1 : List Int) : Option (List Int) := small a_1.length ((loop1 (laws_toInt64S.b0 a_1) ((List.replicate (a_1.length : Int).toNat (0 : Int)), 0)).bind (fun p => match p with | (out1, i1) => some out1))

def laws_toInt64S.R (r : List Int) (v : Value) (L : List Asn) : Prop := ∃ (s0 : SV), v = SV.v s0 ∧ L = [row Ei 2 s0 r]

set_option maxRecDepth 100000 in
set_option maxHeartbeats 4000000 in
theorem laws_toInt64S.calls (w : World) (s1 : SV) (a_1 : List Int) (h1 : Reads Ei (hp w) s1 a_1) :
    ∀ r, laws_toInt64S.f a_1 = some r → Calls Try.prog 13 #[SV.v s1] w (Ret w (laws_toInt64S.R r)) := by

  refine calls_T (n := 22) (Γ := [(0, SV.v s1)]) (R := laws_toInt64S.R) Try.func13 rfl rfl (Nat.le_of_ble_eq_true rfl) ⟨rfl, trivial⟩ ?_
  unfold laws_toInt64S.f
  refine TC.seq ?_
  refine TC.region ?_
  refine TL.assign rfl rfl (v := SV.v ⟨none, 0, 0⟩) rfl ?_
  refine TL.done ?_
  refine TC.seq ?_
  refine TC.region ?_
  refine TL.move rfl rfl (v := SV.v s1) rfl ?_
  refine TL.len (Rd.old h1) Try.underlying22 rfl rfl rfl ?_
  refine TL.small fun h2 => ?_
  refine TL.mkslice Ei (0 : Int) (a_1.length : Int) Try.underlying22 (info_of Try.type2) (zv := (Try.t2.zero.getD (.bool false))) rfl rfl rfl (by simp [Ei, flat, Seg.cells]) (by decide) (by omega) (by omega) rfl rfl rfl rfl fun s2 => ?_
  refine TL.assign rfl rfl (v := SV.v s2) rfl ?_
  refine TL.done ?_
  refine TC.seq ?_
  refine TC.seq ?_
  refine TC.region ?_
  refine TL.assign rfl rfl (v := .int .i64 0) rfl ?_
  refine TL.done ?_
  refine TC.loop1 (σ := (List Int) × Int) (γ := Unit) (Γ' := (fun p q => match p, q with | (out1, i1), _ => [(0, SV.v s1), (3, SV.v s2), (4, .int .i64 i1)])) (L' := (fun p q => match p, q with | (out1, i1), _ => [row Ei 2 s2 out1])) (Γb := (fun p q => match p, q with | (out1, i1), _ => [(0, SV.v s1), (3, SV.v s2), (4, .int .i64 i1)])) (Lb := (fun p q => match p, q with | (out1, i1), _ => [row Ei 2 s2 out1])) (((List.replicate (a_1.length : Int).toNat (0 : Int)), 0)) (()) ⟨rfl, rfl, rfl, trivial⟩ [0] rfl ?_ ?_
  · rintro ⟨out1, i1⟩ _
    refine TC.seq ?_
    refine TC.seq ?_
    refine TC.region ?_
    refine TL.move rfl rfl (v := .int .i64 i1) rfl ?_
    refine TL.move rfl rfl (v := SV.v s1) rfl ?_
    refine TL.len (Rd.old h1) Try.underlying22 rfl rfl rfl ?_
    refine TL.bin .i64 i1 (a_1.length : Int) rfl rfl rfl rfl (v := .bool (decide (i1 < (a_1.length : Int)))) rfl ?_
    refine TL.done ?_
    refine TC.cond (b := (decide (i1 < (a_1.length : Int)))) rfl (fun c1 => ?_) (fun c2 => ?_)
    · refine TC.skip ?_
      refine TC.seq ?_
      refine TC.block (NoEx.loop1 rfl) ?_
      refine TC.region ?_
      refine TL.move rfl rfl (v := SV.v s2) rfl ?_
      refine TL.move rfl rfl (v := .int .i64 i1) rfl ?_
      refine TL.move rfl rfl (v := SV.v s1) rfl ?_
      refine TL.move rfl rfl (v := .int .i64 i1) rfl ?_
      refine TL.chk fun h4 => ?_
      refine TL.ixs i1 i1.toNat (Rd.old h1) h4 Try.underlying22 Try.sizeOf2 rfl rfl rfl rfl (by omega) ?_
      refine TL.loadE (Rd.old h1) Try.isAgg2 i1.toNat 0 (gt_spec h4) (v := .int .i64 (gt a_1 i1)) rfl (by simp only [show Ei.sz = 1 from rfl] <;> omega) rfl rfl rfl ?_
      refine TL.chk fun h5 => ?_
      refine TL.ixs i1 i1.toNat (Rd.row 0 rfl) h5 Try.underlying22 Try.sizeOf2 rfl rfl rfl rfl (by omega) ?_
      refine TL.stE 0 (i1.toNat) (gt a_1 i1) (v := .int .i64 (gt a_1 i1)) rfl Try.sizeOf2 rfl rfl rfl (by have h_ := h5; omega) (by simp only [show Ei.sz = 1 from rfl] <;> omega) rfl rfl rfl ?_
      refine TL.done ?_
      refine TC.region ?_
      refine TL.move rfl rfl (v := .int .i64 i1) rfl ?_
      refine TL.bin .i64 i1 1 rfl rfl rfl rfl (v := .int .i64 (w64 (i1 + 1))) rfl ?_
      refine TL.assign rfl rfl (v := .int .i64 (w64 (i1 + 1))) rfl ?_
      refine TL.done ?_
      exact TC.next1 (((out1.set i1.toNat (gt a_1 i1)), (w64 (i1 + 1)))) (()) ⟨rfl, rfl, rfl, trivial⟩ [0] rfl
    · exact TC.brk1 ((out1, i1)) (()) ⟨rfl, rfl, rfl, trivial⟩ [0] rfl
  · rintro ⟨out1, i1⟩ _
    refine TC.seq ?_
    refine TC.region ?_
    refine TL.move rfl rfl (v := SV.v s2) rfl ?_
    refine TL.assign rfl rfl (v := SV.v s2) rfl ?_
    refine TL.done ?_
    exact TC.retF (Fin.body (fin1 (.inr rfl) rfl (.tmp rfl) [0] rfl ⟨s2, rfl, rfl⟩))

end Go.Proofs.Ytiiljfpbcanphaa.G

/- laws.eqInt64S, as a pure function. -/
set_option linter.unusedVariables false
namespace Go.Proofs.Ytiiljfpbcanphaa.G
open Go Go.Sx Go.Proofs

def laws_eqInt64S.b0 (a_1 : List Int) (b_1 : List Int) : Int → Option (LR Int Bool) := fun i1 => (bif (decide (i1 < (a_1.length : Int))) then chk i1 a_1.length (chk i1 b_1.length ((bif ((gt a_1 i1) != (gt b_1 i1)) then some (.ret (false)) else some (.next (w64 (i1 + 1)))))) else some (.brk i1))

def laws_eqInt64S.f (a_1 : List Int) (b_1 : List Int) : Option Bool := (bif ((a_1.length : Int) != (b_1.length : Int)) then some false else (loop (laws_eqInt64S.b0 a_1 b_1) 0).bind (ln (fun i1 => some true)))

def laws_eqInt64S.R (r : Bool) (v : Value) (L : List Asn) : Prop := v = .bool r ∧ L = []

set_option maxRecDepth 100000 in
set_option maxHeartbeats 4000000 in
theorem laws_eqInt64S.calls (w : World) (s1 : SV) (a_1 : List Int) (s2 : SV) (b_1 : List Int) (h1 : Reads Ei (hp w) s1 a_1) (h2 : Reads Ei (hp w) s2 b_1) :
    ∀ r, laws_eqInt64S.f a_1 b_1 = some r → Calls Try.prog 15 #[SV.v s1, SV.v s2] w (Ret w (laws_eqInt64S.R r)) := by

  refine calls_T (n := 26) (Γ := [(0, SV.v s1), (1, SV.v s2)]) (R := laws_eqInt64S.R) Try.func15 rfl rfl (Nat.le_of_ble_eq_true rfl) ⟨rfl, rfl, trivial⟩ ?_
  unfold laws_eqInt64S.f
  refine TC.seq ?_
  refine TC.region ?_
  refine TL.assign rfl rfl (v := .bool false) rfl ?_
  refine TL.done ?_
  refine TC.seq ?_
  refine TC.seq ?_
  refine TC.region ?_
  refine TL.move rfl rfl (v := SV.v s1) rfl ?_
  refine TL.len (Rd.old h1) Try.underlying22 rfl rfl rfl ?_
  refine TL.move rfl rfl (v := SV.v s2) rfl ?_
  refine TL.len (Rd.old h2) Try.underlying22 rfl rfl rfl ?_
  refine TL.bin .i64 (a_1.length : Int) (b_1.length : Int) rfl rfl rfl rfl (v := .bool ((a_1.length : Int) != (b_1.length : Int))) rfl ?_
  refine TL.done ?_
  refine TC.cond (b := ((a_1.length : Int) != (b_1.length : Int))) rfl (fun c1 => ?_) (fun c2 => ?_)
  · refine TC.seq ?_
    refine TC.region ?_
    refine TL.assign rfl rfl (v := .bool false) rfl ?_
    refine TL.done ?_
    exact TC.retF (Fin.body (fin1 (.inr rfl) rfl (.tmp rfl) [] rfl ⟨rfl, rfl⟩))
  · refine TC.skip ?_
    refine TC.seq ?_
    refine TC.seq ?_
    refine TC.region ?_
    refine TL.assign rfl rfl (v := .int .i64 0) rfl ?_
    refine TL.done ?_
    refine TC.loopK (σ := Int) (γ := Unit) (Γ' := (fun i1 _ => [(0, SV.v s1), (1, SV.v s2), (5, .int .i64 i1)])) (L' := (fun i1 _ => [])) (Γb := (fun i1 _ => [(0, SV.v s1), (1, SV.v s2), (5, .int .i64 i1)])) (Lb := (fun i1 _ => [])) (0) (()) ⟨rfl, rfl, rfl, trivial⟩ [] rfl ?_ ?_
    · rintro i1 _
      refine TC.seq ?_
      refine TC.seq ?_
      refine TC.region ?_
      refine TL.move rfl rfl (v := .int .i64 i1) rfl ?_
      refine TL.move rfl rfl (v := SV.v s1) rfl ?_
      refine TL.len (Rd.old h1) Try.underlying22 rfl rfl rfl ?_
      refine TL.bin .i64 i1 (a_1.length : Int) rfl rfl rfl rfl (v := .bool (decide (i1 < (a_1.length : Int)))) rfl ?_
      refine TL.done ?_
      refine TC.cond (b := (decide (i1 < (a_1.length : Int)))) rfl (fun c3 => ?_) (fun c4 => ?_)
      · refine TC.skip ?_
        refine TC.seq ?_
        refine TC.block (NoEx.loop rfl NoEx.body) ?_
        refine TC.seq ?_
        refine TC.wk (Γ' := [(0, SV.v s1), (1, SV.v s2), (5, .int .i64 i1), (11, .int .i64 i1), (12, SV.v s1), (13, .int .i64 (a_1.length : Int)), (14, .bool (decide (i1 < (a_1.length : Int))))]) ⟨rfl, rfl, rfl, rfl, rfl, rfl, rfl, trivial⟩ ?_
        refine TC.chk fun h3 => ?_
        refine TC.chk fun h4 => ?_
        refine TC.draw [SV.v s1, .int .i64 i1, ep s1 i1.toNat, .int .i64 (gt a_1 i1), SV.v s2, .int .i64 i1, ep s2 i1.toNat, .int .i64 (gt b_1 i1), .bool ((gt a_1 i1) != (gt b_1 i1))] 9 [] (by kernel_rfl) rfl rfl rfl rfl ?_ ?_
        · refine ⟨?_, ?_, ?_, ?_, ?_, ?_, ?_, ?_, ?_, trivial⟩
          · refine TL.move rfl rfl (v := SV.v s1) rfl ?_
            refine TL.done ?_
            exact TC.nrm () () ⟨rfl, trivial⟩ [] (by kernel_rfl)
          · refine TL.move rfl rfl (v := .int .i64 i1) rfl ?_
            refine TL.done ?_
            exact TC.nrm () () ⟨rfl, trivial⟩ [] (by kernel_rfl)
          · refine TL.ixs i1 i1.toNat (Rd.old h1) h3 Try.underlying22 Try.sizeOf2 rfl rfl rfl rfl (by omega) ?_
            refine TL.done ?_
            exact TC.nrm () () ⟨rfl, trivial⟩ [] (by kernel_rfl)
          · refine TL.loadE (Rd.old h1) Try.isAgg2 i1.toNat 0 (gt_spec h3) (v := .int .i64 (gt a_1 i1)) rfl (by simp only [show Ei.sz = 1 from rfl] <;> omega) rfl rfl rfl ?_
            refine TL.done ?_
            exact TC.nrm () () ⟨rfl, trivial⟩ [] (by kernel_rfl)
          · refine TL.move rfl rfl (v := SV.v s2) rfl ?_
            refine TL.done ?_
            exact TC.nrm () () ⟨rfl, trivial⟩ [] (by kernel_rfl)
          · refine TL.move rfl rfl (v := .int .i64 i1) rfl ?_
            refine TL.done ?_
            exact TC.nrm () () ⟨rfl, trivial⟩ [] (by kernel_rfl)
          · refine TL.ixs i1 i1.toNat (Rd.old h2) h4 Try.underlying22 Try.sizeOf2 rfl rfl rfl rfl (by omega) ?_
            refine TL.done ?_
            exact TC.nrm () () ⟨rfl, trivial⟩ [] (by kernel_rfl)
          · refine TL.loadE (Rd.old h2) Try.isAgg2 i1.toNat 0 (gt_spec h4) (v := .int .i64 (gt b_1 i1)) rfl (by simp only [show Ei.sz = 1 from rfl] <;> omega) rfl rfl rfl ?_
            refine TL.done ?_
            exact TC.nrm () () ⟨rfl, trivial⟩ [] (by kernel_rfl)
          · refine TL.bin .i64 (gt a_1 i1) (gt b_1 i1) rfl rfl rfl rfl (v := .bool ((gt a_1 i1) != (gt b_1 i1))) rfl ?_
            refine TL.done ?_
            exact TC.nrm () () ⟨rfl, trivial⟩ [] (by kernel_rfl)
        · refine TC.cond (b := ((gt a_1 i1) != (gt b_1 i1))) rfl (fun c5 => ?_) (fun c6 => ?_)
          · refine TC.seq ?_
            refine TC.region ?_
            refine TL.assign rfl rfl (v := .bool false) rfl ?_
            refine TL.done ?_
            exact TC.retF (Fin.loop Far.ret (Fin.body (fin1 (.inr rfl) rfl (.tmp rfl) [] rfl ⟨rfl, rfl⟩)))
          · refine TC.skip ?_
            refine TC.region ?_
            refine TL.move rfl rfl (v := .int .i64 i1) rfl ?_
            refine TL.bin .i64 i1 1 rfl rfl rfl rfl (v := .int .i64 (w64 (i1 + 1))) rfl ?_
            refine TL.assign rfl rfl (v := .int .i64 (w64 (i1 + 1))) rfl ?_
            refine TL.done ?_
            exact TC.next ((w64 (i1 + 1))) (()) ⟨rfl, rfl, rfl, trivial⟩ [] rfl
      · exact TC.brk (i1) (()) ⟨rfl, rfl, rfl, trivial⟩ [] rfl
    · rintro i1 _
      refine TC.seq ?_
      refine TC.region ?_
      refine TL.assign rfl rfl (v := .bool true) rfl ?_
      refine TL.done ?_
      exact TC.retF (Fin.body (fin1 (.inr rfl) rfl (.tmp rfl) [] rfl ⟨rfl, rfl⟩))

end Go.Proofs.Ytiiljfpbcanphaa.G

/- laws.markInt64S, as a pure function. -/
set_option linter.unusedVariables false
namespace Go.Proofs.Ytiiljfpbcanphaa.G
open Go Go.Sx Go.Proofs

def laws_markInt64S.b0 : (List Int) × Int × Int → Option (LB ((List Int) × Int × Int)) := fun p => match p with | (a_2, k_2, i1) => (bif (decide (i1 < (a_2.length : Int))) then chk i1 a_2.length (some (.next ((a_2.set i1.toNat k_2), (w64 (k_2 + 1)), (w64 (i1 + 1))))) else some (.brk (a_2, k_2, i1)))

def laws_markInt64S.f (a_1 : List Int) (k_1 : Int) : Option (Int × (List Int)) := (loop1 (laws_markInt64S.b0) (a_1, k_1, 0)).bind (fun p => match p with | (a_2, k_2, i1) => some (k_2, a_2))

def laws_markInt64S.R (s1 : SV) (r : Int × (List Int)) (v : Value) (L : List Asn) : Prop := v = .int .i64 r.1 ∧ L = [row Ei 2 s1 r.2]

set_option maxRecDepth 100000 in
set_option maxHeartbeats 4000000 in
theorem laws_markInt64S.calls (w0 : World) (I : Hp) (w : World) (s1 : SV) (a_1 : List Int) (k_1 : Int) (hS : St w0 I [row Ei 2 s1 a_1] w) :
    ∀ r, laws_markInt64S.f a_1 k_1 = some r → Calls Try.prog 18 #[SV.v s1, .int .i64 k_1] w (RetM w0 I ((laws_markInt64S.R s1) r)) := by

  refine calls_TM (w0 := w0) (I := I) (L := [row Ei 2 s1 a_1]) (n := 19) (Γ := [(0, SV.v s1), (1, .int .i64 k_1)]) (R := (laws_markInt64S.R s1)) Try.func18 rfl rfl (Nat.le_of_ble_eq_true rfl) ⟨rfl, rfl, trivial⟩ ?_ w hS
  unfold laws_markInt64S.f
  refine TC.seq ?_
  refine TC.region ?_
  refine TL.assign rfl rfl (v := .int .i64 0) rfl ?_
  refine TL.done ?_
  refine TC.seq ?_
  refine TC.seq ?_
  refine TC.region ?_
  refine TL.assign rfl rfl (v := .int .i64 0) rfl ?_
  refine TL.done ?_
  refine TC.loop1 (σ := (List Int) × Int × Int) (γ := Unit) (Γ' := (fun p q => match p, q with | (a_2, k_2, i1), _ => [(0, SV.v s1), (1, .int .i64 k_2), (5, .int .i64 i1)])) (L' := (fun p q => match p, q with | (a_2, k_2, i1), _ => [row Ei 2 s1 a_2])) (Γb := (fun p q => match p, q with | (a_2, k_2, i1), _ => [(0, SV.v s1), (1, .int .i64 k_2), (5, .int .i64 i1)])) (Lb := (fun p q => match p, q with | (a_2, k_2, i1), _ => [row Ei 2 s1 a_2])) ((a_1, k_1, 0)) (()) ⟨rfl, rfl, rfl, trivial⟩ [0] rfl ?_ ?_
  · rintro ⟨a_2, k_2, i1⟩ _
    refine TC.seq ?_
    refine TC.seq ?_
    refine TC.region ?_
    refine TL.move rfl rfl (v := .int .i64 i1) rfl ?_
    refine TL.move rfl rfl (v := SV.v s1) rfl ?_
    refine TL.len (Rd.row 0 rfl) Try.underlying22 rfl rfl rfl ?_
    refine TL.bin .i64 i1 (a_2.length : Int) rfl rfl rfl rfl (v := .bool (decide (i1 < (a_2.length : Int)))) rfl ?_
    refine TL.done ?_
    refine TC.cond (b := (decide (i1 < (a_2.length : Int)))) rfl (fun c1 => ?_) (fun c2 => ?_)
    · refine TC.skip ?_
      refine TC.seq ?_
      refine TC.block (NoEx.loop1 rfl) ?_
      refine TC.seq ?_
      refine TC.region ?_
      refine TL.move rfl rfl (v := SV.v s1) rfl ?_
      refine TL.move rfl rfl (v := .int .i64 i1) rfl ?_
      refine TL.move rfl rfl (v := .int .i64 k_2) rfl ?_
      refine TL.chk fun h1 => ?_
      refine TL.ixs i1 i1.toNat (Rd.row 0 rfl) h1 Try.underlying22 Try.sizeOf2 rfl rfl rfl rfl (by omega) ?_
      refine TL.stE 0 (i1.toNat) k_2 (v := .int .i64 k_2) rfl Try.sizeOf2 rfl rfl rfl (by have h_ := h1; omega) (by simp only [show Ei.sz = 1 from rfl] <;> omega) rfl rfl rfl ?_
      refine TL.done ?_
      refine TC.region ?_
      refine TL.move rfl rfl (v := .int .i64 k_2) rfl ?_
      refine TL.bin .i64 k_2 1 rfl rfl rfl rfl (v := .int .i64 (w64 (k_2 + 1))) rfl ?_
      refine TL.assign rfl rfl (v := .int .i64 (w64 (k_2 + 1))) rfl ?_
      refine TL.done ?_
      refine TC.region ?_
      refine TL.move rfl rfl (v := .int .i64 i1) rfl ?_
      refine TL.bin .i64 i1 1 rfl rfl rfl rfl (v := .int .i64 (w64 (i1 + 1))) rfl ?_
      refine TL.assign rfl rfl (v := .int .i64 (w64 (i1 + 1))) rfl ?_
      refine TL.done ?_
      exact TC.next1 (((a_2.set i1.toNat k_2), (w64 (k_2 + 1)), (w64 (i1 + 1)))) (()) ⟨rfl, rfl, rfl, trivial⟩ [0] rfl
    · exact TC.brk1 ((a_2, k_2, i1)) (()) ⟨rfl, rfl, rfl, trivial⟩ [0] rfl
  · rintro ⟨a_2, k_2, i1⟩ _
    refine TC.seq ?_
    refine TC.region ?_
    refine TL.move rfl rfl (v := .int .i64 k_2) rfl ?_
    refine TL.assign rfl rfl (v := .int .i64 k_2) rfl ?_
    refine TL.done ?_
    exact TC.retF (Fin.body (fin1 (.inr rfl) rfl (.tmp rfl) [0] rfl ⟨rfl, rfl⟩))

end Go.Proofs.Ytiiljfpbcanphaa.G

/- spec.l01In, as a pure function. -/
set_option linter.unusedVariables false
namespace Go.Proofs.Ytiiljfpbcanphaa.G
open Go Go.Sx Go.Proofs

def spec_l01In.f (n_1 : Int) (low1 : Int) (high1 : Int) : Option Bool := some ((decide (n_1 ≥ low1)) && (decide (n_1 ≤ high1)))

def spec_l01In.R (r : Bool) (v : Value) (L : List Asn) : Prop := v = .bool r ∧ L = []

set_option maxRecDepth 100000 in
set_option maxHeartbeats 4000000 in
theorem spec_l01In.calls (w : World) (n_1 : Int) (low1 : Int) (high1 : Int) :
    ∀ r, spec_l01In.f n_1 low1 high1 = some r → Calls Try.prog 69 #[.int .i64 n_1, .int .i64 low1, .int .i64 high1] w (Ret w (spec_l01In.R r)) := by

  refine calls_T (n := 15) (Γ := [(0, .int .i64 n_1), (1, .int .i64 low1), (2, .int .i64 high1)]) (R := spec_l01In.R) Try.func69 rfl rfl (Nat.le_of_ble_eq_true rfl) ⟨rfl, rfl, rfl, trivial⟩ ?_
  unfold spec_l01In.f
  refine TC.seq ?_
  refine TC.region ?_
  refine TL.assign rfl rfl (v := .bool false) rfl ?_
  refine TL.done ?_
  refine TC.seq ?_
  refine TC.region ?_
  refine TL.move rfl rfl (v := .int .i64 n_1) rfl ?_
  refine TL.move rfl rfl (v := .int .i64 low1) rfl ?_
  refine TL.bin .i64 n_1 low1 rfl rfl rfl rfl (v := .bool (decide (n_1 ≥ low1))) rfl ?_
  refine TL.move rfl rfl (v := .bool (decide (n_1 ≥ low1))) rfl ?_
  refine TL.cutU 4 [(14, .bool ((decide (n_1 ≥ low1)) && (decide (n_1 ≤ high1)))), (0, .int .i64 n_1), (1, .int .i64 low1), (2, .int .i64 high1), (6, .bool false), (7, .int .i64 n_1), (8, .int .i64 low1), (9, .bool (decide (n_1 ≥ low1))), (10, .bool (decide (n_1 ≥ low1)))] [] ?_ ?_
  · refine TL.cases (t := 10) (b := (decide (n_1 ≥ low1))) rfl (fun c1 => ?_) (fun c2 => ?_)
    · refine TL.move rfl rfl (v := .int .i64 n_1) rfl ?_
      refine TL.move rfl rfl (v := .int .i64 high1) rfl ?_
      refine TL.bin .i64 n_1 high1 rfl rfl rfl rfl (v := .bool (decide (n_1 ≤ high1))) rfl ?_
      refine TL.pick rfl rfl (b := true) rfl (r := .bool (decide (n_1 ≤ high1))) rfl ?_
      refine TL.done ?_
      exact TC.nrm () () ⟨(by rw [c1]; rfl), rfl, rfl, rfl, rfl, rfl, rfl, rfl, (by rw [c1]; rfl), trivial⟩ [] (by kernel_rfl)
    · refine TL.skip rfl rfl (by decide) ?_
      refine TL.skip rfl rfl (by decide) ?_
      refine TL.skip rfl rfl (by decide) ?_
      refine TL.pick rfl rfl (b := false) rfl (r := .bool false) rfl ?_
      refine TL.done ?_
      exact TC.nrm () () ⟨(by rw [c2]; rfl), rfl, rfl, rfl, rfl, rfl, rfl, rfl, (by rw [c2]; rfl), trivial⟩ [] (by kernel_rfl)
  · refine TL.assign rfl rfl (v := .bool ((decide (n_1 ≥ low1)) && (decide (n_1 ≤ high1)))) rfl ?_
    refine TL.done ?_
    exact TC.retF (Fin.body (fin1 (.inr rfl) rfl (.tmp rfl) [] rfl ⟨rfl, rfl⟩))

end Go.Proofs.Ytiiljfpbcanphaa.G

/- spec.l09Stairs, as a pure function. -/
set_option linter.unusedVariables false
namespace Go.Proofs.Ytiiljfpbcanphaa.G
open Go Go.Sx Go.Proofs

def spec_l09Stairs.b0 (list_1 : List Int) : Int × Int → Option (LR (Int × Int) Bool) := fun p => match p with | (sum1, i1) => (bif (decide (i1 < (list_1.length : Int))) then chk i1 list_1.length ((G.spec_l01In.f (gt list_1 i1) 1 6).bind (fun r_1 => (bif (!r_1) then some (.ret (false)) else (bif (decide (i1 > 0)) then chk (w64 (i1 - 1)) list_1.length ((bif (decide ((gt list_1 i1) > (gt list_1 (w64 (i1 - 1))))) then some (.ret (false)) else some (.next ((w64 (sum1 + (gt list_1 i1))), (w64 (i1 + 1)))))) else some (.next ((w64 (sum1 + (gt list_1 i1))), (w64 (i1 + 1)))))))) else some (.brk (sum1, i1)))

def spec_l09Stairs.f (list_1 : List Int) : Option Bool := (loop (spec_l09Stairs.b0 list_1) (0, 0)).bind (ln (fun p => match p with | (sum1, i1) => (G.spec_l01In.f sum1 1 6).bind (fun r_6 => some r_6)))

def spec_l09Stairs.R (r : Bool) (v : Value) (L : List Asn) : Prop := v = .bool r ∧ L = []

set_option maxRecDepth 100000 in
set_option maxHeartbeats 4000000 in
theorem spec_l09Stairs.calls (w : World) (s1 : SV) (list_1 : List Int) (h1 : Reads Ei (hp w) s1 list_1) :
    ∀ r, spec_l09Stairs.f list_1 = some r → Calls Try.prog 79 #[SV.v s1] w (Ret w (spec_l09Stairs.R r)) := by

  refine calls_T (n := 41) (Γ := [(0, SV.v s1)]) (R := spec_l09Stairs.R) Try.func79 rfl rfl (Nat.le_of_ble_eq_true rfl) ⟨rfl, trivial⟩ ?_
  unfold spec_l09Stairs.f
  refine TC.seq ?_
  refine TC.region ?_
  refine TL.assign rfl rfl (v := .bool false) rfl ?_
  refine TL.done ?_
  refine TC.seq ?_
  refine TC.region ?_
  refine TL.assign rfl rfl (v := .int .i64 0) rfl ?_
  refine TL.done ?_
  refine TC.seq ?_
  refine TC.seq ?_
  refine TC.region ?_
  refine TL.assign rfl rfl (v := .int .i64 0) rfl ?_
  refine TL.done ?_
  refine TC.loopK (σ := Int × Int) (γ := Unit) (Γ' := (fun p q => match p, q with | (sum1, i1), _ => [(0, SV.v s1), (3, .int .i64 sum1), (4, .int .i64 i1)])) (L' := (fun p q => match p, q with | (sum1, i1), _ => [])) (Γb := (fun p q => match p, q with | (sum1, i1), _ => [(0, SV.v s1), (3, .int .i64 sum1), (4, .int .i64 i1)])) (Lb := (fun p q => match p, q with | (sum1, i1), _ => [])) ((0, 0)) (()) ⟨rfl, rfl, rfl, trivial⟩ [] rfl ?_ ?_
  · rintro ⟨sum1, i1⟩ _
    refine TC.seq ?_
    refine TC.seq ?_
    refine TC.region ?_
    refine TL.move rfl rfl (v := .int .i64 i1) rfl ?_
    refine TL.move rfl rfl (v := SV.v s1) rfl ?_
    refine TL.len (Rd.old h1) Try.underlying22 rfl rfl rfl ?_
    refine TL.bin .i64 i1 (list_1.length : Int) rfl rfl rfl rfl (v := .bool (decide (i1 < (list_1.length : Int)))) rfl ?_
    refine TL.done ?_
    refine TC.cond (b := (decide (i1 < (list_1.length : Int)))) rfl (fun c1 => ?_) (fun c2 => ?_)
    · refine TC.skip ?_
      refine TC.seq ?_
      refine TC.block (NoEx.loop rfl NoEx.body) ?_
      refine TC.seq ?_
      refine TC.seq ?_
      refine TC.chk fun h2 => ?_
      refine TC.bindE ?_
      rintro r_1 hr1
      refine TC.ifB (!r_1) (fun c3 => ?_) (fun c3 => ?_)
      · refine TC.wk (Γ' := [(0, SV.v s1), (3, .int .i64 sum1), (4, .int .i64 i1), (5, .int .i64 i1), (6, SV.v s1), (7, .int .i64 (list_1.length : Int)), (8, .bool (decide (i1 < (list_1.length : Int))))]) ⟨rfl, rfl, rfl, rfl, rfl, rfl, rfl, trivial⟩ ?_
        refine TC.drawG [(0, SV.v s1), (3, .int .i64 sum1), (4, .int .i64 i1), (5, .int .i64 i1), (6, SV.v s1), (7, .int .i64 (list_1.length : Int)), (8, .bool (decide (i1 < (list_1.length : Int))))] [] ⟨rfl, rfl, rfl, rfl, rfl, rfl, rfl, trivial⟩ trivial (fun l_ g2 => []) (fun g2 => [SV.v s1, .int .i64 i1, ep s1 i1.toNat, .int .i64 (gt list_1 i1), .bool r_1, .bool true, .bool true, undef, undef, undef, undef, undef, undef, undef, undef, undef, undef, undef, undef, undef, undef, .bool true]) [[], [], [0, 1], [0, 1, 2], [0, 1, 2, 3], [0, 1, 2, 3, 4], [0, 1, 2, 3, 4, 5], [0, 1, 2, 3, 4, 5, 6], [0, 1, 2, 3, 4, 5, 6, 7], [0, 1, 2, 3, 4, 5, 6, 7, 8], [0, 1, 2, 3, 4, 5, 6, 7, 8, 9], [0, 1, 2, 3, 4, 5, 6, 7, 8, 9], [0, 1, 2, 3, 4, 5, 6, 7, 8, 9, 10, 11], [0, 1, 2, 3, 4, 5, 6, 7, 8, 9, 10, 11, 12], [0, 1, 2, 3, 4, 5, 6, 7, 8, 9], [0, 1, 2, 3, 4, 5, 6, 7, 8, 9], [0, 1, 2, 3, 4, 5, 6, 7, 8, 9, 15], [0, 1, 2, 3, 4, 5, 6, 7, 8, 9, 14, 15, 16], [0, 1, 2, 3, 4, 5, 6, 7, 8, 9, 14, 15, 16, 17], [0, 1, 2, 3, 4, 5, 6, 7, 8, 9, 10, 11, 12, 13, 14, 15, 16, 17, 18], [0, 1, 2, 3, 4, 5, 6, 7, 8, 9, 10, 11, 12, 13, 14, 15, 16, 17, 18, 19], [0, 1, 2, 3, 4, 5, 6, 7, 8, 9, 10, 11, 12, 13, 14, 15, 16, 17, 18, 19, 20]] [[some false, none, some false, some false, some false, some false, some false, some false, some false, some false, some false, some false, some false, some false, some false, some false, some false, some false, some false, some false, some false, some false], [none, some false, some false, some false, some false, some false, some false, some false, some false, some false, some false, some false, some false, some false, some false, some false, some false, some false, some false, some false, some false, some false], [some true, some true, some false, some false, some false, some false, some false, some false, some false, some false, some false, some false, some false, some false, some false, some false, some false, some false, some false, some false, some false, some false], [some true, some true, some true, some false, some false, some false, some false, some false, some false, some false, some false, some false, some false, some false, some false, some false, some false, some false, some false, some false, some false, some false], [some true, some true, some true, some true, some false, some false, some false, some false, some false, some false, some false, some false, some false, some false, some false, some false, some false, some false, some false, some false, some false, some false], [some true, some true, some true, some true, some true, some false, some false, some false, some false, some false, some false, some false, some false, some false, some false, some false, some false, some false, some false, some false, some false, some false], [some true, some true, some true, some true, some true, some true, some false, some false, some false, some false, some false, some false, some false, some false, some false, some false, some false, some false, some false, some false, some false, some false], [some true, some true, some true, some true, some true, some true, some true, some false, some false, some false, some false, some false, some false, some false, some false, some false, some false, some false, some false, some false, some false, some false], [some true, some true, some true, some true, some true, some true, some true, some true, some false, some false, some false, some false, some false, some false, some false, some false, some false, some false, some false, some false, some false, some false], [some true, some true, some true, some true, some true, some true, some true, some true, some true, some false, some false, some false, some false, some false, some false, some false, some false, some false, some false, some false, some false, some false], [some true, some true, some true, some true, some true, some true, some true, some true, some true, some true, some false, none, some false, some false, none, none, none, none, none, some false, some false, some false], [some true, some true, some true, some true, some true, some true, some true, some true, some true, some true, none, some false, some false, some false, none, none, none, none, none, some false, some false, some false], [some true, some true, some true, some true, some true, some true, some true, some true, some true, some true, some true, some true, some false, some false, none, none, none, none, none, some false, some false, some false], [some true, some true, some true, some true, some true, some true, some true, some true, some true, some true, some true, some true, some true, some false, none, none, none, none, none, some false, some false, some false], [some true, some true, some true, some true, some true, some true, some true, some true, some true, some true, none, none, none, none, some false, none, none, some false, some false, some false, some false, some false], [some true, some true, some true, some true, some true, some true, some true, some true, some true, some true, none, none, none, none, none, some false, some false, some false, some false, some false, some false, some false], [some true, some true, some true, some true, some true, some true, some true, some true, some true, some true, none, none, none, none, none, some true, some false, some false, some false, some false, some false, some false], [some true, some true, some true, some true, some true, some true, some true, some true, some true, some true, none, none, none, none, some true, some true, some true, some false, some false, some false, some false, some false], [some true, some true, some true, some true, some true, some true, some true, some true, some true, some true, none, none, none, none, some true, some true, some true, some true, some false, some false, some false, some false], [some true, some true, some true, some true, some true, some true, some true, some true, some true, some true, some true, some true, some true, some true, some true, some true, some true, some true, some true, some false, some false, some false], [some true, some true, some true, some true, some true, some true, some true, some true, some true, some true, some true, some true, some true, some true, some true, some true, some true, some true, some true, some true, some false, some false], [some true, some true, some true, some true, some true, some true, some true, some true, some true, some true, some true, some true, some true, some true, some true, some true, some true, some true, some true, some true, some true, some false]] (by kernel_rfl) (fun _ => rfl) rfl rfl rfl rfl rfl (fun _ _ => ⟨⟨⟨⟨⟨⟨⟨⟨⟨⟨⟨⟨⟨⟨⟨⟨⟨⟨⟨⟨⟨⟨trivial, rfl⟩, rfl⟩, rfl⟩, rfl⟩, rfl⟩, rfl⟩, rfl⟩, rfl⟩, rfl⟩, rfl⟩, rfl⟩, rfl⟩, rfl⟩, rfl⟩, rfl⟩, rfl⟩, rfl⟩, rfl⟩, rfl⟩, rfl⟩, rfl⟩, rfl⟩) 0 [] (fun _ => by kernel_rfl) ?_ ?_
        · refine ⟨rfl, ?_, rfl, ?_, rfl, ?_, rfl, ?_, rfl, ?_, rfl, ?_, rfl, ?_, rfl, ?_, rfl, ?_, rfl, ?_, rfl, ?_, rfl, ?_, rfl, ?_, rfl, ?_, rfl, ?_, rfl, ?_, rfl, ?_, rfl, ?_, rfl, ?_, rfl, ?_, rfl, ?_, rfl, ?_, trivial⟩
          · intro b1_ g2
            refine TL.move rfl rfl (v := SV.v s1) rfl ?_
            refine TL.done ?_
            exact TC.nrm () [] ⟨rfl, trivial⟩ [] (by kernel_rfl)
          · intro b0_ g2
            refine TL.move rfl rfl (v := .int .i64 i1) rfl ?_
            refine TL.done ?_
            exact TC.nrm () [] ⟨rfl, trivial⟩ [] (by kernel_rfl)
          · intro g2
            refine TL.asL [] (by kernel_rfl) ?_
            refine TL.ixs i1 i1.toNat (Rd.old h1) h2 Try.underlying22 Try.sizeOf2 rfl rfl rfl rfl (by omega) ?_
            refine TL.done ?_
            exact TC.nrm () [] ⟨rfl, trivial⟩ [] (by kernel_rfl)
          · intro g2
            refine TL.asL [] (by kernel_rfl) ?_
            refine TL.loadE (Rd.old h1) Try.isAgg2 i1.toNat 0 (gt_spec h2) (v := .int .i64 (gt list_1 i1)) rfl (by simp only [show Ei.sz = 1 from rfl] <;> omega) rfl rfl rfl ?_
            refine TL.done ?_
            exact TC.nrm () [] ⟨rfl, trivial⟩ [] (by kernel_rfl)
          · intro g2
            refine TL.asL [] (by kernel_rfl) ?_
            refine TL.callH (R := G.spec_l01In.R) hr1 Try.call69 rfl rfl rfl (fun w hS => G.spec_l01In.calls w (gt list_1 i1) 1 6) ?_
            rintro _ _ ⟨rfl, rfl⟩
            refine TL.done ?_
            exact TC.nrm () [] ⟨rfl, trivial⟩ [] (by kernel_rfl)
          · intro g2
            refine TL.not r_1 rfl rfl rfl ?_
            refine TL.done ?_
            exact TC.nrm () [] ⟨(by rw [c3]; rfl), trivial⟩ [] (by kernel_rfl)
          · intro g2
            refine TL.move rfl rfl (v := .bool true) rfl ?_
            refine TL.done ?_
            exact TC.nrm () [] ⟨rfl, trivial⟩ [] (by kernel_rfl)
          · intro g2
            refine TL.skip rfl rfl (by decide) ?_
            refine TL.done ?_
            exact TC.nrm () [] ⟨rfl, trivial⟩ [] (by kernel_rfl)
          · intro g2
            refine TL.skip rfl rfl (by decide) ?_
            refine TL.done ?_
            exact TC.nrm () [] ⟨rfl, trivial⟩ [] (by kernel_rfl)
          · intro g2
            refine TL.skip rfl rfl (by decide) ?_
            refine TL.done ?_
            exact TC.nrm () [] ⟨rfl, trivial⟩ [] (by kernel_rfl)
          · intro b11_ b14_ b15_ b16_ b17_ b18_ g2
            refine TL.skip rfl rfl (by decide) ?_
            refine TL.done ?_
            exact TC.nrm () [] ⟨rfl, trivial⟩ [] (by kernel_rfl)
          · intro b10_ b14_ b15_ b16_ b17_ b18_ g2
            refine TL.skip rfl rfl (by decide) ?_
            refine TL.done ?_
            exact TC.nrm () [] ⟨rfl, trivial⟩ [] (by kernel_rfl)
          · intro b14_ b15_ b16_ b17_ b18_ g2
            refine TL.asL [] (by kernel_rfl) ?_
            refine TL.skip rfl rfl (by decide) ?_
            refine TL.done ?_
            exact TC.nrm () [] ⟨rfl, trivial⟩ [] (by kernel_rfl)
          · intro b14_ b15_ b16_ b17_ b18_ g2
            refine TL.asL [] (by kernel_rfl) ?_
            refine TL.skip rfl rfl (by decide) ?_
            refine TL.done ?_
            exact TC.nrm () [] ⟨rfl, trivial⟩ [] (by kernel_rfl)
          · intro b10_ b11_ b12_ b13_ b15_ b16_ g2
            refine TL.skip rfl rfl (by decide) ?_
            refine TL.done ?_
            exact TC.nrm () [] ⟨rfl, trivial⟩ [] (by kernel_rfl)
          · intro b10_ b11_ b12_ b13_ b14_ g2
            refine TL.skip rfl rfl (by decide) ?_
            refine TL.done ?_
            exact TC.nrm () [] ⟨rfl, trivial⟩ [] (by kernel_rfl)
          · intro b10_ b11_ b12_ b13_ b14_ g2
            refine TL.skip rfl rfl (by decide) ?_
            refine TL.done ?_
            exact TC.nrm () [] ⟨rfl, trivial⟩ [] (by kernel_rfl)
          · intro b10_ b11_ b12_ b13_ g2
            refine TL.asL [] (by kernel_rfl) ?_
            refine TL.skip rfl rfl (by decide) ?_
            refine TL.done ?_
            exact TC.nrm () [] ⟨rfl, trivial⟩ [] (by kernel_rfl)
          · intro b10_ b11_ b12_ b13_ g2
            refine TL.asL [] (by kernel_rfl) ?_
            refine TL.skip rfl rfl (by decide) ?_
            refine TL.done ?_
            exact TC.nrm () [] ⟨rfl, trivial⟩ [] (by kernel_rfl)
          · intro g2
            refine TL.skip rfl rfl (by decide) ?_
            refine TL.done ?_
            exact TC.nrm () [] ⟨rfl, trivial⟩ [] (by kernel_rfl)
          · intro g2
            refine TL.skip rfl rfl (by decide) ?_
            refine TL.done ?_
            exact TC.nrm () [] ⟨rfl, trivial⟩ [] (by kernel_rfl)
          · intro g2
            refine TL.pick rfl rfl (b := true) rfl (r := .bool true) rfl ?_
            refine TL.done ?_
            exact TC.nrm () [] ⟨rfl, trivial⟩ [] (by kernel_rfl)
        · intro g2
          refine TC.asL [] (by kernel_rfl) ?_
          refine TC.cond_true rfl ?_
          refine TC.seq ?_
          refine TC.region ?_
          refine TL.assign rfl rfl (v := .bool false) rfl ?_
          refine TL.done ?_
          exact TC.retF (Fin.loop Far.ret (Fin.body (fin1 (.inr rfl) rfl (.tmp rfl) [] rfl ⟨rfl, rfl⟩)))
      · refine TC.ifB (decide (i1 > 0)) (fun c4 => ?_) (fun c4 => ?_)
        · refine TC.wk (Γ' := [(0, SV.v s1), (3, .int .i64 sum1), (4, .int .i64 i1), (5, .int .i64 i1), (6, SV.v s1), (7, .int .i64 (list_1.length : Int)), (8, .bool (decide (i1 < (list_1.length : Int))))]) ⟨rfl, rfl, rfl, rfl, rfl, rfl, rfl, trivial⟩ ?_
          refine TC.chk fun h3 => ?_
          refine TC.drawG [(0, SV.v s1), (3, .int .i64 sum1), (4, .int .i64 i1), (5, .int .i64 i1), (6, SV.v s1), (7, .int .i64 (list_1.length : Int)), (8, .bool (decide (i1 < (list_1.length : Int))))] [] ⟨rfl, rfl, rfl, rfl, rfl, rfl, rfl, trivial⟩ trivial (fun l_ g4 => []) (fun g4 => [SV.v s1, .int .i64 i1, ep s1 i1.toNat, .int .i64 (gt list_1 i1), .bool r_1, .bool false, .bool false, .int .i64 i1, .bool true, .bool true, SV.v s1, .int .i64 i1, ep s1 i1.toNat, .int .i64 (gt list_1 i1), SV.v s1, .int .i64 i1, .int .i64 (w64 (i1 - 1)), ep s1 ((w64 (i1 - 1)).toNat), .int .i64 (gt list_1 (w64 (i1 - 1))), .bool (decide ((gt list_1 i1) > (gt list_1 (w64 (i1 - 1))))), .bool (decide ((gt list_1 i1) > (gt list_1 (w64 (i1 - 1))))), .bool (decide ((gt list_1 i1) > (gt list_1 (w64 (i1 - 1)))))]) [[], [], [0, 1], [0, 1, 2], [0, 1, 2, 3], [0, 1, 2, 3, 4], [0, 1, 2, 3, 4, 5], [0, 1, 2, 3, 4, 5, 6], [0, 1, 2, 3, 4, 5, 6, 7], [0, 1, 2, 3, 4, 5, 6, 7, 8], [0, 1, 2, 3, 4, 5, 6, 7, 8, 9], [0, 1, 2, 3, 4, 5, 6, 7, 8, 9], [0, 1, 2, 3, 4, 5, 6, 7, 8, 9, 10, 11], [0, 1, 2, 3, 4, 5, 6, 7, 8, 9, 10, 11, 12], [0, 1, 2, 3, 4, 5, 6, 7, 8, 9], [0, 1, 2, 3, 4, 5, 6, 7, 8, 9], [0, 1, 2, 3, 4, 5, 6, 7, 8, 9, 15], [0, 1, 2, 3, 4, 5, 6, 7, 8, 9, 14, 15, 16], [0, 1, 2, 3, 4, 5, 6, 7, 8, 9, 14, 15, 16, 17], [0, 1, 2, 3, 4, 5, 6, 7, 8, 9, 10, 11, 12, 13, 14, 15, 16, 17, 18], [0, 1, 2, 3, 4, 5, 6, 7, 8, 9, 10, 11, 12, 13, 14, 15, 16, 17, 18, 19], [0, 1, 2, 3, 4, 5, 6, 7, 8, 9, 10, 11, 12, 13, 14, 15, 16, 17, 18, 19, 20]] [[some false, none, some false, some false, some false, some false, some false, some false, some false, some false, some false, some false, some false, some false, some false, some false, some false, some false, some false, some false, some false, some false], [none, some false, some false, some false, some false, some false, some false, some false, some false, some false, some false, some false, some false, some false, some false, some false, some false, some false, some false, some false, some false, some false], [some true, some true, some false, some false, some false, some false, some false, some false, some false, some false, some false, some false, some false, some false, some false, some false, some false, some false, some false, some false, some false, some false], [some true, some true, some true, some false, some false, some false, some false, some false, some false, some false, some false, some false, some false, some false, some false, some false, some false, some false, some false, some false, some false, some false], [some true, some true, some true, some true, some false, some false, some false, some false, some false, some false, some false, some false, some false, some false, some false, some false, some false, some false, some false, some false, some false, some false], [some true, some true, some true, some true, some true, some false, some false, some false, some false, some false, some false, some false, some false, some false, some false, some false, some false, some false, some false, some false, some false, some false], [some true, some true, some true, some true, some true, some true, some false, some false, some false, some false, some false, some false, some false, some false, some false, some false, some false, some false, some false, some false, some false, some false], [some true, some true, some true, some true, some true, some true, some true, some false, some false, some false, some false, some false, some false, some false, some false, some false, some false, some false, some false, some false, some false, some false], [some true, some true, some true, some true, some true, some true, some true, some true, some false, some false, some false, some false, some false, some false, some false, some false, some false, some false, some false, some false, some false, some false], [some true, some true, some true, some true, some true, some true, some true, some true, some true, some false, some false, some false, some false, some false, some false, some false, some false, some false, some false, some false, some false, some false], [some true, some true, some true, some true, some true, some true, some true, some true, some true, some true, some false, none, some false, some false, none, none, none, none, none, some false, some false, some false], [some true, some true, some true, some true, some true, some true, some true, some true, some true, some true, none, some false, some false, some false, none, none, none, none, none, some false, some false, some false], [some true, some true, some true, some true, some true, some true, some true, some true, some true, some true, some true, some true, some false, some false, none, none, none, none, none, some false, some false, some false], [some true, some true, some true, some true, some true, some true, some true, some true, some true, some true, some true, some true, some true, some false, none, none, none, none, none, some false, some false, some false], [some true, some true, some true, some true, some true, some true, some true, some true, some true, some true, none, none, none, none, some false, none, none, some false, some false, some false, some false, some false], [some true, some true, some true, some true, some true, some true, some true, some true, some true, some true, none, none, none, none, none, some false, some false, some false, some false, some false, some false, some false], [some true, some true, some true, some true, some true, some true, some true, some true, some true, some true, none, none, none, none, none, some true, some false, some false, some false, some false, some false, some false], [some true, some true, some true, some true, some true, some true, some true, some true, some true, some true, none, none, none, none, some true, some true, some true, some false, some false, some false, some false, some false], [some true, some true, some true, some true, some true, some true, some true, some true, some true, some true, none, none, none, none, some true, some true, some true, some true, some false, some false, some false, some false], [some true, some true, some true, some true, some true, some true, some true, some true, some true, some true, some true, some true, some true, some true, some true, some true, some true, some true, some true, some false, some false, some false], [some true, some true, some true, some true, some true, some true, some true, some true, some true, some true, some true, some true, some true, some true, some true, some true, some true, some true, some true, some true, some false, some false], [some true, some true, some true, some true, some true, some true, some true, some true, some true, some true, some true, some true, some true, some true, some true, some true, some true, some true, some true, some true, some true, some false]] (by kernel_rfl) (fun _ => rfl) rfl rfl rfl rfl rfl (fun _ _ => ⟨⟨⟨⟨⟨⟨⟨⟨⟨⟨⟨⟨⟨⟨⟨⟨⟨⟨⟨⟨⟨⟨trivial, rfl⟩, rfl⟩, rfl⟩, rfl⟩, rfl⟩, rfl⟩, rfl⟩, rfl⟩, rfl⟩, rfl⟩, rfl⟩, rfl⟩, rfl⟩, rfl⟩, rfl⟩, rfl⟩, rfl⟩, rfl⟩, rfl⟩, rfl⟩, rfl⟩, rfl⟩) 0 [] (fun _ => by kernel_rfl) ?_ ?_
          · refine ⟨rfl, ?_, rfl, ?_, rfl, ?_, rfl, ?_, rfl, ?_, rfl, ?_, rfl, ?_, rfl, ?_, rfl, ?_, rfl, ?_, rfl, ?_, rfl, ?_, rfl, ?_, rfl, ?_, rfl, ?_, rfl, ?_, rfl, ?_, rfl, ?_, rfl, ?_, rfl, ?_, rfl, ?_, rfl, ?_, trivial⟩
            · intro b1_ g4
              refine TL.move rfl rfl (v := SV.v s1) rfl ?_
              refine TL.done ?_
              exact TC.nrm () [] ⟨rfl, trivial⟩ [] (by kernel_rfl)
            · intro b0_ g4
              refine TL.move rfl rfl (v := .int .i64 i1) rfl ?_
              refine TL.done ?_
              exact TC.nrm () [] ⟨rfl, trivial⟩ [] (by kernel_rfl)
            · intro g4
              refine TL.asL [] (by kernel_rfl) ?_
              refine TL.ixs i1 i1.toNat (Rd.old h1) h2 Try.underlying22 Try.sizeOf2 rfl rfl rfl rfl (by omega) ?_
              refine TL.done ?_
              exact TC.nrm () [] ⟨rfl, trivial⟩ [] (by kernel_rfl)
            · intro g4
              refine TL.asL [] (by kernel_rfl) ?_
              refine TL.loadE (Rd.old h1) Try.isAgg2 i1.toNat 0 (gt_spec h2) (v := .int .i64 (gt list_1 i1)) rfl (by simp only [show Ei.sz = 1 from rfl] <;> omega) rfl rfl rfl ?_
              refine TL.done ?_
              exact TC.nrm () [] ⟨rfl, trivial⟩ [] (by kernel_rfl)
            · intro g4
              refine TL.asL [] (by kernel_rfl) ?_
              refine TL.callH (R := G.spec_l01In.R) hr1 Try.call69 rfl rfl rfl (fun w hS => G.spec_l01In.calls w (gt list_1 i1) 1 6) ?_
              rintro _ _ ⟨rfl, rfl⟩
              refine TL.done ?_
              exact TC.nrm () [] ⟨rfl, trivial⟩ [] (by kernel_rfl)
            · intro g4
              refine TL.not r_1 rfl rfl rfl ?_
              refine TL.done ?_
              exact TC.nrm () [] ⟨(by rw [c3]; rfl), trivial⟩ [] (by kernel_rfl)
            · intro g4
              refine TL.move rfl rfl (v := .bool false) rfl ?_
              refine TL.done ?_
              exact TC.nrm () [] ⟨rfl, trivial⟩ [] (by kernel_rfl)
            · intro g4
              refine TL.move rfl rfl (v := .int .i64 i1) rfl ?_
              refine TL.done ?_
              exact TC.nrm () [] ⟨rfl, trivial⟩ [] (by kernel_rfl)
            · intro g4
              refine TL.bin .i64 i1 0 rfl rfl rfl rfl (v := .bool (decide (i1 > 0))) rfl ?_
              refine TL.done ?_
              exact TC.nrm () [] ⟨(by rw [c4]; rfl), trivial⟩ [] (by kernel_rfl)
            · intro g4
              refine TL.move rfl rfl (v := .bool true) rfl ?_
              refine TL.done ?_
              exact TC.nrm () [] ⟨rfl, trivial⟩ [] (by kernel_rfl)
            · intro b11_ b14_ b15_ b16_ b17_ b18_ g4
              refine TL.move rfl rfl (v := SV.v s1) rfl ?_
              refine TL.done ?_
              exact TC.nrm () [] ⟨rfl, trivial⟩ [] (by kernel_rfl)
            · intro b10_ b14_ b15_ b16_ b17_ b18_ g4
              refine TL.move rfl rfl (v := .int .i64 i1) rfl ?_
              refine TL.done ?_
              exact TC.nrm () [] ⟨rfl, trivial⟩ [] (by kernel_rfl)
            · intro b14_ b15_ b16_ b17_ b18_ g4
              refine TL.asL [] (by kernel_rfl) ?_
              refine TL.ixs i1 i1.toNat (Rd.old h1) h2 Try.underlying22 Try.sizeOf2 rfl rfl rfl rfl (by omega) ?_
              refine TL.done ?_
              exact TC.nrm () [] ⟨rfl, trivial⟩ [] (by kernel_rfl)
            · intro b14_ b15_ b16_ b17_ b18_ g4
              refine TL.asL [] (by kernel_rfl) ?_
              refine TL.loadE (Rd.old h1) Try.isAgg2 i1.toNat 0 (gt_spec h2) (v := .int .i64 (gt list_1 i1)) rfl (by simp only [show Ei.sz = 1 from rfl] <;> omega) rfl rfl rfl ?_
              refine TL.done ?_
              exact TC.nrm () [] ⟨rfl, trivial⟩ [] (by kernel_rfl)
            · intro b10_ b11_ b12_ b13_ b15_ b16_ g4
              refine TL.move rfl rfl (v := SV.v s1) rfl ?_
              refine TL.done ?_
              exact TC.nrm () [] ⟨rfl, trivial⟩ [] (by kernel_rfl)
            · intro b10_ b11_ b12_ b13_ b14_ g4
              refine TL.move rfl rfl (v := .int .i64 i1) rfl ?_
              refine TL.done ?_
              exact TC.nrm () [] ⟨rfl, trivial⟩ [] (by kernel_rfl)
            · intro b10_ b11_ b12_ b13_ b14_ g4
              refine TL.bin .i64 i1 1 rfl rfl rfl rfl (v := .int .i64 (w64 (i1 - 1))) rfl ?_
              refine TL.done ?_
              exact TC.nrm () [] ⟨rfl, trivial⟩ [] (by kernel_rfl)
            · intro b10_ b11_ b12_ b13_ g4
              refine TL.asL [] (by kernel_rfl) ?_
              refine TL.ixs (w64 (i1 - 1)) ((w64 (i1 - 1)).toNat) (Rd.old h1) h3 Try.underlying22 Try.sizeOf2 rfl rfl rfl rfl (by omega) ?_
              refine TL.done ?_
              exact TC.nrm () [] ⟨rfl, trivial⟩ [] (by kernel_rfl)
            · intro b10_ b11_ b12_ b13_ g4
              refine TL.asL [] (by kernel_rfl) ?_
              refine TL.loadE (Rd.old h1) Try.isAgg2 (w64 (i1 - 1)).toNat 0 (gt_spec h3) (v := .int .i64 (gt list_1 (w64 (i1 - 1)))) rfl (by simp only [show Ei.sz = 1 from rfl] <;> omega) rfl rfl rfl ?_
              refine TL.done ?_
              exact TC.nrm () [] ⟨rfl, trivial⟩ [] (by kernel_rfl)
            · intro g4
              refine TL.bin .i64 (gt list_1 i1) (gt list_1 (w64 (i1 - 1))) rfl rfl rfl rfl (v := .bool (decide ((gt list_1 i1) > (gt list_1 (w64 (i1 - 1)))))) rfl ?_
              refine TL.done ?_
              exact TC.nrm () [] ⟨rfl, trivial⟩ [] (by kernel_rfl)
            · intro g4
              refine TL.pick rfl rfl (b := true) rfl (r := .bool (decide ((gt list_1 i1) > (gt list_1 (w64 (i1 - 1)))))) rfl ?_
              refine TL.done ?_
              exact TC.nrm () [] ⟨rfl, trivial⟩ [] (by kernel_rfl)
            · intro g4
              refine TL.pick rfl rfl (b := false) rfl (r := .bool (decide ((gt list_1 i1) > (gt list_1 (w64 (i1 - 1)))))) rfl ?_
              refine TL.done ?_
              exact TC.nrm () [] ⟨rfl, trivial⟩ [] (by kernel_rfl)
          · intro g4
            refine TC.asL [] (by kernel_rfl) ?_
            refine TC.cond (b := (decide ((gt list_1 i1) > (gt list_1 (w64 (i1 - 1)))))) rfl (fun c5 => ?_) (fun c6 => ?_)
            · refine TC.seq ?_
              refine TC.region ?_
              refine TL.assign rfl rfl (v := .bool false) rfl ?_
              refine TL.done ?_
              exact TC.retF (Fin.loop Far.ret (Fin.body (fin1 (.inr rfl) rfl (.tmp rfl) [] rfl ⟨rfl, rfl⟩)))
            · refine TC.skip ?_
              refine TC.region ?_
              refine TL.move rfl rfl (v := .int .i64 sum1) rfl ?_
              refine TL.move rfl rfl (v := SV.v s1) rfl ?_
              refine TL.move rfl rfl (v := .int .i64 i1) rfl ?_
              refine TL.ixs i1 i1.toNat (Rd.old h1) h2 Try.underlying22 Try.sizeOf2 rfl rfl rfl rfl (by omega) ?_
              refine TL.loadE (Rd.old h1) Try.isAgg2 i1.toNat 0 (gt_spec h2) (v := .int .i64 (gt list_1 i1)) rfl (by simp only [show Ei.sz = 1 from rfl] <;> omega) rfl rfl rfl ?_
              refine TL.bin .i64 sum1 (gt list_1 i1) rfl rfl rfl rfl (v := .int .i64 (w64 (sum1 + (gt list_1 i1)))) rfl ?_
              refine TL.assign rfl rfl (v := .int .i64 (w64 (sum1 + (gt list_1 i1)))) rfl ?_
              refine TL.done ?_
              refine TC.region ?_
              refine TL.move rfl rfl (v := .int .i64 i1) rfl ?_
              refine TL.bin .i64 i1 1 rfl rfl rfl rfl (v := .int .i64 (w64 (i1 + 1))) rfl ?_
              refine TL.assign rfl rfl (v := .int .i64 (w64 (i1 + 1))) rfl ?_
              refine TL.done ?_
              exact TC.next (((w64 (sum1 + (gt list_1 i1))), (w64 (i1 + 1)))) (()) ⟨rfl, rfl, rfl, trivial⟩ [] rfl
        · refine TC.wk (Γ' := [(0, SV.v s1), (3, .int .i64 sum1), (4, .int .i64 i1), (5, .int .i64 i1), (6, SV.v s1), (7, .int .i64 (list_1.length : Int)), (8, .bool (decide (i1 < (list_1.length : Int))))]) ⟨rfl, rfl, rfl, rfl, rfl, rfl, rfl, trivial⟩ ?_
          refine TC.drawG [(0, SV.v s1), (3, .int .i64 sum1), (4, .int .i64 i1), (5, .int .i64 i1), (6, SV.v s1), (7, .int .i64 (list_1.length : Int)), (8, .bool (decide (i1 < (list_1.length : Int))))] [] ⟨rfl, rfl, rfl, rfl, rfl, rfl, rfl, trivial⟩ trivial (fun l_ g5 => []) (fun g5 => [SV.v s1, .int .i64 i1, ep s1 i1.toNat, .int .i64 (gt list_1 i1), .bool r_1, .bool false, .bool false, .int .i64 i1, .bool false, .bool false, undef, undef, undef, undef, undef, undef, undef, undef, undef, undef, .bool false, .bool false]) [[], [], [0, 1], [0, 1, 2], [0, 1, 2, 3], [0, 1, 2, 3, 4], [0, 1, 2, 3, 4, 5], [0, 1, 2, 3, 4, 5, 6], [0, 1, 2, 3, 4, 5, 6, 7], [0, 1, 2, 3, 4, 5, 6, 7, 8], [0, 1, 2, 3, 4, 5, 6, 7, 8, 9], [0, 1, 2, 3, 4, 5, 6, 7, 8, 9], [0, 1, 2, 3, 4, 5, 6, 7, 8, 9, 10, 11], [0, 1, 2, 3, 4, 5, 6, 7, 8, 9, 10, 11, 12], [0, 1, 2, 3, 4, 5, 6, 7, 8, 9], [0, 1, 2, 3, 4, 5, 6, 7, 8, 9], [0, 1, 2, 3, 4, 5, 6, 7, 8, 9, 15], [0, 1, 2, 3, 4, 5, 6, 7, 8, 9, 14, 15, 16], [0, 1, 2, 3, 4, 5, 6, 7, 8, 9, 14, 15, 16, 17], [0, 1, 2, 3, 4, 5, 6, 7, 8, 9, 10, 11, 12, 13, 14, 15, 16, 17, 18], [0, 1, 2, 3, 4, 5, 6, 7, 8, 9, 10, 11, 12, 13, 14, 15, 16, 17, 18, 19], [0, 1, 2, 3, 4, 5, 6, 7, 8, 9, 10, 11, 12, 13, 14, 15, 16, 17, 18, 19, 20]] [[some false, none, some false, some false, some false, some false, some false, some false, some false, some false, some false, some false, some false, some false, some false, some false, some false, some false, some false, some false, some false, some false], [none, some false, some false, some false, some false, some false, some false, some false, some false, some false, some false, some false, some false, some false, some false, some false, some false, some false, some false, some false, some false, some false], [some true, some true, some false, some false, some false, some false, some false, some false, some false, some false, some false, some false, some false, some false, some false, some false, some false, some false, some false, some false, some false, some false], [some true, some true, some true, some false, some false, some false, some false, some false, some false, some false, some false, some false, some false, some false, some false, some false, some false, some false, some false, some false, some false, some false], [some true, some true, some true, some true, some false, some false, some false, some false, some false, some false, some false, some false, some false, some false, some false, some false, some false, some false, some false, some false, some false, some false], [some true, some true, some true, some true, some true, some false, some false, some false, some false, some false, some false, some false, some false, some false, some false, some false, some false, some false, some false, some false, some false, some false], [some true, some true, some true, some true, some true, some true, some false, some false, some false, some false, some false, some false, some false, some false, some false, some false, some false, some false, some false, some false, some false, some false], [some true, some true, some true, some true, some true, some true, some true, some false, some false, some false, some false, some false, some false, some false, some false, some false, some false, some false, some false, some false, some false, some false], [some true, some true, some true, some true, some true, some true, some true, some true, some false, some false, some false, some false, some false, some false, some false, some false, some false, some false, some false, some false, some false, some false], [some true, some true, some true, some true, some true, some true, some true, some true, some true, some false, some false, some false, some false, some false, some false, some false, some false, some false, some false, some false, some false, some false], [some true, some true, some true, some true, some true, some true, some true, some true, some true, some true, some false, none, some false, some false, none, none, none, none, none, some false, some false, some false], [some true, some true, some true, some true, some true, some true, some true, some true, some true, some true, none, some false, some false, some false, none, none, none, none, none, some false, some false, some false], [some true, some true, some true, some true, some true, some true, some true, some true, some true, some true, some true, some true, some false, some false, none, none, none, none, none, some false, some false, some false], [some true, some true, some true, some true, some true, some true, some true, some true, some true, some true, some true, some true, some true, some false, none, none, none, none, none, some false, some false, some false], [some true, some true, some true, some true, some true, some true, some true, some true, some true, some true, none, none, none, none, some false, none, none, some false, some false, some false, some false, some false], [some true, some true, some true, some true, some true, some true, some true, some true, some true, some true, none, none, none, none, none, some false, some false, some false, some false, some false, some false, some false], [some true, some true, some true, some true, some true, some true, some true, some true, some true, some true, none, none, none, none, none, some true, some false, some false, some false, some false, some false, some false], [some true, some true, some true, some true, some true, some true, some true, some true, some true, some true, none, none, none, none, some true, some true, some true, some false, some false, some false, some false, some false], [some true, some true, some true, some true, some true, some true, some true, some true, some true, some true, none, none, none, none, some true, some true, some true, some true, some false, some false, some false, some false], [some true, some true, some true, some true, some true, some true, some true, some true, some true, some true, some true, some true, some true, some true, some true, some true, some true, some true, some true, some false, some false, some false], [some true, some true, some true, some true, some true, some true, some true, some true, some true, some true, some true, some true, some true, some true, some true, some true, some true, some true, some true, some true, some false, some false], [some true, some true, some true, some true, some true, some true, some true, some true, some true, some true, some true, some true, some true, some true, some true, some true, some true, some true, some true, some true, some true, some false]] (by kernel_rfl) (fun _ => rfl) rfl rfl rfl rfl rfl (fun _ _ => ⟨⟨⟨⟨⟨⟨⟨⟨⟨⟨⟨⟨⟨⟨⟨⟨⟨⟨⟨⟨⟨⟨trivial, rfl⟩, rfl⟩, rfl⟩, rfl⟩, rfl⟩, rfl⟩, rfl⟩, rfl⟩, rfl⟩, rfl⟩, rfl⟩, rfl⟩, rfl⟩, rfl⟩, rfl⟩, rfl⟩, rfl⟩, rfl⟩, rfl⟩, rfl⟩, rfl⟩, rfl⟩) 0 [] (fun _ => by kernel_rfl) ?_ ?_
          · refine ⟨rfl, ?_, rfl, ?_, rfl, ?_, rfl, ?_, rfl, ?_, rfl, ?_, rfl, ?_, rfl, ?_, rfl, ?_, rfl, ?_, rfl, ?_, rfl, ?_, rfl, ?_, rfl, ?_, rfl, ?_, rfl, ?_, rfl, ?_, rfl, ?_, rfl, ?_, rfl, ?_, rfl, ?_, rfl, ?_, trivial⟩
            · intro b1_ g5
              refine TL.move rfl rfl (v := SV.v s1) rfl ?_
              refine TL.done ?_
              exact TC.nrm () [] ⟨rfl, trivial⟩ [] (by kernel_rfl)
            · intro b0_ g5
              refine TL.move rfl rfl (v := .int .i64 i1) rfl ?_
              refine TL.done ?_
              exact TC.nrm () [] ⟨rfl, trivial⟩ [] (by kernel_rfl)
            · intro g5
              refine TL.asL [] (by kernel_rfl) ?_
              refine TL.ixs i1 i1.toNat (Rd.old h1) h2 Try.underlying22 Try.sizeOf2 rfl rfl rfl rfl (by omega) ?_
              refine TL.done ?_
              exact TC.nrm () [] ⟨rfl, trivial⟩ [] (by kernel_rfl)
            · intro g5
              refine TL.asL [] (by kernel_rfl) ?_
              refine TL.loadE (Rd.old h1) Try.isAgg2 i1.toNat 0 (gt_spec h2) (v := .int .i64 (gt list_1 i1)) rfl (by simp only [show Ei.sz = 1 from rfl] <;> omega) rfl rfl rfl ?_
              refine TL.done ?_
              exact TC.nrm () [] ⟨rfl, trivial⟩ [] (by kernel_rfl)
            · intro g5
              refine TL.asL [] (by kernel_rfl) ?_
              refine TL.callH (R := G.spec_l01In.R) hr1 Try.call69 rfl rfl rfl (fun w hS => G.spec_l01In.calls w (gt list_1 i1) 1 6) ?_
              rintro _ _ ⟨rfl, rfl⟩
              refine TL.done ?_
              exact TC.nrm () [] ⟨rfl, trivial⟩ [] (by kernel_rfl)
            · intro g5
              refine TL.not r_1 rfl rfl rfl ?_
              refine TL.done ?_
              exact TC.nrm () [] ⟨(by rw [c3]; rfl), trivial⟩ [] (by kernel_rfl)
            · intro g5
              refine TL.move rfl rfl (v := .bool false) rfl ?_
              refine TL.done ?_
              exact TC.nrm () [] ⟨rfl, trivial⟩ [] (by kernel_rfl)
            · intro g5
              refine TL.move rfl rfl (v := .int .i64 i1) rfl ?_
              refine TL.done ?_
              exact TC.nrm () [] ⟨rfl, trivial⟩ [] (by kernel_rfl)
            · intro g5
              refine TL.bin .i64 i1 0 rfl rfl rfl rfl (v := .bool (decide (i1 > 0))) rfl ?_
              refine TL.done ?_
              exact TC.nrm () [] ⟨(by rw [c4]; rfl), trivial⟩ [] (by kernel_rfl)
            · intro g5
              refine TL.move rfl rfl (v := .bool false) rfl ?_
              refine TL.done ?_
              exact TC.nrm () [] ⟨rfl, trivial⟩ [] (by kernel_rfl)
            · intro b11_ b14_ b15_ b16_ b17_ b18_ g5
              refine TL.skip rfl rfl (by decide) ?_
              refine TL.done ?_
              exact TC.nrm () [] ⟨rfl, trivial⟩ [] (by kernel_rfl)
            · intro b10_ b14_ b15_ b16_ b17_ b18_ g5
              refine TL.skip rfl rfl (by decide) ?_
              refine TL.done ?_
              exact TC.nrm () [] ⟨rfl, trivial⟩ [] (by kernel_rfl)
            · intro b14_ b15_ b16_ b17_ b18_ g5
              refine TL.asL [] (by kernel_rfl) ?_
              refine TL.skip rfl rfl (by decide) ?_
              refine TL.done ?_
              exact TC.nrm () [] ⟨rfl, trivial⟩ [] (by kernel_rfl)
            · intro b14_ b15_ b16_ b17_ b18_ g5
              refine TL.asL [] (by kernel_rfl) ?_
              refine TL.skip rfl rfl (by decide) ?_
              refine TL.done ?_
              exact TC.nrm () [] ⟨rfl, trivial⟩ [] (by kernel_rfl)
            · intro b10_ b11_ b12_ b13_ b15_ b16_ g5
              refine TL.skip rfl rfl (by decide) ?_
              refine TL.done ?_
              exact TC.nrm () [] ⟨rfl, trivial⟩ [] (by kernel_rfl)
            · intro b10_ b11_ b12_ b13_ b14_ g5
              refine TL.skip rfl rfl (by decide) ?_
              refine TL.done ?_
              exact TC.nrm () [] ⟨rfl, trivial⟩ [] (by kernel_rfl)
            · intro b10_ b11_ b12_ b13_ b14_ g5
              refine TL.skip rfl rfl (by decide) ?_
              refine TL.done ?_
              exact TC.nrm () [] ⟨rfl, trivial⟩ [] (by kernel_rfl)
            · intro b10_ b11_ b12_ b13_ g5
              refine TL.asL [] (by kernel_rfl) ?_
              refine TL.skip rfl rfl (by decide) ?_
              refine TL.done ?_
              exact TC.nrm () [] ⟨rfl, trivial⟩ [] (by kernel_rfl)
            · intro b10_ b11_ b12_ b13_ g5
              refine TL.asL [] (by kernel_rfl) ?_
              refine TL.skip rfl rfl (by decide) ?_
              refine TL.done ?_
              exact TC.nrm () [] ⟨rfl, trivial⟩ [] (by kernel_rfl)
            · intro g5
              refine TL.skip rfl rfl (by decide) ?_
              refine TL.done ?_
              exact TC.nrm () [] ⟨rfl, trivial⟩ [] (by kernel_rfl)
            · intro g5
              refine TL.pick rfl rfl (b := false) rfl (r := .bool false) rfl ?_
              refine TL.done ?_
              exact TC.nrm () [] ⟨rfl, trivial⟩ [] (by kernel_rfl)
            · intro g5
              refine TL.pick rfl rfl (b := false) rfl (r := .bool false) rfl ?_
              refine TL.done ?_
              exact TC.nrm () [] ⟨rfl, trivial⟩ [] (by kernel_rfl)
          · intro g5
            refine TC.asL [] (by kernel_rfl) ?_
            refine TC.cond_false rfl ?_
            refine TC.skip ?_
            refine TC.region ?_
            refine TL.move rfl rfl (v := .int .i64 sum1) rfl ?_
            refine TL.move rfl rfl (v := SV.v s1) rfl ?_
            refine TL.move rfl rfl (v := .int .i64 i1) rfl ?_
            refine TL.ixs i1 i1.toNat (Rd.old h1) h2 Try.underlying22 Try.sizeOf2 rfl rfl rfl rfl (by omega) ?_
            refine TL.loadE (Rd.old h1) Try.isAgg2 i1.toNat 0 (gt_spec h2) (v := .int .i64 (gt list_1 i1)) rfl (by simp only [show Ei.sz = 1 from rfl] <;> omega) rfl rfl rfl ?_
            refine TL.bin .i64 sum1 (gt list_1 i1) rfl rfl rfl rfl (v := .int .i64 (w64 (sum1 + (gt list_1 i1)))) rfl ?_
            refine TL.assign rfl rfl (v := .int .i64 (w64 (sum1 + (gt list_1 i1)))) rfl ?_
            refine TL.done ?_
            refine TC.region ?_
            refine TL.move rfl rfl (v := .int .i64 i1) rfl ?_
            refine TL.bin .i64 i1 1 rfl rfl rfl rfl (v := .int .i64 (w64 (i1 + 1))) rfl ?_
            refine TL.assign rfl rfl (v := .int .i64 (w64 (i1 + 1))) rfl ?_
            refine TL.done ?_
            exact TC.next (((w64 (sum1 + (gt list_1 i1))), (w64 (i1 + 1)))) (()) ⟨rfl, rfl, rfl, trivial⟩ [] rfl
    · exact TC.brk ((sum1, i1)) (()) ⟨rfl, rfl, rfl, trivial⟩ [] rfl
  · rintro ⟨sum1, i1⟩ _
    refine TC.seq ?_
    refine TC.region ?_
    refine TL.move rfl rfl (v := .int .i64 sum1) rfl ?_
    refine TL.call (R := G.spec_l01In.R) Try.call69 rfl rfl rfl (fun w hS => G.spec_l01In.calls w sum1 1 6) ?_
    rintro r_6 _ _ ⟨rfl, rfl⟩
    refine TL.assign rfl rfl (v := .bool r_6) rfl ?_
    refine TL.done ?_
    exact TC.retF (Fin.body (fin1 (.inr rfl) rfl (.tmp rfl) [] rfl ⟨rfl, rfl⟩))

end Go.Proofs.Ytiiljfpbcanphaa.G

/- spec.l09Place, as a pure function. -/
set_option linter.unusedVariables false
namespace Go.Proofs.Ytiiljfpbcanphaa.G
open Go Go.Sx Go.Proofs

def spec_l09Place.b0 (i1 : Int) (stairs1 : List Int) : Int × Int → Option (LB (Int × Int)) := fun p => match p with | (out1, k_1) => (bif (decide (k_1 < i1)) then chk k_1 stairs1.length (some (.next ((w64 (out1 + (gt stairs1 k_1))), (w64 (k_1 + 1))))) else some (.brk (out1, k_1)))

def spec_l09Place.f (stairs1 : List Int) (i1 : Int) (j1 : Int) : Option Int := (bif (decide (i1 ≥ (stairs1.length : Int))) then some true else chk i1 stairs1.length (some (decide (j1 ≥ (gt stairs1 i1))))).bind (fun b_1 => (bif b_1 then some (-1) else (loop1 (spec_l09Place.b0 i1 stairs1) (j1, 0)).bind (fun p => match p with | (out1, k_1) => some out1)))

def spec_l09Place.R (r : Int) (v : Value) (L : List Asn) : Prop := v = .int .i64 r ∧ L = []

set_option maxRecDepth 100000 in
set_option maxHeartbeats 4000000 in
theorem spec_l09Place.calls (w : World) (s1 : SV) (stairs1 : List Int) (i1 : Int) (j1 : Int) (h1 : Reads Ei (hp w) s1 stairs1) :
    ∀ r, spec_l09Place.f stairs1 i1 j1 = some r → Calls Try.prog 80 #[SV.v s1, .int .i64 i1, .int .i64 j1] w (Ret w (spec_l09Place.R r)) := by

  refine calls_T (n := 34) (Γ := [(0, SV.v s1), (1, .int .i64 i1), (2, .int .i64 j1)]) (R := spec_l09Place.R) Try.func80 rfl rfl (Nat.le_of_ble_eq_true rfl) ⟨rfl, rfl, rfl, trivial⟩ ?_
  unfold spec_l09Place.f
  refine TC.seq ?_
  refine TC.region ?_
  refine TL.assign rfl rfl (v := .int .i64 0) rfl ?_
  refine TL.done ?_
  refine TC.seq ?_
  refine TC.seq ?_
  refine TC.region ?_
  refine TL.move rfl rfl (v := .int .i64 i1) rfl ?_
  refine TL.move rfl rfl (v := SV.v s1) rfl ?_
  refine TL.len (Rd.old h1) Try.underlying22 rfl rfl rfl ?_
  refine TL.bin .i64 i1 (stairs1.length : Int) rfl rfl rfl rfl (v := .bool (decide (i1 ≥ (stairs1.length : Int)))) rfl ?_
  refine TL.move rfl rfl (v := .bool (decide (i1 ≥ (stairs1.length : Int)))) rfl ?_
  refine TL.cutJ (σ := Bool) (γ := Unit) (Γ' := fun b_1 _ => [(20, .bool b_1), (0, SV.v s1), (1, .int .i64 i1), (2, .int .i64 j1), (6, .int .i64 0), (9, .int .i64 i1), (10, SV.v s1), (11, .int .i64 (stairs1.length : Int)), (12, .bool (decide (i1 ≥ (stairs1.length : Int)))), (13, .bool (decide (i1 ≥ (stairs1.length : Int))))]) (L' := fun _ _ => []) 7 ?_ ?_
  · refine TL.ifb (t := 13) (b := (decide (i1 ≥ (stairs1.length : Int)))) rfl (fun c1 => ?_) (fun c2 => ?_)
    · refine TL.skip rfl rfl (by decide) ?_
      refine TL.skip rfl rfl (by decide) ?_
      refine TL.skip rfl rfl (by decide) ?_
      refine TL.skip rfl rfl (by decide) ?_
      refine TL.skip rfl rfl (by decide) ?_
      refine TL.skip rfl rfl (by decide) ?_
      refine TL.pick rfl rfl (b := true) rfl (r := .bool true) rfl ?_
      refine TL.done ?_
      exact TC.nrm (true) () ⟨rfl, rfl, rfl, rfl, rfl, rfl, rfl, rfl, rfl, (by rw [c1]; rfl), trivial⟩ [] (by kernel_rfl)
    · refine TL.move rfl rfl (v := .int .i64 j1) rfl ?_
      refine TL.move rfl rfl (v := SV.v s1) rfl ?_
      refine TL.move rfl rfl (v := .int .i64 i1) rfl ?_
      refine TL.chk fun h2 => ?_
      refine TL.ixs i1 i1.toNat (Rd.old h1) h2 Try.underlying22 Try.sizeOf2 rfl rfl rfl rfl (by omega) ?_
      refine TL.loadE (Rd.old h1) Try.isAgg2 i1.toNat 0 (gt_spec h2) (v := .int .i64 (gt stairs1 i1)) rfl (by simp only [show Ei.sz = 1 from rfl] <;> omega) rfl rfl rfl ?_
      refine TL.bin .i64 j1 (gt stairs1 i1) rfl rfl rfl rfl (v := .bool (decide (j1 ≥ (gt stairs1 i1)))) rfl ?_
      refine TL.pick rfl rfl (b := false) rfl (r := .bool (decide (j1 ≥ (gt stairs1 i1)))) rfl ?_
      refine TL.done ?_
      exact TC.nrm ((decide (j1 ≥ (gt stairs1 i1)))) () ⟨rfl, rfl, rfl, rfl, rfl, rfl, rfl, rfl, rfl, (by rw [c2]; rfl), trivial⟩ [] (by kernel_rfl)
  · rintro b_1 _
    refine TL.done ?_
    refine TC.cond (b := b_1) rfl (fun c3 => ?_) (fun c4 => ?_)
    · refine TC.seq ?_
      refine TC.region ?_
      refine TL.assign rfl rfl (v := .int .i64 (-1)) rfl ?_
      refine TL.done ?_
      exact TC.retF (Fin.body (fin1 (.inr rfl) rfl (.tmp rfl) [] rfl ⟨rfl, rfl⟩))
    · refine TC.skip ?_
      refine TC.seq ?_
      refine TC.region ?_
      refine TL.move rfl rfl (v := .int .i64 j1) rfl ?_
      refine TL.assign rfl rfl (v := .int .i64 j1) rfl ?_
      refine TL.done ?_
      refine TC.seq ?_
      refine TC.seq ?_
      refine TC.region ?_
      refine TL.assign rfl rfl (v := .int .i64 0) rfl ?_
      refine TL.done ?_
      refine TC.loop1 (σ := Int × Int) (γ := Unit) (Γ' := (fun p q => match p, q with | (out1, k_1), _ => [(0, SV.v s1), (1, .int .i64 i1), (7, .int .i64 out1), (8, .int .i64 k_1)])) (L' := (fun p q => match p, q with | (out1, k_1), _ => [])) (Γb := (fun p q => match p, q with | (out1, k_1), _ => [(0, SV.v s1), (1, .int .i64 i1), (7, .int .i64 out1), (8, .int .i64 k_1)])) (Lb := (fun p q => match p, q with | (out1, k_1), _ => [])) ((j1, 0)) (()) ⟨rfl, rfl, rfl, rfl, trivial⟩ [] rfl ?_ ?_
      · rintro ⟨out1, k_1⟩ _
        refine TC.seq ?_
        refine TC.seq ?_
        refine TC.region ?_
        refine TL.move rfl rfl (v := .int .i64 k_1) rfl ?_
        refine TL.move rfl rfl (v := .int .i64 i1) rfl ?_
        refine TL.bin .i64 k_1 i1 rfl rfl rfl rfl (v := .bool (decide (k_1 < i1))) rfl ?_
        refine TL.done ?_
        refine TC.cond (b := (decide (k_1 < i1))) rfl (fun c5 => ?_) (fun c6 => ?_)
        · refine TC.skip ?_
          refine TC.seq ?_
          refine TC.block (NoEx.loop1 rfl) ?_
          refine TC.region ?_
          refine TL.move rfl rfl (v := .int .i64 out1) rfl ?_
          refine TL.move rfl rfl (v := SV.v s1) rfl ?_
          refine TL.move rfl rfl (v := .int .i64 k_1) rfl ?_
          refine TL.chk fun h3 => ?_
          refine TL.ixs k_1 k_1.toNat (Rd.old h1) h3 Try.underlying22 Try.sizeOf2 rfl rfl rfl rfl (by omega) ?_
          refine TL.loadE (Rd.old h1) Try.isAgg2 k_1.toNat 0 (gt_spec h3) (v := .int .i64 (gt stairs1 k_1)) rfl (by simp only [show Ei.sz = 1 from rfl] <;> omega) rfl rfl rfl ?_
          refine TL.bin .i64 out1 (gt stairs1 k_1) rfl rfl rfl rfl (v := .int .i64 (w64 (out1 + (gt stairs1 k_1)))) rfl ?_
          refine TL.assign rfl rfl (v := .int .i64 (w64 (out1 + (gt stairs1 k_1)))) rfl ?_
          refine TL.done ?_
          refine TC.region ?_
          refine TL.move rfl rfl (v := .int .i64 k_1) rfl ?_
          refine TL.bin .i64 k_1 1 rfl rfl rfl rfl (v := .int .i64 (w64 (k_1 + 1))) rfl ?_
          refine TL.assign rfl rfl (v := .int .i64 (w64 (k_1 + 1))) rfl ?_
          refine TL.done ?_
          exact TC.next1 (((w64 (out1 + (gt stairs1 k_1))), (w64 (k_1 + 1)))) (()) ⟨rfl, rfl, rfl, rfl, trivial⟩ [] rfl
        · exact TC.brk1 ((out1, k_1)) (()) ⟨rfl, rfl, rfl, rfl, trivial⟩ [] rfl
      · rintro ⟨out1, k_1⟩ _
        refine TC.seq ?_
        refine TC.region ?_
        refine TL.move rfl rfl (v := .int .i64 out1) rfl ?_
        refine TL.assign rfl rfl (v := .int .i64 out1) rfl ?_
        refine TL.done ?_
        exact TC.retF (Fin.body (fin1 (.inr rfl) rfl (.tmp rfl) [] rfl ⟨rfl, rfl⟩))

end Go.Proofs.Ytiiljfpbcanphaa.G

/- spec.CornersOf, as a pure function. -/
set_option linter.unusedVariables false
namespace Go.Proofs.Ytiiljfpbcanphaa.G
open Go Go.Sx Go.Proofs

def spec_CornersOf.b0 (stairs1 : List Int) : (List (List Int)) × Int → Option (LB ((List (List Int)) × Int)) := fun p => match p with | (out1, i1) => (bif (decide (i1 < (stairs1.length : Int))) then chk i1 stairs1.length ((G.spec_l09Place.f stairs1 (w64 (i1 + 1)) (w64 ((gt stairs1 i1) - 1))).bind (fun r_2 => ((bif (decide (r_2 < 0)) then small (out1.length + 1) (some (out1 ++ [([i1, (w64 ((gt stairs1 i1) - 1))] : List Int)])) else some out1)).bind (fun out2 => some (.next (out2, (w64 (i1 + 1))))))) else some (.brk (out1, i1)))

def spec_CornersOf.f (stairs1 : List Int) : Option ((List (List Int)) × Int) := (G.spec_l09Stairs.f stairs1).bind (fun r_1 => (bif (!r_1) then some (([] : List (List Int)), 2) else (loop1 (spec_CornersOf.b0 stairs1) (([] : List (List Int)), 0)).bind (fun p => match p with | (out1, i1) => some (out1, 0))))

def spec_CornersOf.R (r : (List (List Int)) × Int) (v : Value) (L : List Asn) : Prop := ∃ (s0 : SV) (ss0 : List SV), v = .tuple #[SV.v s0, .int .i64 r.2] ∧ L = [mat Ei 2 22 s0 ss0 r.1]

set_option maxRecDepth 100000 in
set_option maxHeartbeats 4000000 in
theorem spec_CornersOf.calls (w : World) (s1 : SV) (stairs1 : List Int) (h1 : Reads Ei (hp w) s1 stairs1) :
    ∀ r, spec_CornersOf.f stairs1 = some r → Calls Try.prog 22 #[SV.v s1] w (Ret w (spec_CornersOf.R r)) := by

  refine calls_T (n := 35) (Γ := [(0, SV.v s1)]) (R := spec_CornersOf.R) Try.func22 rfl rfl (Nat.le_of_ble_eq_true rfl) ⟨rfl, trivial⟩ ?_
  unfold spec_CornersOf.f
  refine TC.seq ?_
  refine TC.region ?_
  refine TL.assign rfl rfl (v := SV.v ⟨none, 0, 0⟩) rfl ?_
  refine TL.assign rfl rfl (v := .int .i64 0) rfl ?_
  refine TL.done ?_
  refine TC.seq ?_
  refine TC.seq ?_
  refine TC.region ?_
  refine TL.move rfl rfl (v := SV.v s1) rfl ?_
  refine TL.call (R := G.spec_l09Stairs.R) Try.call79 rfl rfl rfl (fun w hS => G.spec_l09Stairs.calls w s1 stairs1 ((Rd.old h1) w hS)) ?_
  rintro r_1 _ _ ⟨rfl, rfl⟩
  refine TL.not r_1 rfl rfl rfl ?_
  refine TL.done ?_
  refine TC.cond (b := (!r_1)) rfl (fun c1 => ?_) (fun c2 => ?_)
  · refine TC.seq ?_
    refine TC.region ?_
    refine TL.assign rfl rfl (v := SV.v ⟨none, 0, 0⟩) rfl ?_
    refine TL.assign rfl rfl (v := .int .i64 2) rfl ?_
    refine TL.done ?_
    refine TC.nilmat Ei 2 22 ?_
    exact TC.retF (Fin.body (fin2 (.inr rfl) rfl (.tmp rfl) (.tmp rfl) [0] rfl ⟨⟨none, 0, 0⟩, [], rfl, rfl⟩))
  · refine TC.skip ?_
    refine TC.seq ?_
    refine TC.region ?_
    refine TL.bslice0 Ev Try.underlying32 Try.sizeOf22 rfl rfl fun s2 => ?_
    refine TL.rows0 Ei 2 ?_
    refine TL.matmk 1 0 rfl rfl ?_
    refine TL.asL [mat Ei 2 22 s2 ([] : List SV) ([] : List (List Int)), emp] (by kernel_rfl) ?_
    refine TL.assign rfl rfl (v := SV.v s2) rfl ?_
    refine TL.done ?_
    refine TC.seq ?_
    refine TC.seq ?_
    refine TC.region ?_
    refine TL.assign rfl rfl (v := .int .i64 0) rfl ?_
    refine TL.done ?_
    refine TC.loop1 (σ := (List (List Int)) × Int) (γ := SV × (List SV)) (Γ' := (fun p q => match p, q with | (out1, i1), (s3, ss1) => [(0, SV.v s1), (4, SV.v s3), (5, .int .i64 i1)])) (L' := (fun p q => match p, q with | (out1, i1), (s3, ss1) => [mat Ei 2 22 s3 ss1 out1])) (Γb := (fun p q => match p, q with | (out1, i1), (s3, ss1) => [(0, SV.v s1), (4, SV.v s3), (5, .int .i64 i1)])) (Lb := (fun p q => match p, q with | (out1, i1), (s3, ss1) => [mat Ei 2 22 s3 ss1 out1])) ((([] : List (List Int)), 0)) ((s2, ([] : List SV))) ⟨rfl, rfl, rfl, trivial⟩ [0] rfl ?_ ?_
    · rintro ⟨out1, i1⟩ ⟨s3, ss1⟩
      refine TC.seq ?_
      refine TC.seq ?_
      refine TC.region ?_
      refine TL.move rfl rfl (v := .int .i64 i1) rfl ?_
      refine TL.move rfl rfl (v := SV.v s1) rfl ?_
      refine TL.len (Rd.old h1) Try.underlying22 rfl rfl rfl ?_
      refine TL.bin .i64 i1 (stairs1.length : Int) rfl rfl rfl rfl (v := .bool (decide (i1 < (stairs1.length : Int)))) rfl ?_
      refine TL.done ?_
      refine TC.cond (b := (decide (i1 < (stairs1.length : Int)))) rfl (fun c3 => ?_) (fun c4 => ?_)
      · refine TC.skip ?_
        refine TC.seq ?_
        refine TC.block (NoEx.loop1 rfl) ?_
        refine TC.seq ?_
        refine TC.region ?_
        refine TL.move rfl rfl (v := SV.v s1) rfl ?_
        refine TL.move rfl rfl (v := .int .i64 i1) rfl ?_
        refine TL.chk fun h2 => ?_
        refine TL.ixs i1 i1.toNat (Rd.old h1) h2 Try.underlying22 Try.sizeOf2 rfl rfl rfl rfl (by omega) ?_
        refine TL.loadE (Rd.old h1) Try.isAgg2 i1.toNat 0 (gt_spec h2) (v := .int .i64 (gt stairs1 i1)) rfl (by simp only [show Ei.sz = 1 from rfl] <;> omega) rfl rfl rfl ?_
        refine TL.bin .i64 (gt stairs1 i1) 1 rfl rfl rfl rfl (v := .int .i64 (w64 ((gt stairs1 i1) - 1))) rfl ?_
        refine TL.assign rfl rfl (v := .int .i64 (w64 ((gt stairs1 i1) - 1))) rfl ?_
        refine TL.done ?_
        refine TC.seq ?_
        refine TC.region ?_
        refine TL.move rfl rfl (v := SV.v s1) rfl ?_
        refine TL.move rfl rfl (v := .int .i64 i1) rfl ?_
        refine TL.bin .i64 i1 1 rfl rfl rfl rfl (v := .int .i64 (w64 (i1 + 1))) rfl ?_
        refine TL.move rfl rfl (v := .int .i64 (w64 ((gt stairs1 i1) - 1))) rfl ?_
        refine TL.call (R := G.spec_l09Place.R) Try.call80 rfl rfl rfl (fun w hS => G.spec_l09Place.calls w s1 stairs1 (w64 (i1 + 1)) (w64 ((gt stairs1 i1) - 1)) ((Rd.old h1) w hS)) ?_
        rintro r_2 _ _ ⟨rfl, rfl⟩
        refine TL.bin .i64 r_2 0 rfl rfl rfl rfl (v := .bool (decide (r_2 < 0))) rfl ?_
        refine TL.done ?_
        refine TC.join1 (σ := (List (List Int))) (γ := SV × (List SV)) (Γ' := (fun p q => match p, q with | out2, (s4, ss2) => [(0, SV.v s1), (4, SV.v s4), (5, .int .i64 i1)])) (L' := (fun p q => match p, q with | out2, (s4, ss2) => [mat Ei 2 22 s4 ss2 out2])) ?_ ?_
        · refine TC.cond (b := (decide (r_2 < 0))) rfl (fun c5 => ?_) (fun c6 => ?_)
          · refine TC.region ?_
            refine TL.move rfl rfl (v := SV.v s3) rfl ?_
            refine TL.move rfl rfl (v := .int .i64 i1) rfl ?_
            refine TL.move rfl rfl (v := .int .i64 (w64 ((gt stairs1 i1) - 1))) rfl ?_
            refine TL.blit Ei ([i1, (w64 ((gt stairs1 i1) - 1))] : List Int) Try.underlying22 Try.sizeOf2 Try.zeroValue2 rfl rfl rfl [(0, .int .i64 i1), (1, .int .i64 (w64 ((gt stairs1 i1) - 1)))] rfl ⟨rfl, rfl, rfl, rfl, trivial⟩ rfl rfl fun s5 => ?_
            refine TL.blit Ev ([s5] : List SV) Try.underlying32 Try.sizeOf22 Try.zeroValue22 rfl rfl rfl [(0, SV.v s5)] rfl ⟨rfl, rfl, trivial⟩ rfl rfl fun s6 => ?_
            refine TL.small fun h3 => ?_
            refine TL.matlen 2 rfl fun h4 => ?_
            refine TL.matcut 2 rfl ?_
            refine TL.append 0 rfl (Rd.row 1 rfl) Try.underlying32 (info_of Try.type22) (zv := (Try.t22.zero.getD (.bool false))) rfl rfl rfl (by decide) (by have h_ := h3; have l_ := h4; (try simp only [List.length_cons, List.length_nil] at h_ l_ ⊢); omega) rfl rfl rfl rfl fun s7 => ?_
            refine TL.rowsPush 3 2 rfl rfl ?_
            skip
            refine TL.matmk 0 2 rfl rfl ?_
            refine TL.drop 0 rfl ?_
            refine TL.asL [row Ev 22 s6 ([s5] : List SV), mat Ei 2 22 s7 (ss1 ++ [s5]) (out1 ++ [([i1, (w64 ((gt stairs1 i1) - 1))] : List Int)]), emp] (by kernel_rfl) ?_
            refine TL.assign rfl rfl (v := SV.v s7) rfl ?_
            refine TL.done ?_
            exact TC.nrm ((out1 ++ [([i1, (w64 ((gt stairs1 i1) - 1))] : List Int)])) ((s7, (ss1 ++ [s5]))) ⟨rfl, rfl, rfl, trivial⟩ [1] rfl
          · refine TC.skip ?_
            exact TC.nrm (out1) ((s3, ss1)) ⟨rfl, rfl, rfl, trivial⟩ [0] rfl
        · rintro out2 ⟨s4, ss2⟩
          refine TC.region ?_
          refine TL.move rfl rfl (v := .int .i64 i1) rfl ?_
          refine TL.bin .i64 i1 1 rfl rfl rfl rfl (v := .int .i64 (w64 (i1 + 1))) rfl ?_
          refine TL.assign rfl rfl (v := .int .i64 (w64 (i1 + 1))) rfl ?_
          refine TL.done ?_
          exact TC.next1 ((out2, (w64 (i1 + 1)))) ((s4, ss2)) ⟨rfl, rfl, rfl, trivial⟩ [0] rfl
      · exact TC.brk1 ((out1, i1)) ((s3, ss1)) ⟨rfl, rfl, rfl, trivial⟩ [0] rfl
    · rintro ⟨out1, i1⟩ ⟨s3, ss1⟩
      refine TC.seq ?_
      refine TC.region ?_
      refine TL.move rfl rfl (v := SV.v s3) rfl ?_
      refine TL.assign rfl rfl (v := SV.v s3) rfl ?_
      refine TL.assign rfl rfl (v := .int .i64 0) rfl ?_
      refine TL.done ?_
      exact TC.retF (Fin.body (fin2 (.inr rfl) rfl (.tmp rfl) (.tmp rfl) [0] rfl ⟨s3, ss1, rfl, rfl⟩))

end Go.Proofs.Ytiiljfpbcanphaa.G

/- impl.in, as a pure function. -/
set_option linter.unusedVariables false
namespace Go.Proofs.Ytiiljfpbcanphaa.G
open Go Go.Sx Go.Proofs

def impl_in.f (n_1 : Int) (low1 : Int) (high1 : Int) : Option Bool := some ((decide (n_1 ≥ low1)) && (decide (n_1 ≤ high1)))

def impl_in.R (r : Bool) (v : Value) (L : List Asn) : Prop := v = .bool r ∧ L = []

set_option maxRecDepth 100000 in
set_option maxHeartbeats 4000000 in
theorem impl_in.calls (w : World) (n_1 : Int) (low1 : Int) (high1 : Int) :
    ∀ r, impl_in.f n_1 low1 high1 = some r → Calls Try.prog 72 #[.int .i64 n_1, .int .i64 low1, .int .i64 high1] w (Ret w (impl_in.R r)) := by

  refine calls_T (n := 15) (Γ := [(0, .int .i64 n_1), (1, .int .i64 low1), (2, .int .i64 high1)]) (R := impl_in.R) Try.func72 rfl rfl (Nat.le_of_ble_eq_true rfl) ⟨rfl, rfl, rfl, trivial⟩ ?_
  unfold impl_in.f
  refine TC.seq ?_
  refine TC.region ?_
  refine TL.assign rfl rfl (v := .bool false) rfl ?_
  refine TL.done ?_
  refine TC.seq ?_
  refine TC.region ?_
  refine TL.move rfl rfl (v := .int .i64 n_1) rfl ?_
  refine TL.move rfl rfl (v := .int .i64 low1) rfl ?_
  refine TL.bin .i64 n_1 low1 rfl rfl rfl rfl (v := .bool (decide (n_1 ≥ low1))) rfl ?_
  refine TL.move rfl rfl (v := .bool (decide (n_1 ≥ low1))) rfl ?_
  refine TL.cutU 4 [(14, .bool ((decide (n_1 ≥ low1)) && (decide (n_1 ≤ high1)))), (0, .int .i64 n_1), (1, .int .i64 low1), (2, .int .i64 high1), (6, .bool false), (7, .int .i64 n_1), (8, .int .i64 low1), (9, .bool (decide (n_1 ≥ low1))), (10, .bool (decide (n_1 ≥ low1)))] [] ?_ ?_
  · refine TL.cases (t := 10) (b := (decide (n_1 ≥ low1))) rfl (fun c1 => ?_) (fun c2 => ?_)
    · refine TL.move rfl rfl (v := .int .i64 n_1) rfl ?_
      refine TL.move rfl rfl (v := .int .i64 high1) rfl ?_
      refine TL.bin .i64 n_1 high1 rfl rfl rfl rfl (v := .bool (decide (n_1 ≤ high1))) rfl ?_
      refine TL.pick rfl rfl (b := true) rfl (r := .bool (decide (n_1 ≤ high1))) rfl ?_
      refine TL.done ?_
      exact TC.nrm () () ⟨(by rw [c1]; rfl), rfl, rfl, rfl, rfl, rfl, rfl, rfl, (by rw [c1]; rfl), trivial⟩ [] (by kernel_rfl)
    · refine TL.skip rfl rfl (by decide) ?_
      refine TL.skip rfl rfl (by decide) ?_
      refine TL.skip rfl rfl (by decide) ?_
      refine TL.pick rfl rfl (b := false) rfl (r := .bool false) rfl ?_
      refine TL.done ?_
      exact TC.nrm () () ⟨(by rw [c2]; rfl), rfl, rfl, rfl, rfl, rfl, rfl, rfl, (by rw [c2]; rfl), trivial⟩ [] (by kernel_rfl)
  · refine TL.assign rfl rfl (v := .bool ((decide (n_1 ≥ low1)) && (decide (n_1 ≤ high1)))) rfl ?_
    refine TL.done ?_
    exact TC.retF (Fin.body (fin1 (.inr rfl) rfl (.tmp rfl) [] rfl ⟨rfl, rfl⟩))

end Go.Proofs.Ytiiljfpbcanphaa.G

/- impl.stairsOk, as a pure function. -/
set_option linter.unusedVariables false
namespace Go.Proofs.Ytiiljfpbcanphaa.G
open Go Go.Sx Go.Proofs

def impl_stairsOk.b0 (stairs1 : List Int) : Int × Int → Option (LR (Int × Int) Bool) := fun p => match p with | (sum1, x1) => (bif (decide (x1 < (stairs1.length : Int))) then chk x1 stairs1.length ((G.impl_in.f (gt stairs1 x1) 1 6).bind (fun r_1 => (bif (!r_1) then some true else (bif (decide (x1 > 0)) then chk (w64 (x1 - 1)) stairs1.length (some (decide ((gt stairs1 (w64 (x1 - 1))) < (gt stairs1 x1)))) else some false).bind (fun b_2 => some b_2)).bind (fun b_1 => (bif b_1 then some (.ret (false)) else some (.next ((w64 (sum1 + (gt stairs1 x1))), (w64 (x1 + 1)))))))) else some (.brk (sum1, x1)))

def impl_stairsOk.f (stairs1 : List Int) : Option Bool := (loop (impl_stairsOk.b0 stairs1) (0, 0)).bind (ln (fun p => match p with | (sum1, x1) => some ((decide ((stairs1.length : Int) > 0)) && (decide (sum1 ≤ 6)))))

def impl_stairsOk.R (r : Bool) (v : Value) (L : List Asn) : Prop := v = .bool r ∧ L = []

set_option maxRecDepth 100000 in
set_option maxHeartbeats 4000000 in
theorem impl_stairsOk.calls (w : World) (s1 : SV) (stairs1 : List Int) (h1 : Reads Ei (hp w) s1 stairs1) :
    ∀ r, impl_stairsOk.f stairs1 = some r → Calls Try.prog 81 #[SV.v s1] w (Ret w (impl_stairsOk.R r)) := by

  refine calls_T (n := 40) (Γ := [(0, SV.v s1)]) (R := impl_stairsOk.R) Try.func81 rfl rfl (Nat.le_of_ble_eq_true rfl) ⟨rfl, trivial⟩ ?_
  unfold impl_stairsOk.f
  refine TC.seq ?_
  refine TC.region ?_
  refine TL.assign rfl rfl (v := .bool false) rfl ?_
  refine TL.done ?_
  refine TC.seq ?_
  refine TC.region ?_
  refine TL.assign rfl rfl (v := .int .i64 0) rfl ?_
  refine TL.done ?_
  refine TC.seq ?_
  refine TC.seq ?_
  refine TC.region ?_
  refine TL.move rfl rfl (v := SV.v s1) rfl ?_
  refine TL.len (Rd.old h1) Try.underlying22 rfl rfl rfl ?_
  refine TL.move rfl rfl (v := .int .i64 0) rfl ?_
  refine TL.done ?_
  refine TC.loopK (σ := Int × Int) (γ := Unit) (Γ' := (fun p q => match p, q with | (sum1, x1), _ => [(0, SV.v s1), (3, .int .i64 sum1), (6, SV.v s1), (7, .int .i64 (stairs1.length : Int)), (8, .int .i64 x1)])) (L' := (fun p q => match p, q with | (sum1, x1), _ => [])) (Γb := (fun p q => match p, q with | (sum1, x1), _ => [(0, SV.v s1), (3, .int .i64 sum1), (6, SV.v s1), (7, .int .i64 (stairs1.length : Int)), (8, .int .i64 x1)])) (Lb := (fun p q => match p, q with | (sum1, x1), _ => [])) ((0, 0)) (()) ⟨rfl, rfl, rfl, rfl, rfl, trivial⟩ [] rfl ?_ ?_
  · rintro ⟨sum1, x1⟩ _
    refine TC.seq ?_
    refine TC.region ?_
    refine TL.bin .i64 x1 (stairs1.length : Int) rfl rfl rfl rfl (v := .bool (decide (x1 < (stairs1.length : Int)))) rfl ?_
    refine TL.done ?_
    refine TC.seq ?_
    refine TC.cond (b := (decide (x1 < (stairs1.length : Int)))) rfl (fun c1 => ?_) (fun c2 => ?_)
    · refine TC.skip ?_
      refine TC.seq ?_
      refine TC.block (NoEx.loop rfl NoEx.body) ?_
      refine TC.seq ?_
      refine TC.region ?_
      refine TL.move rfl rfl (v := .int .i64 x1) rfl ?_
      refine TL.chk fun h2 => ?_
      refine TL.ixs x1 x1.toNat (Rd.old h1) h2 Try.underlying22 Try.sizeOf2 rfl rfl rfl rfl (by omega) ?_
      refine TL.loadE (Rd.old h1) Try.isAgg2 x1.toNat 0 (gt_spec h2) (v := .int .i64 (gt stairs1 x1)) rfl (by simp only [show Ei.sz = 1 from rfl] <;> omega) rfl rfl rfl ?_
      refine TL.assign rfl rfl (v := .int .i64 x1) rfl ?_
      refine TL.assign rfl rfl (v := .int .i64 (gt stairs1 x1)) rfl ?_
      refine TL.done ?_
      refine TC.seq ?_
      refine TC.seq ?_
      refine TC.region ?_
      refine TL.move rfl rfl (v := .int .i64 (gt stairs1 x1)) rfl ?_
      refine TL.call (R := G.impl_in.R) Try.call72 rfl rfl rfl (fun w hS => G.impl_in.calls w (gt stairs1 x1) 1 6) ?_
      rintro r_1 _ _ ⟨rfl, rfl⟩
      refine TL.not r_1 rfl rfl rfl ?_
      refine TL.move rfl rfl (v := .bool (!r_1)) rfl ?_
      refine TL.cutJ (σ := Bool) (γ := Unit) (Γ' := fun b_1 _ => [(28, .bool b_1), (0, SV.v s1), (3, .int .i64 sum1), (6, SV.v s1), (7, .int .i64 (stairs1.length : Int)), (8, .int .i64 x1), (9, .bool (decide (x1 < (stairs1.length : Int)))), (10, .int .i64 x1), (11, ep s1 x1.toNat), (12, .int .i64 (gt stairs1 x1)), (4, .int .i64 x1), (5, .int .i64 (gt stairs1 x1)), (13, .int .i64 (gt stairs1 x1)), (14, .bool r_1), (15, .bool (!r_1)), (16, .bool (!r_1))]) (L' := fun _ _ => []) 12 ?_ ?_
      · refine TL.ifb (t := 16) (b := (!r_1)) rfl (fun c3 => ?_) (fun c4 => ?_)
        · refine TL.skip rfl rfl (by decide) ?_
          refine TL.skip rfl rfl (by decide) ?_
          refine TL.skip rfl rfl (by decide) ?_
          refine TL.skip rfl rfl (by decide) ?_
          refine TL.skip rfl rfl (by decide) ?_
          refine TL.skip rfl rfl (by decide) ?_
          refine TL.skip rfl rfl (by decide) ?_
          refine TL.skip rfl rfl (by decide) ?_
          refine TL.skip rfl rfl (by decide) ?_
          refine TL.skip rfl rfl (by decide) ?_
          refine TL.skip rfl rfl (by decide) ?_
          refine TL.pick rfl rfl (b := true) rfl (r := .bool true) rfl ?_
          refine TL.done ?_
          exact TC.nrm (true) () ⟨rfl, rfl, rfl, rfl, rfl, rfl, rfl, rfl, rfl, rfl, rfl, rfl, rfl, rfl, rfl, (by rw [c3]; rfl), trivial⟩ [] (by kernel_rfl)
        · refine TL.move rfl rfl (v := .int .i64 x1) rfl ?_
          refine TL.bin .i64 x1 0 rfl rfl rfl rfl (v := .bool (decide (x1 > 0))) rfl ?_
          refine TL.move rfl rfl (v := .bool (decide (x1 > 0))) rfl ?_
          refine TL.cutJ (σ := Bool) (γ := Unit) (Γ' := fun b_2 _ => [(27, .bool b_2), (0, SV.v s1), (3, .int .i64 sum1), (6, SV.v s1), (7, .int .i64 (stairs1.length : Int)), (8, .int .i64 x1), (9, .bool (decide (x1 < (stairs1.length : Int)))), (10, .int .i64 x1), (11, ep s1 x1.toNat), (12, .int .i64 (gt stairs1 x1)), (4, .int .i64 x1), (5, .int .i64 (gt stairs1 x1)), (13, .int .i64 (gt stairs1 x1)), (14, .bool r_1), (15, .bool (!r_1)), (16, .bool false), (17, .int .i64 x1), (18, .bool (decide (x1 > 0))), (19, .bool (decide (x1 > 0)))]) (L' := fun _ _ => []) 8 ?_ ?_
          · refine TL.ifb (t := 19) (b := (decide (x1 > 0))) rfl (fun c5 => ?_) (fun c6 => ?_)
            · refine TL.move rfl rfl (v := SV.v s1) rfl ?_
              refine TL.move rfl rfl (v := .int .i64 x1) rfl ?_
              refine TL.bin .i64 x1 1 rfl rfl rfl rfl (v := .int .i64 (w64 (x1 - 1))) rfl ?_
              refine TL.chk fun h3 => ?_
              refine TL.ixs (w64 (x1 - 1)) ((w64 (x1 - 1)).toNat) (Rd.old h1) h3 Try.underlying22 Try.sizeOf2 rfl rfl rfl rfl (by omega) ?_
              refine TL.loadE (Rd.old h1) Try.isAgg2 (w64 (x1 - 1)).toNat 0 (gt_spec h3) (v := .int .i64 (gt stairs1 (w64 (x1 - 1)))) rfl (by simp only [show Ei.sz = 1 from rfl] <;> omega) rfl rfl rfl ?_
              refine TL.move rfl rfl (v := .int .i64 (gt stairs1 x1)) rfl ?_
              refine TL.bin .i64 (gt stairs1 (w64 (x1 - 1))) (gt stairs1 x1) rfl rfl rfl rfl (v := .bool (decide ((gt stairs1 (w64 (x1 - 1))) < (gt stairs1 x1)))) rfl ?_
              refine TL.pick rfl rfl (b := true) rfl (r := .bool (decide ((gt stairs1 (w64 (x1 - 1))) < (gt stairs1 x1)))) rfl ?_
              refine TL.done ?_
              exact TC.nrm ((decide ((gt stairs1 (w64 (x1 - 1))) < (gt stairs1 x1)))) () ⟨rfl, rfl, rfl, rfl, rfl, rfl, rfl, rfl, rfl, rfl, rfl, rfl, rfl, rfl, rfl, rfl, rfl, rfl, (by rw [c5]; rfl), trivial⟩ [] (by kernel_rfl)
            · refine TL.skip rfl rfl (by decide) ?_
              refine TL.skip rfl rfl (by decide) ?_
              refine TL.skip rfl rfl (by decide) ?_
              refine TL.skip rfl rfl (by decide) ?_
              refine TL.skip rfl rfl (by decide) ?_
              refine TL.skip rfl rfl (by decide) ?_
              refine TL.skip rfl rfl (by decide) ?_
              refine TL.pick rfl rfl (b := false) rfl (r := .bool false) rfl ?_
              refine TL.done ?_
              exact TC.nrm (false) () ⟨rfl, rfl, rfl, rfl, rfl, rfl, rfl, rfl, rfl, rfl, rfl, rfl, rfl, rfl, rfl, rfl, rfl, rfl, (by rw [c6]; rfl), trivial⟩ [] (by kernel_rfl)
          · rintro b_2 _
            refine TL.pick rfl rfl (b := false) rfl (r := .bool b_2) rfl ?_
            refine TL.done ?_
            exact TC.nrm (b_2) () ⟨rfl, rfl, rfl, rfl, rfl, rfl, rfl, rfl, rfl, rfl, rfl, rfl, rfl, rfl, rfl, (by rw [c4]; rfl), trivial⟩ [] (by kernel_rfl)
      · rintro b_1 _
        refine TL.done ?_
        refine TC.cond (b := b_1) rfl (fun c7 => ?_) (fun c8 => ?_)
        · refine TC.seq ?_
          refine TC.region ?_
          refine TL.assign rfl rfl (v := .bool false) rfl ?_
          refine TL.done ?_
          exact TC.retF (Fin.loop Far.ret (Fin.body (fin1 (.inr rfl) rfl (.tmp rfl) [] rfl ⟨rfl, rfl⟩)))
        · refine TC.skip ?_
          refine TC.region ?_
          refine TL.move rfl rfl (v := .int .i64 sum1) rfl ?_
          refine TL.move rfl rfl (v := .int .i64 (gt stairs1 x1)) rfl ?_
          refine TL.bin .i64 sum1 (gt stairs1 x1) rfl rfl rfl rfl (v := .int .i64 (w64 (sum1 + (gt stairs1 x1)))) rfl ?_
          refine TL.assign rfl rfl (v := .int .i64 (w64 (sum1 + (gt stairs1 x1)))) rfl ?_
          refine TL.done ?_
          refine TC.region ?_
          refine TL.bin .i64 x1 1 rfl rfl rfl rfl (v := .int .i64 (w64 (x1 + 1))) rfl ?_
          refine TL.move rfl rfl (v := .int .i64 (w64 (x1 + 1))) rfl ?_
          refine TL.done ?_
          exact TC.next (((w64 (sum1 + (gt stairs1 x1))), (w64 (x1 + 1)))) (()) ⟨rfl, rfl, rfl, rfl, rfl, trivial⟩ [] rfl
    · exact TC.brk ((sum1, x1)) (()) ⟨rfl, rfl, rfl, rfl, rfl, trivial⟩ [] rfl
  · rintro ⟨sum1, x1⟩ _
    refine TC.seq ?_
    refine TC.region ?_
    refine TL.move rfl rfl (v := SV.v s1) rfl ?_
    refine TL.len (Rd.old h1) Try.underlying22 rfl rfl rfl ?_
    refine TL.bin .i64 (stairs1.length : Int) 0 rfl rfl rfl rfl (v := .bool (decide ((stairs1.length : Int) > 0))) rfl ?_
    refine TL.move rfl rfl (v := .bool (decide ((stairs1.length : Int) > 0))) rfl ?_
    refine TL.cutU 3 [(39, .bool ((decide ((stairs1.length : Int) > 0)) && (decide (sum1 ≤ 6)))), (0, SV.v s1), (3, .int .i64 sum1), (6, SV.v s1), (7, .int .i64 (stairs1.length : Int)), (8, .int .i64 x1), (33, SV.v s1), (34, .int .i64 (stairs1.length : Int)), (35, .bool (decide ((stairs1.length : Int) > 0))), (36, .bool (decide ((stairs1.length : Int) > 0)))] [] ?_ ?_
    · refine TL.cases (t := 36) (b := (decide ((stairs1.length : Int) > 0))) rfl (fun c9 => ?_) (fun c10 => ?_)
      · refine TL.move rfl rfl (v := .int .i64 sum1) rfl ?_
        refine TL.bin .i64 sum1 6 rfl rfl rfl rfl (v := .bool (decide (sum1 ≤ 6))) rfl ?_
        refine TL.pick rfl rfl (b := true) rfl (r := .bool (decide (sum1 ≤ 6))) rfl ?_
        refine TL.done ?_
        exact TC.nrm () () ⟨(by rw [c9]; rfl), rfl, rfl, rfl, rfl, rfl, rfl, rfl, rfl, (by rw [c9]; rfl), trivial⟩ [] (by kernel_rfl)
      · refine TL.skip rfl rfl (by decide) ?_
        refine TL.skip rfl rfl (by decide) ?_
        refine TL.pick rfl rfl (b := false) rfl (r := .bool false) rfl ?_
        refine TL.done ?_
        exact TC.nrm () () ⟨(by rw [c10]; rfl), rfl, rfl, rfl, rfl, rfl, rfl, rfl, rfl, (by rw [c10]; rfl), trivial⟩ [] (by kernel_rfl)
    · refine TL.assign rfl rfl (v := .bool ((decide ((stairs1.length : Int) > 0)) && (decide (sum1 ≤ 6)))) rfl ?_
      refine TL.done ?_
      exact TC.retF (Fin.body (fin1 (.inr rfl) rfl (.tmp rfl) [] rfl ⟨rfl, rfl⟩))

end Go.Proofs.Ytiiljfpbcanphaa.G

/- impl.monomials, as a pure function. -/
set_option linter.unusedVariables false
namespace Go.Proofs.Ytiiljfpbcanphaa.G
open Go Go.Sx Go.Proofs

def impl_monomials.b0 (stairs1 : List Int) (x1 : Int) : (List (Int × Int)) × Int → Option (LB ((List (Int × Int)) × Int)) := fun p => match p with | (out2, x2) => (bif (decide (x2 < (gt stairs1 x1))) then small (out2.length + ([(x1, x2)] : List (Int × Int)).length) (some (.next ((out2 ++ ([(x1, x2)] : List (Int × Int))), (w64 (x2 + 1))))) else some (.brk (out2, x2)))

def impl_monomials.b1 (stairs1 : List Int) : (List (Int × Int)) × Int → Option (LB ((List (Int × Int)) × Int)) := fun p => match p with | (out1, x1) => (bif (decide (x1 < (stairs1.length : Int))) then chk x1 stairs1.length ((loop1 (impl_monomials.b0 stairs1 x1) (out1, 0)).bind (fun p => match p with | (out2, x2) => some (.next (out2, (w64 (x1 + 1)))))) else some (.brk (out1, x1)))

def impl_monomials.f (stairs1 : List Int) : Option (List (Int × Int)) := (loop1 (impl_monomials.b1 stairs1) (([] : List (Int × Int)), 0)).bind (fun p => match p with | (out1, x1) => some out1)

def impl_monomials.R (r : List (Int × Int)) (v : Value) (L : List Asn) : Prop := ∃ (s0 : SV), v = SV.v s0 ∧ L = [row Eii 77 s0 r]

set_option maxRecDepth 100000 in
set_option maxHeartbeats 4000000 in
theorem impl_monomials.calls (w : World) (s1 : SV) (stairs1 : List Int) (h1 : Reads Ei (hp w) s1 stairs1) :
    ∀ r, impl_monomials.f stairs1 = some r → Calls Try.prog 82 #[SV.v s1] w (Ret w (impl_monomials.R r)) := by

  refine calls_T (n := 28) (Γ := [(0, SV.v s1)]) (R := impl_monomials.R) Try.func82 rfl rfl (Nat.le_of_ble_eq_true rfl) ⟨rfl, trivial⟩ ?_
  unfold impl_monomials.f
  refine TC.seq ?_
  refine TC.region ?_
  refine TL.assign rfl rfl (v := SV.v ⟨none, 0, 0⟩) rfl ?_
  refine TL.done ?_
  refine TC.seq ?_
  refine TC.region ?_
  refine TL.bslice0 Eii Try.underlying74 Try.sizeOf77 rfl rfl fun s2 => ?_
  refine TL.assign rfl rfl (v := SV.v s2) rfl ?_
  refine TL.done ?_
  refine TC.seq ?_
  refine TC.seq ?_
  refine TC.region ?_
  refine TL.move rfl rfl (v := SV.v s1) rfl ?_
  refine TL.len (Rd.old h1) Try.underlying22 rfl rfl rfl ?_
  refine TL.move rfl rfl (v := .int .i64 0) rfl ?_
  refine TL.done ?_
  refine TC.loop1 (σ := (List (Int × Int)) × Int) (γ := SV) (Γ' := (fun p q => match p, q with | (out1, x1), s3 => [(3, SV.v s3), (8, SV.v s1), (9, .int .i64 (stairs1.length : Int)), (10, .int .i64 x1)])) (L' := (fun p q => match p, q with | (out1, x1), s3 => [row Eii 77 s3 out1])) (Γb := (fun p q => match p, q with | (out1, x1), s3 => [(3, SV.v s3), (8, SV.v s1), (9, .int .i64 (stairs1.length : Int)), (10, .int .i64 x1)])) (Lb := (fun p q => match p, q with | (out1, x1), s3 => [row Eii 77 s3 out1])) ((([] : List (Int × Int)), 0)) (s2) ⟨rfl, rfl, rfl, rfl, trivial⟩ [0] rfl ?_ ?_
  · rintro ⟨out1, x1⟩ s3
    refine TC.seq ?_
    refine TC.region ?_
    refine TL.bin .i64 x1 (stairs1.length : Int) rfl rfl rfl rfl (v := .bool (decide (x1 < (stairs1.length : Int)))) rfl ?_
    refine TL.done ?_
    refine TC.seq ?_
    refine TC.cond (b := (decide (x1 < (stairs1.length : Int)))) rfl (fun c1 => ?_) (fun c2 => ?_)
    · refine TC.skip ?_
      refine TC.seq ?_
      refine TC.block (NoEx.loop1 rfl) ?_
      refine TC.seq ?_
      refine TC.region ?_
      refine TL.move rfl rfl (v := .int .i64 x1) rfl ?_
      refine TL.chk fun h2 => ?_
      refine TL.ixs x1 x1.toNat (Rd.old h1) h2 Try.underlying22 Try.sizeOf2 rfl rfl rfl rfl (by omega) ?_
      refine TL.loadE (Rd.old h1) Try.isAgg2 x1.toNat 0 (gt_spec h2) (v := .int .i64 (gt stairs1 x1)) rfl (by simp only [show Ei.sz = 1 from rfl] <;> omega) rfl rfl rfl ?_
      refine TL.assign rfl rfl (v := .int .i64 x1) rfl ?_
      refine TL.assign rfl rfl (v := .int .i64 (gt stairs1 x1)) rfl ?_
      refine TL.done ?_
      refine TC.seq ?_
      refine TC.region ?_
      refine TL.move rfl rfl (v := .int .i64 (gt stairs1 x1)) rfl ?_
      refine TL.move rfl rfl (v := .int .i64 0) rfl ?_
      refine TL.done ?_
      refine TC.loop1 (σ := (List (Int × Int)) × Int) (γ := SV) (Γ' := (fun p q => match p, q with | (out2, x2), s4 => [(3, SV.v s4), (4, .int .i64 x1), (8, SV.v s1), (9, .int .i64 (stairs1.length : Int)), (10, .int .i64 x1), (15, .int .i64 (gt stairs1 x1)), (16, .int .i64 x2)])) (L' := (fun p q => match p, q with | (out2, x2), s4 => [row Eii 77 s4 out2])) (Γb := (fun p q => match p, q with | (out2, x2), s4 => [(3, SV.v s4), (4, .int .i64 x1), (8, SV.v s1), (9, .int .i64 (stairs1.length : Int)), (10, .int .i64 x1), (15, .int .i64 (gt stairs1 x1)), (16, .int .i64 x2)])) (Lb := (fun p q => match p, q with | (out2, x2), s4 => [row Eii 77 s4 out2])) ((out1, 0)) (s3) ⟨rfl, rfl, rfl, rfl, rfl, rfl, rfl, trivial⟩ [0] rfl ?_ ?_
      · rintro ⟨out2, x2⟩ s4
        refine TC.seq ?_
        refine TC.region ?_
        refine TL.bin .i64 x2 (gt stairs1 x1) rfl rfl rfl rfl (v := .bool (decide (x2 < (gt stairs1 x1)))) rfl ?_
        refine TL.done ?_
        refine TC.seq ?_
        refine TC.cond (b := (decide (x2 < (gt stairs1 x1)))) rfl (fun c3 => ?_) (fun c4 => ?_)
        · refine TC.skip ?_
          refine TC.seq ?_
          refine TC.block (NoEx.loop1 rfl) ?_
          refine TC.seq ?_
          refine TC.region ?_
          refine TL.move rfl rfl (v := .int .i64 x2) rfl ?_
          refine TL.assign rfl rfl (v := .int .i64 x2) rfl ?_
          refine TL.done ?_
          refine TC.region ?_
          refine TL.move rfl rfl (v := SV.v s4) rfl ?_
          refine TL.move rfl rfl (v := .int .i64 x1) rfl ?_
          refine TL.move rfl rfl (v := .int .i64 x2) rfl ?_
          refine TL.buildS (segs0 := [.one (.int .i64 0), .one (.int .i64 0)]) (segs := [.one (.int .i64 x1), .one (.int .i64 x2)]) [1, 1] Try.underlying77 ⟨Try.sizeOf2, Try.sizeOf2, trivial⟩ Try.zeroValue77 rfl [(0, .int .i64 x1), (1, .int .i64 x2)] rfl (fun pl hpl => by subst hpl; exact fill_one 0 rfl rfl rfl rfl (fill_one 1 rfl rfl rfl rfl (rfl))) rfl rfl ?_
          refine TL.blit Eii ([(x1, x2)] : List (Int × Int)) Try.underlying74 Try.sizeOf77 Try.zeroValue77 rfl rfl rfl [(0, sval [.one (.int .i64 x1), .one (.int .i64 x2)])] rfl ⟨rfl, rfl, trivial⟩ rfl rfl fun s5 => ?_
          refine TL.small fun h3 => ?_
          refine TL.append 1 rfl (Rd.row 0 rfl) Try.underlying74 (info_of Try.type77) (zv := (Try.t77.zero.getD (.bool false))) rfl rfl rfl (by decide) h3 rfl rfl rfl rfl fun s6 => ?_
          refine TL.assign rfl rfl (v := SV.v s6) rfl ?_
          refine TL.done ?_
          refine TC.region ?_
          refine TL.bin .i64 x2 1 rfl rfl rfl rfl (v := .int .i64 (w64 (x2 + 1))) rfl ?_
          refine TL.move rfl rfl (v := .int .i64 (w64 (x2 + 1))) rfl ?_
          refine TL.done ?_
          exact TC.next1 (((out2 ++ ([(x1, x2)] : List (Int × Int))), (w64 (x2 + 1)))) (s6) ⟨rfl, rfl, rfl, rfl, rfl, rfl, rfl, trivial⟩ [1] rfl
        · exact TC.brk1 ((out2, x2)) (s4) ⟨rfl, rfl, rfl, rfl, rfl, rfl, rfl, trivial⟩ [0] rfl
      · rintro ⟨out2, x2⟩ s4
        refine TC.region ?_
        refine TL.bin .i64 x1 1 rfl rfl rfl rfl (v := .int .i64 (w64 (x1 + 1))) rfl ?_
        refine TL.move rfl rfl (v := .int .i64 (w64 (x1 + 1))) rfl ?_
        refine TL.done ?_
        exact TC.next1 ((out2, (w64 (x1 + 1)))) (s4) ⟨rfl, rfl, rfl, rfl, trivial⟩ [0] rfl
    · exact TC.brk1 ((out1, x1)) (s3) ⟨rfl, rfl, rfl, rfl, trivial⟩ [0] rfl
  · rintro ⟨out1, x1⟩ s3
    refine TC.seq ?_
    refine TC.region ?_
    refine TL.move rfl rfl (v := SV.v s3) rfl ?_
    refine TL.assign rfl rfl (v := SV.v s3) rfl ?_
    refine TL.done ?_
    exact TC.retF (Fin.body (fin1 (.inr rfl) rfl (.tmp rfl) [0] rfl ⟨s3, rfl, rfl⟩))

end Go.Proofs.Ytiiljfpbcanphaa.G

/- impl.monomial], as a pure function. -/
set_option linter.unusedVariables false
namespace Go.Proofs.Ytiiljfpbcanphaa.G
open Go Go.Sx Go.Proofs

def slices_Index_impl_monomial_impl_monomial.b0 (s1 : List (Int × Int)) (v_1 : Int) (v_2 : Int) : Int → Option (LR Int Int) := fun x1 => (bif (decide (x1 < (s1.length : Int))) then chk x1 s1.length ((bif (v_1 == ((gt s1 x1).1) && v_2 == ((gt s1 x1).2)) then some (.ret (x1)) else some (.next (w64 (x1 + 1))))) else some (.brk x1))

def slices_Index_impl_monomial_impl_monomial.f (s1 : List (Int × Int)) (v_1 : Int) (v_2 : Int) : Option Int := (loop (slices_Index_impl_monomial_impl_monomial.b0 s1 v_1 v_2) 0).bind (ln (fun x1 => some (-1)))

def slices_Index_impl_monomial_impl_monomial.R (r : Int) (v : Value) (L : List Asn) : Prop := v = .int .i64 r ∧ L = []

set_option maxRecDepth 100000 in
set_option maxHeartbeats 4000000 in
theorem slices_Index_impl_monomial_impl_monomial.calls (w : World) (s2 : SV) (s1 : List (Int × Int)) (v_1 : Int) (v_2 : Int) (h1 : Reads Eii (hp w) s2 s1) :
    ∀ r, slices_Index_impl_monomial_impl_monomial.f s1 v_1 v_2 = some r → Calls Try.prog 89 #[SV.v s2, sval [.one (.int .i64 v_1), .one (.int .i64 v_2)]] w (Ret w (slices_Index_impl_monomial_impl_monomial.R r)) := by

  refine calls_T (n := 19) (Γ := [(0, SV.v s2), (1, sval [.one (.int .i64 v_1), .one (.int .i64 v_2)])]) (R := slices_Index_impl_monomial_impl_monomial.R) Try.func89 rfl rfl (Nat.le_of_ble_eq_true rfl) ⟨rfl, rfl, trivial⟩ ?_
  unfold slices_Index_impl_monomial_impl_monomial.f
  refine TC.seq ?_
  refine TC.region ?_
  refine TL.box [.one (.int .i64 v_1), .one (.int .i64 v_2)] rfl rfl rfl rfl fun b_1 => ?_
  refine TL.assign rfl rfl (v := .int .i64 0) rfl ?_
  refine TL.done ?_
  refine TC.seq ?_
  refine TC.seq ?_
  refine TC.region ?_
  refine TL.move rfl rfl (v := SV.v s2) rfl ?_
  refine TL.len (Rd.old h1) Try.underlying74 rfl rfl rfl ?_
  refine TL.move rfl rfl (v := .int .i64 0) rfl ?_
  refine TL.done ?_
  refine TC.loopK (σ := Int) (γ := Unit) (Γ' := (fun x1 _ => [(0, SV.v s2), (3, bp b_1 0), (7, .int .i64 (s1.length : Int)), (8, .int .i64 x1)])) (L' := (fun x1 _ => [box b_1 77 [.one (.int .i64 v_1), .one (.int .i64 v_2)]])) (Γb := (fun x1 _ => [(0, SV.v s2), (3, bp b_1 0), (7, .int .i64 (s1.length : Int)), (8, .int .i64 x1)])) (Lb := (fun x1 _ => [box b_1 77 [.one (.int .i64 v_1), .one (.int .i64 v_2)]])) (0) (()) ⟨rfl, rfl, rfl, rfl, trivial⟩ [0] rfl ?_ ?_
  · rintro x1 _
    refine TC.seq ?_
    refine TC.region ?_
    refine TL.bin .i64 x1 (s1.length : Int) rfl rfl rfl rfl (v := .bool (decide (x1 < (s1.length : Int)))) rfl ?_
    refine TL.done ?_
    refine TC.seq ?_
    refine TC.cond (b := (decide (x1 < (s1.length : Int)))) rfl (fun c1 => ?_) (fun c2 => ?_)
    · refine TC.skip ?_
      refine TC.seq ?_
      refine TC.block (NoEx.loop rfl NoEx.body) ?_
      refine TC.seq ?_
      refine TC.region ?_
      refine TL.move rfl rfl (v := .int .i64 x1) rfl ?_
      refine TL.assign rfl rfl (v := .int .i64 x1) rfl ?_
      refine TL.done ?_
      refine TC.seq ?_
      refine TC.wk (Γ' := [(0, SV.v s2), (3, bp b_1 0), (7, .int .i64 (s1.length : Int)), (8, .int .i64 x1), (9, .bool (decide (x1 < (s1.length : Int)))), (10, .int .i64 x1), (5, .int .i64 x1)]) ⟨rfl, rfl, rfl, rfl, rfl, rfl, rfl, trivial⟩ ?_
      refine TC.chk fun h2 => ?_
      refine TC.draw [sval [.one (.int .i64 v_1), .one (.int .i64 v_2)], SV.v s2, .int .i64 x1, ep s2 (x1.toNat * 2), sval [.one (.int .i64 ((gt s1 x1).1)), .one (.int .i64 ((gt s1 x1).2))], .bool (v_1 == ((gt s1 x1).1) && v_2 == ((gt s1 x1).2))] 6 [box b_1 77 [.one (.int .i64 v_1), .one (.int .i64 v_2)]] (by kernel_rfl) rfl rfl rfl rfl ?_ ?_
      · refine ⟨?_, ?_, ?_, ?_, ?_, ?_, trivial⟩
        · refine TL.loadM 0 2 (Src.box 0 rfl) Try.isAgg77 Try.sizeOf77 (mid := [.one (.int .i64 v_1), .one (.int .i64 v_2)]) rfl rfl rfl rfl rfl rfl ?_
          refine TL.done ?_
          exact TC.nrm () () ⟨rfl, trivial⟩ [0] (by kernel_rfl)
        · refine TL.move rfl rfl (v := SV.v s2) rfl ?_
          refine TL.done ?_
          exact TC.nrm () () ⟨rfl, trivial⟩ [0] (by kernel_rfl)
        · refine TL.move rfl rfl (v := .int .i64 x1) rfl ?_
          refine TL.done ?_
          exact TC.nrm () () ⟨rfl, trivial⟩ [0] (by kernel_rfl)
        · refine TL.ixs x1 (x1.toNat * 2) (Rd.old h1) h2 Try.underlying74 Try.sizeOf77 rfl rfl rfl rfl (by omega) ?_
          refine TL.done ?_
          exact TC.nrm () () ⟨rfl, trivial⟩ [0] (by kernel_rfl)
        · refine TL.loadEA (Rd.old h1) Try.isAgg77 Try.sizeOf77 x1.toNat (gt_spec h2) (v := sval [.one (.int .i64 ((gt s1 x1).1)), .one (.int .i64 ((gt s1 x1).2))]) rfl (by simp only [show Eii.sz = 2 from rfl] <;> omega) rfl rfl rfl ?_
          refine TL.done ?_
          exact TC.nrm () () ⟨rfl, trivial⟩ [0] (by kernel_rfl)
        · refine TL.eqII v_1 v_2 ((gt s1 x1).1) ((gt s1 x1).2) Try.underlying77 (by decide) (by decide) rfl rfl Try.underlying2 Try.underlying2 Try.isAgg2 Try.isAgg2 (by kernel_rfl) (by kernel_rfl) rfl rfl rfl rfl ?_
          refine TL.done ?_
          exact TC.nrm () () ⟨rfl, trivial⟩ [0] (by kernel_rfl)
      · refine TC.cond (b := (v_1 == ((gt s1 x1).1) && v_2 == ((gt s1 x1).2))) rfl (fun c3 => ?_) (fun c4 => ?_)
        · refine TC.seq ?_
          refine TC.region ?_
          refine TL.move rfl rfl (v := .int .i64 x1) rfl ?_
          refine TL.assign rfl rfl (v := .int .i64 x1) rfl ?_
          refine TL.done ?_
          exact TC.retF (Fin.loop Far.ret (Fin.body (fin1 (.inr rfl) rfl (.tmp rfl) [] rfl ⟨rfl, rfl⟩)))
        · refine TC.skip ?_
          refine TC.region ?_
          refine TL.bin .i64 x1 1 rfl rfl rfl rfl (v := .int .i64 (w64 (x1 + 1))) rfl ?_
          refine TL.move rfl rfl (v := .int .i64 (w64 (x1 + 1))) rfl ?_
          refine TL.done ?_
          exact TC.next ((w64 (x1 + 1))) (()) ⟨rfl, rfl, rfl, rfl, trivial⟩ [0] rfl
    · exact TC.brk (x1) (()) ⟨rfl, rfl, rfl, rfl, trivial⟩ [0] rfl
  · rintro x1 _
    refine TC.seq ?_
    refine TC.region ?_
    refine TL.assign rfl rfl (v := .int .i64 (-1)) rfl ?_
    refine TL.done ?_
    exact TC.retF (Fin.body (fin1 (.inr rfl) rfl (.tmp rfl) [] rfl ⟨rfl, rfl⟩))

end Go.Proofs.Ytiiljfpbcanphaa.G

/- impl.monomial], as a pure function. -/
set_option linter.unusedVariables false
namespace Go.Proofs.Ytiiljfpbcanphaa.G
open Go Go.Sx Go.Proofs

def slices_Contains_impl_monomial_impl_monomial.f (s1 : List (Int × Int)) (v_1 : Int) (v_2 : Int) : Option Bool := (G.slices_Index_impl_monomial_impl_monomial.f s1 v_1 v_2).bind (fun r_1 => some (decide (r_1 ≥ 0)))

def slices_Contains_impl_monomial_impl_monomial.R (r : Bool) (v : Value) (L : List Asn) : Prop := v = .bool r ∧ L = []

set_option maxRecDepth 100000 in
set_option maxHeartbeats 4000000 in
theorem slices_Contains_impl_monomial_impl_monomial.calls (w : World) (s2 : SV) (s1 : List (Int × Int)) (v_1 : Int) (v_2 : Int) (h1 : Reads Eii (hp w) s2 s1) :
    ∀ r, slices_Contains_impl_monomial_impl_monomial.f s1 v_1 v_2 = some r → Calls Try.prog 83 #[SV.v s2, sval [.one (.int .i64 v_1), .one (.int .i64 v_2)]] w (Ret w (slices_Contains_impl_monomial_impl_monomial.R r)) := by

  refine calls_T (n := 9) (Γ := [(0, SV.v s2), (1, sval [.one (.int .i64 v_1), .one (.int .i64 v_2)])]) (R := slices_Contains_impl_monomial_impl_monomial.R) Try.func83 rfl rfl (Nat.le_of_ble_eq_true rfl) ⟨rfl, rfl, trivial⟩ ?_
  unfold slices_Contains_impl_monomial_impl_monomial.f
  refine TC.seq ?_
  refine TC.region ?_
  refine TL.box [.one (.int .i64 v_1), .one (.int .i64 v_2)] rfl rfl rfl rfl fun b_1 => ?_
  refine TL.assign rfl rfl (v := .bool false) rfl ?_
  refine TL.done ?_
  refine TC.seq ?_
  refine TC.region ?_
  refine TL.move rfl rfl (v := SV.v s2) rfl ?_
  refine TL.loadM 0 2 (Src.box 0 rfl) Try.isAgg77 Try.sizeOf77 (mid := [.one (.int .i64 v_1), .one (.int .i64 v_2)]) rfl rfl rfl rfl rfl rfl ?_
  refine TL.call (R := G.slices_Index_impl_monomial_impl_monomial.R) Try.call89 rfl rfl rfl (fun w hS => G.slices_Index_impl_monomial_impl_monomial.calls w s2 s1 v_1 v_2 ((Rd.old h1) w hS)) ?_
  rintro r_1 _ _ ⟨rfl, rfl⟩
  refine TL.bin .i64 r_1 0 rfl rfl rfl rfl (v := .bool (decide (r_1 ≥ 0))) rfl ?_
  refine TL.assign rfl rfl (v := .bool (decide (r_1 ≥ 0))) rfl ?_
  refine TL.done ?_
  exact TC.retF (Fin.body (fin1 (.inr rfl) rfl (.tmp rfl) [] rfl ⟨rfl, rfl⟩))

end Go.Proofs.Ytiiljfpbcanphaa.G

/- impl.CornersOf, as a pure function. -/
set_option linter.unusedVariables false
namespace Go.Proofs.Ytiiljfpbcanphaa.G
open Go Go.Sx Go.Proofs

def impl_CornersOf.b0 (r_2 : List (Int × Int)) : (List (List Int)) × Int → Option (LB ((List (List Int)) × Int)) := fun p => match p with | (out1, x1) => (bif (decide (x1 < (r_2.length : Int))) then chk x1 r_2.length ((G.slices_Contains_impl_monomial_impl_monomial.f r_2 (w64 ((gt r_2 x1).1 + 1)) ((gt r_2 x1).2)).bind (fun r_3 => (bif (!r_3) then (G.slices_Contains_impl_monomial_impl_monomial.f r_2 ((gt r_2 x1).1) (w64 ((gt r_2 x1).2 + 1))).bind (fun r_4 => some (!r_4)) else some false).bind (fun b_2 => ((bif b_2 then small (out1.length + 1) (some (out1 ++ [([(gt r_2 x1).1, (gt r_2 x1).2] : List Int)])) else some out1)).bind (fun out2 => some (.next (out2, (w64 (x1 + 1)))))))) else some (.brk (out1, x1)))

def impl_CornersOf.f (stairs1 : List Int) : Option ((List (List Int)) × Int) := (G.impl_stairsOk.f stairs1).bind (fun r_1 => (bif (!r_1) then some (([] : List (List Int)), 2) else (G.impl_monomials.f stairs1).bind (fun r_2 => (loop1 (impl_CornersOf.b0 r_2) (([] : List (List Int)), 0)).bind (fun p => match p with | (out1, x1) => some (out1, 0)))))

def impl_CornersOf.R (r : (List (List Int)) × Int) (v : Value) (L : List Asn) : Prop := ∃ (s0 : SV) (ss0 : List SV), v = .tuple #[SV.v s0, .int .i64 r.2] ∧ L = [mat Ei 2 22 s0 ss0 r.1]

set_option maxRecDepth 100000 in
set_option maxHeartbeats 4000000 in
theorem impl_CornersOf.calls (w : World) (s1 : SV) (stairs1 : List Int) (h1 : Reads Ei (hp w) s1 stairs1) :
    ∀ r, impl_CornersOf.f stairs1 = some r → Calls Try.prog 23 #[SV.v s1] w (Ret w (impl_CornersOf.R r)) := by

  refine calls_T (n := 50) (Γ := [(0, SV.v s1)]) (R := impl_CornersOf.R) Try.func23 rfl rfl (Nat.le_of_ble_eq_true rfl) ⟨rfl, trivial⟩ ?_
  unfold impl_CornersOf.f
  refine TC.seq ?_
  refine TC.region ?_
  refine TL.assign rfl rfl (v := SV.v ⟨none, 0, 0⟩) rfl ?_
  refine TL.assign rfl rfl (v := .int .i64 0) rfl ?_
  refine TL.done ?_
  refine TC.seq ?_
  refine TC.seq ?_
  refine TC.region ?_
  refine TL.move rfl rfl (v := SV.v s1) rfl ?_
  refine TL.call (R := G.impl_stairsOk.R) Try.call81 rfl rfl rfl (fun w hS => G.impl_stairsOk.calls w s1 stairs1 ((Rd.old h1) w hS)) ?_
  rintro r_1 _ _ ⟨rfl, rfl⟩
  refine TL.not r_1 rfl rfl rfl ?_
  refine TL.done ?_
  refine TC.cond (b := (!r_1)) rfl (fun c1 => ?_) (fun c2 => ?_)
  · refine TC.seq ?_
    refine TC.region ?_
    refine TL.assign rfl rfl (v := SV.v ⟨none, 0, 0⟩) rfl ?_
    refine TL.assign rfl rfl (v := .int .i64 2) rfl ?_
    refine TL.done ?_
    refine TC.nilmat Ei 2 22 ?_
    exact TC.retF (Fin.body (fin2 (.inr rfl) rfl (.tmp rfl) (.tmp rfl) [0] rfl ⟨⟨none, 0, 0⟩, [], rfl, rfl⟩))
  · refine TC.skip ?_
    refine TC.seq ?_
    refine TC.region ?_
    refine TL.move rfl rfl (v := SV.v s1) rfl ?_
    refine TL.call (R := G.impl_monomials.R) Try.call82 rfl rfl rfl (fun w hS => G.impl_monomials.calls w s1 stairs1 ((Rd.old h1) w hS)) ?_
    rintro r_2 _ _ ⟨s2, rfl, rfl⟩
    refine TL.bslice0 Ev Try.underlying32 Try.sizeOf22 rfl rfl fun s3 => ?_
    refine TL.rows0 Ei 2 ?_
    refine TL.matmk 1 0 rfl rfl ?_
    refine TL.asL [mat Ei 2 22 s3 ([] : List SV) ([] : List (List Int)), emp, row Eii 77 s2 r_2] (by kernel_rfl) ?_
    refine TL.assign rfl rfl (v := SV.v s2) rfl ?_
    refine TL.assign rfl rfl (v := SV.v s3) rfl ?_
    refine TL.done ?_
    refine TC.seq ?_
    refine TC.seq ?_
    refine TC.region ?_
    refine TL.move rfl rfl (v := SV.v s2) rfl ?_
    refine TL.len (Rd.row 2 rfl) Try.underlying74 rfl rfl rfl ?_
    refine TL.move rfl rfl (v := .int .i64 0) rfl ?_
    refine TL.done ?_
    refine TC.loop1 (σ := (List (List Int)) × Int) (γ := SV × (List SV)) (Γ' := (fun p q => match p, q with | (out1, x1), (s4, ss1) => [(4, SV.v s2), (5, SV.v s4), (14, SV.v s2), (15, .int .i64 (r_2.length : Int)), (16, .int .i64 x1)])) (L' := (fun p q => match p, q with | (out1, x1), (s4, ss1) => [row Eii 77 s2 r_2, mat Ei 2 22 s4 ss1 out1])) (Γb := (fun p q => match p, q with | (out1, x1), (s4, ss1) => [(4, SV.v s2), (5, SV.v s4), (14, SV.v s2), (15, .int .i64 (r_2.length : Int)), (16, .int .i64 x1)])) (Lb := (fun p q => match p, q with | (out1, x1), (s4, ss1) => [row Eii 77 s2 r_2, mat Ei 2 22 s4 ss1 out1])) ((([] : List (List Int)), 0)) ((s3, ([] : List SV))) ⟨rfl, rfl, rfl, rfl, rfl, trivial⟩ [2, 0] rfl ?_ ?_
    · rintro ⟨out1, x1⟩ ⟨s4, ss1⟩
      refine TC.seq ?_
      refine TC.region ?_
      refine TL.bin .i64 x1 (r_2.length : Int) rfl rfl rfl rfl (v := .bool (decide (x1 < (r_2.length : Int)))) rfl ?_
      refine TL.done ?_
      refine TC.seq ?_
      refine TC.cond (b := (decide (x1 < (r_2.length : Int)))) rfl (fun c3 => ?_) (fun c4 => ?_)
      · refine TC.skip ?_
        refine TC.seq ?_
        refine TC.block (NoEx.loop1 rfl) ?_
        refine TC.seq ?_
        refine TC.region ?_
        refine TL.chk fun h2 => ?_
        refine TL.ixs x1 (x1.toNat * 2) (Rd.row 0 rfl) h2 Try.underlying74 Try.sizeOf77 rfl rfl rfl rfl (by omega) ?_
        refine TL.loadEA (Rd.row 0 rfl) Try.isAgg77 Try.sizeOf77 x1.toNat (gt_spec h2) (v := sval [.one (.int .i64 ((gt r_2 x1).1)), .one (.int .i64 ((gt r_2 x1).2))]) rfl (by simp only [show Eii.sz = 2 from rfl] <;> omega) rfl rfl rfl ?_
        refine TL.alloc [.one (.int .i64 0), .one (.int .i64 0)] rfl rfl Try.zeroValue77 rfl fun b_1 => ?_
        refine TL.stM (news := [.one (.int .i64 ((gt r_2 x1).1)), .one (.int .i64 ((gt r_2 x1).2))]) 0 0 2 rfl Try.sizeOf77 (ones_one rfl (ones_one rfl ones_nil)) rfl rfl rfl rfl rfl rfl ?_
        refine TL.done ?_
        refine TC.seq ?_
        refine TC.region ?_
        refine TL.move rfl rfl (v := SV.v s2) rfl ?_
        refine TL.fa Try.underlying77 rfl Try.sizeOf2 rfl 0 rfl rfl rfl rfl ?_
        refine TL.load1 0 (Src.box 0 rfl) Try.isAgg2 rfl rfl rfl rfl rfl ?_
        refine TL.bin .i64 ((gt r_2 x1).1) 1 rfl rfl rfl rfl (v := .int .i64 (w64 ((gt r_2 x1).1 + 1))) rfl ?_
        refine TL.fa Try.underlying77 rfl Try.sizeOf2 rfl 1 rfl rfl rfl rfl ?_
        refine TL.load1 1 (Src.box 0 rfl) Try.isAgg2 rfl rfl rfl rfl rfl ?_
        refine TL.buildS (segs0 := [.one (.int .i64 0), .one (.int .i64 0)]) (segs := [.one (.int .i64 (w64 ((gt r_2 x1).1 + 1))), .one (.int .i64 ((gt r_2 x1).2))]) [1, 1] Try.underlying77 ⟨Try.sizeOf2, Try.sizeOf2, trivial⟩ Try.zeroValue77 rfl [(0, .int .i64 (w64 ((gt r_2 x1).1 + 1))), (1, .int .i64 ((gt r_2 x1).2))] rfl (fun pl hpl => by subst hpl; exact fill_one 0 rfl rfl rfl rfl (fill_one 1 rfl rfl rfl rfl (rfl))) rfl rfl ?_
        refine TL.call (R := G.slices_Contains_impl_monomial_impl_monomial.R) Try.call83 rfl rfl rfl (fun w hS => G.slices_Contains_impl_monomial_impl_monomial.calls w s2 r_2 (w64 ((gt r_2 x1).1 + 1)) ((gt r_2 x1).2) ((Rd.row 1 rfl) w hS)) ?_
        rintro r_3 _ _ ⟨rfl, rfl⟩
        refine TL.not r_3 rfl rfl rfl ?_
        refine TL.move rfl rfl (v := .bool (!r_3)) rfl ?_
        refine TL.cutJ (σ := Bool) (γ := Unit) (Γ' := fun b_2 _ => [(39, .bool b_2), (4, SV.v s2), (5, SV.v s4), (14, SV.v s2), (15, .int .i64 (r_2.length : Int)), (16, .int .i64 x1), (17, .bool (decide (x1 < (r_2.length : Int)))), (18, ep s2 (x1.toNat * 2)), (19, sval [.one (.int .i64 ((gt r_2 x1).1)), .one (.int .i64 ((gt r_2 x1).2))]), (7, bp b_1 0), (20, SV.v s2), (21, bp b_1 0), (22, .int .i64 ((gt r_2 x1).1)), (23, .int .i64 (w64 ((gt r_2 x1).1 + 1))), (24, bp b_1 1), (25, .int .i64 ((gt r_2 x1).2)), (26, sval [.one (.int .i64 (w64 ((gt r_2 x1).1 + 1))), .one (.int .i64 ((gt r_2 x1).2))]), (27, .bool r_3), (28, .bool (!r_3)), (29, .bool (!r_3))]) (L' := fun _ _ => [box b_1 77 [.one (.int .i64 ((gt r_2 x1).1)), .one (.int .i64 ((gt r_2 x1).2))], row Eii 77 s2 r_2, mat Ei 2 22 s4 ss1 out1]) 10 ?_ ?_
        · refine TL.ifb (t := 29) (b := (!r_3)) rfl (fun c5 => ?_) (fun c6 => ?_)
          · refine TL.move rfl rfl (v := SV.v s2) rfl ?_
            refine TL.fa Try.underlying77 rfl Try.sizeOf2 rfl 0 rfl rfl rfl rfl ?_
            refine TL.load1 0 (Src.box 0 rfl) Try.isAgg2 rfl rfl rfl rfl rfl ?_
            refine TL.fa Try.underlying77 rfl Try.sizeOf2 rfl 1 rfl rfl rfl rfl ?_
            refine TL.load1 1 (Src.box 0 rfl) Try.isAgg2 rfl rfl rfl rfl rfl ?_
            refine TL.bin .i64 ((gt r_2 x1).2) 1 rfl rfl rfl rfl (v := .int .i64 (w64 ((gt r_2 x1).2 + 1))) rfl ?_
            refine TL.buildS (segs0 := [.one (.int .i64 0), .one (.int .i64 0)]) (segs := [.one (.int .i64 ((gt r_2 x1).1)), .one (.int .i64 (w64 ((gt r_2 x1).2 + 1)))]) [1, 1] Try.underlying77 ⟨Try.sizeOf2, Try.sizeOf2, trivial⟩ Try.zeroValue77 rfl [(0, .int .i64 ((gt r_2 x1).1)), (1, .int .i64 (w64 ((gt r_2 x1).2 + 1)))] rfl (fun pl hpl => by subst hpl; exact fill_one 0 rfl rfl rfl rfl (fill_one 1 rfl rfl rfl rfl (rfl))) rfl rfl ?_
            refine TL.call (R := G.slices_Contains_impl_monomial_impl_monomial.R) Try.call83 rfl rfl rfl (fun w hS => G.slices_Contains_impl_monomial_impl_monomial.calls w s2 r_2 ((gt r_2 x1).1) (w64 ((gt r_2 x1).2 + 1)) ((Rd.row 1 rfl) w hS)) ?_
            rintro r_4 _ _ ⟨rfl, rfl⟩
            refine TL.not r_4 rfl rfl rfl ?_
            refine TL.pick rfl rfl (b := true) rfl (r := .bool (!r_4)) rfl ?_
            refine TL.done ?_
            exact TC.nrm ((!r_4)) () ⟨rfl, rfl, rfl, rfl, rfl, rfl, rfl, rfl, rfl, rfl, rfl, rfl, rfl, rfl, rfl, rfl, rfl, rfl, rfl, (by rw [c5]; rfl), trivial⟩ [0, 0, 0] (by kernel_rfl)
          · refine TL.skip rfl rfl (by decide) ?_
            refine TL.skip rfl rfl (by decide) ?_
            refine TL.skip rfl rfl (by decide) ?_
            refine TL.skip rfl rfl (by decide) ?_
            refine TL.skip rfl rfl (by decide) ?_
            refine TL.skip rfl rfl (by decide) ?_
            refine TL.skip rfl rfl (by decide) ?_
            refine TL.skip rfl rfl (by decide) ?_
            refine TL.skip rfl rfl (by decide) ?_
            refine TL.pick rfl rfl (b := false) rfl (r := .bool false) rfl ?_
            refine TL.done ?_
            exact TC.nrm (false) () ⟨rfl, rfl, rfl, rfl, rfl, rfl, rfl, rfl, rfl, rfl, rfl, rfl, rfl, rfl, rfl, rfl, rfl, rfl, rfl, (by rw [c6]; rfl), trivial⟩ [0, 0, 0] (by kernel_rfl)
        · rintro b_2 _
          refine TL.done ?_
          refine TC.join1 (σ := (List (List Int))) (γ := SV × (List SV)) (Γ' := (fun p q => match p, q with | out2, (s5, ss2) => [(4, SV.v s2), (5, SV.v s5), (14, SV.v s2), (15, .int .i64 (r_2.length : Int)), (16, .int .i64 x1)])) (L' := (fun p q => match p, q with | out2, (s5, ss2) => [row Eii 77 s2 r_2, mat Ei 2 22 s5 ss2 out2])) ?_ ?_
          · refine TC.cond (b := b_2) rfl (fun c7 => ?_) (fun c8 => ?_)
            · refine TC.region ?_
              refine TL.move rfl rfl (v := SV.v s4) rfl ?_
              refine TL.fa Try.underlying77 rfl Try.sizeOf2 rfl 0 rfl rfl rfl rfl ?_
              refine TL.load1 0 (Src.box 0 rfl) Try.isAgg2 rfl rfl rfl rfl rfl ?_
              refine TL.fa Try.underlying77 rfl Try.sizeOf2 rfl 1 rfl rfl rfl rfl ?_
              refine TL.load1 1 (Src.box 0 rfl) Try.isAgg2 rfl rfl rfl rfl rfl ?_
              refine TL.blit Ei ([(gt r_2 x1).1, (gt r_2 x1).2] : List Int) Try.underlying22 Try.sizeOf2 Try.zeroValue2 rfl rfl rfl [(0, .int .i64 ((gt r_2 x1).1)), (1, .int .i64 ((gt r_2 x1).2))] rfl ⟨rfl, rfl, rfl, rfl, trivial⟩ rfl rfl fun s6 => ?_
              refine TL.blit Ev ([s6] : List SV) Try.underlying32 Try.sizeOf22 Try.zeroValue22 rfl rfl rfl [(0, SV.v s6)] rfl ⟨rfl, rfl, trivial⟩ rfl rfl fun s7 => ?_
              refine TL.small fun h3 => ?_
              refine TL.matlen 4 rfl fun h4 => ?_
              refine TL.matcut 4 rfl ?_
              refine TL.append 0 rfl (Rd.row 1 rfl) Try.underlying32 (info_of Try.type22) (zv := (Try.t22.zero.getD (.bool false))) rfl rfl rfl (by decide) (by have h_ := h3; have l_ := h4; (try simp only [List.length_cons, List.length_nil] at h_ l_ ⊢); omega) rfl rfl rfl rfl fun s8 => ?_
              refine TL.rowsPush 5 2 rfl rfl ?_
              skip
              refine TL.matmk 0 2 rfl rfl ?_
              refine TL.drop 0 rfl ?_
              refine TL.asL [row Ev 22 s7 ([s6] : List SV), mat Ei 2 22 s8 (ss1 ++ [s6]) (out1 ++ [([(gt r_2 x1).1, (gt r_2 x1).2] : List Int)]), box b_1 77 [.one (.int .i64 ((gt r_2 x1).1)), .one (.int .i64 ((gt r_2 x1).2))], row Eii 77 s2 r_2, emp] (by kernel_rfl) ?_
              refine TL.assign rfl rfl (v := SV.v s8) rfl ?_
              refine TL.done ?_
              exact TC.nrm ((out1 ++ [([(gt r_2 x1).1, (gt r_2 x1).2] : List Int)])) ((s8, (ss1 ++ [s6]))) ⟨rfl, rfl, rfl, rfl, rfl, trivial⟩ [3, 1] rfl
            · refine TC.skip ?_
              exact TC.nrm (out1) ((s4, ss1)) ⟨rfl, rfl, rfl, rfl, rfl, trivial⟩ [1, 1] rfl
          · rintro out2 ⟨s5, ss2⟩
            refine TC.region ?_
            refine TL.bin .i64 x1 1 rfl rfl rfl rfl (v := .int .i64 (w64 (x1 + 1))) rfl ?_
            refine TL.move rfl rfl (v := .int .i64 (w64 (x1 + 1))) rfl ?_
            refine TL.done ?_
            exact TC.next1 ((out2, (w64 (x1 + 1)))) ((s5, ss2)) ⟨rfl, rfl, rfl, rfl, rfl, trivial⟩ [0, 0] rfl
      · exact TC.brk1 ((out1, x1)) ((s4, ss1)) ⟨rfl, rfl, rfl, rfl, rfl, trivial⟩ [0, 0] rfl
    · rintro ⟨out1, x1⟩ ⟨s4, ss1⟩
      refine TC.seq ?_
      refine TC.region ?_
      refine TL.move rfl rfl (v := SV.v s4) rfl ?_
      refine TL.assign rfl rfl (v := SV.v s4) rfl ?_
      refine TL.assign rfl rfl (v := .int .i64 0) rfl ?_
      refine TL.done ?_
      exact TC.retF (Fin.body (fin2 (.inr rfl) rfl (.tmp rfl) (.tmp rfl) [1] rfl ⟨s4, ss1, rfl, rfl⟩))

end Go.Proofs.Ytiiljfpbcanphaa.G
