/- Functions of the program, as pure functions. -/
import Derived.Test.YtiiljfpbcanphaaSy2
import Derived.Test.YtiiljfpbcanphaaProg
/- laws.toInt64S, as a pure function. -/
set_option linter.unusedVariables false
namespace Go.Proofs.Ytiiljfpbcanphaa.G
open Go Go.Sx Go.Proofs

def laws_toInt64S.b0 (a_1 : List Int) : (List Int) × Int → Option (LB ((List Int) × Int)) := fun p => match p with | (out1, i1) => (bif (decide (i1 < (a_1.length : Int))) then chk i1 a_1.length (chk i1 out1.length (some (.next ((out1.set i1.toNat (gt a_1 i1)), (w64 (i1 + 1)))))) else some (.brk (out1, i1)))

def laws_toInt64S.f (a_1 : List Int) : Option (List Int) := small a_1.length ((loop1 (laws_toInt64S.b0 a_1) ((List.replicate (a_1.length : Int).toNat (0 : Int)), 0)).bind (fun p => match p with | (out1, i1) => some out1))

def laws_toInt64S.R (r : List Int) (v : Value) (L : List Asn) : Prop := ∃ (s0 : SV), v = SV.v s0 ∧ L = [row Ei 2 s0 r]

set_option maxRecDepth 100000 in
set_option maxHeartbeats 4000000 in
theorem laws_toInt64S.calls (w : World) (s1 : SV) (a_1 : List Int) (h1 : Reads Ei (hp w) s1 a_1) :
    ∀ r, laws_toInt64S.f a_1 = some r → Calls Try.prog 13 #[SV.v s1] w (Ret w (laws_toInt64S.R r)) := by

  refine calls_T (n := 22) (Γ := [(0, SV.v s1)]) (R := laws_toInt64S.R) Try.func13 rfl rfl (Nat.le_of_ble_eq_true rfl) ⟨rfl, trivial⟩ ?_
  unfold laws_toInt64S.f
  refine TC.seq ?_
  refine TC.region ?_
  refine TL.assign rfl rfl (v := SV.v ⟨none, 0, 0⟩) rfl ?_
  refine TL.done ?_
  refine TC.seq ?_
  refine TC.region ?_
  refine TL.move rfl rfl (v := SV.v s1) rfl ?_
  refine TL.len (Rd.old h1) Try.underlying22 rfl rfl rfl ?_
  refine TL.small fun h2 => ?_
  refine TL.mkslice Ei (0 : Int) (a_1.length : Int) Try.underlying22 (info_of Try.type2) (zv := (Try.t2.zero.getD (.bool false))) rfl rfl rfl (by simp [Ei, flat, Seg.cells]) (by decide) (by omega) (by omega) rfl rfl rfl rfl fun s2 => ?_
  refine TL.assign rfl rfl (v := SV.v s2) rfl ?_
  refine TL.done ?_
  refine TC.seq ?_
  refine TC.seq ?_
  refine TC.region ?_
  refine TL.assign rfl rfl (v := .int .i64 0) rfl ?_
  refine TL.done ?_
  refine TC.loop1 (σ := (List Int) × Int) (γ := Unit) (Γ' := (fun p q => match p, q with | (out1, i1), _ => [(0, SV.v s1), (3, SV.v s2), (4, .int .i64 i1)])) (L' := (fun p q => match p, q with | (out1, i1), _ => [row Ei 2 s2 out1])) (Γb := (fun p q => match p, q with | (out1, i1), _ => [(0, SV.v s1), (3, SV.v s2), (4, .int .i64 i1)])) (Lb := (fun p q => match p, q with | (out1, i1), _ => [row Ei 2 s2 out1])) (((List.replicate (a_1.length : Int).toNat (0 : Int)), 0)) (()) ⟨rfl, rfl, rfl, trivial⟩ [0] rfl ?_ ?_
  · rintro ⟨out1, i1⟩ _
    refine TC.seq ?_
    refine TC.seq ?_
    refine TC.region ?_
    refine TL.move rfl rfl (v := .int .i64 i1) rfl ?_
    refine TL.move rfl rfl (v := SV.v s1) rfl ?_
    refine TL.len (Rd.old h1) Try.underlying22 rfl rfl rfl ?_
    refine TL.bin .i64 i1 (a_1.length : Int) rfl rfl rfl rfl (v := .bool (decide (i1 < (a_1.length : Int)))) rfl ?_
    refine TL.done ?_
    refine TC.cond (b := (decide (i1 < (a_1.length : Int)))) rfl (fun c1 => ?_) (fun c2 => ?_)
    · refine TC.skip ?_
      refine TC.seq ?_
      refine TC.block (NoEx.loop1 rfl) ?_
      refine TC.region ?_
      refine TL.move rfl rfl (v := SV.v s2) rfl ?_
      refine TL.move rfl rfl (v := .int .i64 i1) rfl ?_
      refine TL.move rfl rfl (v := SV.v s1) rfl ?_
      refine TL.move rfl rfl (v := .int .i64 i1) rfl ?_
      refine TL.chk fun h4 => ?_
      refine TL.ixs i1 i1.toNat (Rd.old h1) h4 Try.underlying22 Try.sizeOf2 rfl rfl rfl rfl (by omega) ?_
      refine TL.loadE (Rd.old h1) Try.isAgg2 i1.toNat 0 (gt_spec h4) (v := .int .i64 (gt a_1 i1)) rfl (by simp only [show Ei.sz = 1 from rfl] <;> omega) rfl rfl rfl ?_
      refine TL.chk fun h5 => ?_
      refine TL.ixs i1 i1.toNat (Rd.row 0 rfl) h5 Try.underlying22 Try.sizeOf2 rfl rfl rfl rfl (by omega) ?_
      refine TL.stE 0 (i1.toNat) (gt a_1 i1) (v := .int .i64 (gt a_1 i1)) rfl Try.sizeOf2 rfl rfl rfl (by have h_ := h5; omega) (by simp only [show Ei.sz = 1 from rfl] <;> omega) rfl rfl rfl ?_
      refine TL.done ?_
      refine TC.region ?_
      refine TL.move rfl rfl (v := .int .i64 i1) rfl ?_
      refine TL.bin .i64 i1 1 rfl rfl rfl rfl (v := .int .i64 (w64 (i1 + 1))) rfl ?_
      refine TL.assign rfl rfl (v := .int .i64 (w64 (i1 + 1))) rfl ?_
      refine TL.done ?_
      exact TC.next1 (((out1.set i1.toNat (gt a_1 i1)), (w64 (i1 + 1)))) (()) ⟨rfl, rfl, rfl, trivial⟩ [0] rfl
    · exact TC.brk1 ((out1, i1)) (()) ⟨rfl, rfl, rfl, trivial⟩ [0] rfl
  · rintro ⟨out1, i1⟩ _
    refine TC.seq ?_
    refine TC.region ?_
    refine TL.move rfl rfl (v := SV.v s2) rfl ?_
    refine TL.assign rfl rfl (v := SV.v s2) rfl ?_
    refine TL.done ?_
    exact TC.retF (Fin.body (fin1 (.inr rfl) rfl (.tmp rfl) [0] rfl ⟨s2, rfl, rfl⟩))

end Go.Proofs.Ytiiljfpbcanphaa.G

/- laws.eqInt64S, as a pure function. -/
set_option linter.unusedVariables false
namespace Go.Proofs.Ytiiljfpbcanphaa.G
open Go Go.Sx Go.Proofs

def laws_eqInt64S.b0 (a_1 : List Int) (b_1 : List Int) : Int → Option (LR Int Bool) := fun i1 => (bif (decide (i1 < (a_1.length : Int))) then chk i1 a_1.length (chk i1 b_1.length ((bif ((gt a_1 i1) != (gt b_1 i1)) then some (.ret (false)) else some (.next (w64 (i1 + 1)))))) else some (.brk i1))

def laws_eqInt64S.f (a_1 : List Int) (b_1 : List Int) : Option Bool := (bif ((a_1.length : Int) != (b_1.length : Int)) then some false else (loop (laws_eqInt64S.b0 a_1 b_1) 0).bind (ln (fun i1 => some true)))

def laws_eqInt64S.R (r : Bool) (v : Value) (L : List Asn) : Prop := v = .bool r ∧ L = []

set_option maxRecDepth 100000 in
set_option maxHeartbeats 4000000 in
theorem laws_eqInt64S.calls (w : World) (s1 : SV) (a_1 : List Int) (s2 : SV) (b_1 : List Int) (h1 : Reads Ei (hp w) s1 a_1) (h2 : Reads Ei (hp w) s2 b_1) :
    ∀ r, laws_eqInt64S.f a_1 b_1 = some r → Calls Try.prog 15 #[SV.v s1, SV.v s2] w (Ret w (laws_eqInt64S.R r)) := by

  refine calls_T (n := 26) (Γ := [(0, SV.v s1), (1, SV.v s2)]) (R := laws_eqInt64S.R) Try.func15 rfl rfl (Nat.le_of_ble_eq_true rfl) ⟨rfl, rfl, trivial⟩ ?_
  unfold laws_eqInt64S.f
  refine TC.seq ?_
  refine TC.region ?_
  refine TL.assign rfl rfl (v := .bool false) rfl ?_
  refine TL.done ?_
  refine TC.seq ?_
  refine TC.seq ?_
  refine TC.region ?_
  refine TL.move rfl rfl (v := SV.v s1) rfl ?_
  refine TL.len (Rd.old h1) Try.underlying22 rfl rfl rfl ?_
  refine TL.move rfl rfl (v := SV.v s2) rfl ?_
  refine TL.len (Rd.old h2) Try.underlying22 rfl rfl rfl ?_
  refine TL.bin .i64 (a_1.length : Int) (b_1.length : Int) rfl rfl rfl rfl (v := .bool ((a_1.length : Int) != (b_1.length : Int))) rfl ?_
  refine TL.done ?_
  refine TC.cond (b := ((a_1.length : Int) != (b_1.length : Int))) rfl (fun c1 => ?_) (fun c2 => ?_)
  · refine TC.seq ?_
    refine TC.region ?_
    refine TL.assign rfl rfl (v := .bool false) rfl ?_
    refine TL.done ?_
    exact TC.retF (Fin.body (fin1 (.inr rfl) rfl (.tmp rfl) [] rfl ⟨rfl, rfl⟩))
  · refine TC.skip ?_
    refine TC.seq ?_
    refine TC.seq ?_
    refine TC.region ?_
    refine TL.assign rfl rfl (v := .int .i64 0) rfl ?_
    refine TL.done ?_
    refine TC.loopK (σ := Int) (γ := Unit) (Γ' := (fun i1 _ => [(0, SV.v s1), (1, SV.v s2), (5, .int .i64 i1)])) (L' := (fun i1 _ => [])) (Γb := (fun i1 _ => [(0, SV.v s1), (1, SV.v s2), (5, .int .i64 i1)])) (Lb := (fun i1 _ => [])) (0) (()) ⟨rfl, rfl, rfl, trivial⟩ [] rfl ?_ ?_
    · rintro i1 _
      refine TC.seq ?_
      refine TC.seq ?_
      refine TC.region ?_
      refine TL.move rfl rfl (v := .int .i64 i1) rfl ?_
      refine TL.move rfl rfl (v := SV.v s1) rfl ?_
      refine TL.len (Rd.old h1) Try.underlying22 rfl rfl rfl ?_
      refine TL.bin .i64 i1 (a_1.length : Int) rfl rfl rfl rfl (v := .bool (decide (i1 < (a_1.length : Int)))) rfl ?_
      refine TL.done ?_
      refine TC.cond (b := (decide (i1 < (a_1.length : Int)))) rfl (fun c3 => ?_) (fun c4 => ?_)
      · refine TC.skip ?_
        refine TC.seq ?_
        refine TC.block (NoEx.loop rfl NoEx.body) ?_
        refine TC.seq ?_
        refine TC.wk (Γ' := [(0, SV.v s1), (1, SV.v s2), (5, .int .i64 i1), (11, .int .i64 i1), (12, SV.v s1), (13, .int .i64 (a_1.length : Int)), (14, .bool (decide (i1 < (a_1.length : Int))))]) ⟨rfl, rfl, rfl, rfl, rfl, rfl, rfl, trivial⟩ ?_
        refine TC.chk fun h3 => ?_
        refine TC.chk fun h4 => ?_
        refine TC.draw [SV.v s1, .int .i64 i1, ep s1 i1.toNat, .int .i64 (gt a_1 i1), SV.v s2, .int .i64 i1, ep s2 i1.toNat, .int .i64 (gt b_1 i1), .bool ((gt a_1 i1) != (gt b_1 i1))] 9 [] (by kernel_rfl) rfl rfl rfl rfl ?_ ?_
        · refine ⟨?_, ?_, ?_, ?_, ?_, ?_, ?_, ?_, ?_, trivial⟩
          · refine TL.move rfl rfl (v := SV.v s1) rfl ?_
            refine TL.done ?_
            exact TC.nrm () () ⟨rfl, trivial⟩ [] (by kernel_rfl)
          · refine TL.move rfl rfl (v := .int .i64 i1) rfl ?_
            refine TL.done ?_
            exact TC.nrm () () ⟨rfl, trivial⟩ [] (by kernel_rfl)
          · refine TL.ixs i1 i1.toNat (Rd.old h1) h3 Try.underlying22 Try.sizeOf2 rfl rfl rfl rfl (by omega) ?_
            refine TL.done ?_
            exact TC.nrm () () ⟨rfl, trivial⟩ [] (by kernel_rfl)
          · refine TL.loadE (Rd.old h1) Try.isAgg2 i1.toNat 0 (gt_spec h3) (v := .int .i64 (gt a_1 i1)) rfl (by simp only [show Ei.sz = 1 from rfl] <;> omega) rfl rfl rfl ?_
            refine TL.done ?_
            exact TC.nrm () () ⟨rfl, trivial⟩ [] (by kernel_rfl)
          · refine TL.move rfl rfl (v := SV.v s2) rfl ?_
            refine TL.done ?_
            exact TC.nrm () () ⟨rfl, trivial⟩ [] (by kernel_rfl)
          · refine TL.move rfl rfl (v := .int .i64 i1) rfl ?_
            refine TL.done ?_
            exact TC.nrm () () ⟨rfl, trivial⟩ [] (by kernel_rfl)
          · refine TL.ixs i1 i1.toNat (Rd.old h2) h4 Try.underlying22 Try.sizeOf2 rfl rfl rfl rfl (by omega) ?_
            refine TL.done ?_
            exact TC.nrm () () ⟨rfl, trivial⟩ [] (by kernel_rfl)
          · refine TL.loadE (Rd.old h2) Try.isAgg2 i1.toNat 0 (gt_spec h4) (v := .int .i64 (gt b_1 i1)) rfl (by simp only [show Ei.sz = 1 from rfl] <;> omega) rfl rfl rfl ?_
            refine TL.done ?_
            exact TC.nrm () () ⟨rfl, trivial⟩ [] (by kernel_rfl)
          · refine TL.bin .i64 (gt a_1 i1) (gt b_1 i1) rfl rfl rfl rfl (v := .bool ((gt a_1 i1) != (gt b_1 i1))) rfl ?_
            refine TL.done ?_
            exact TC.nrm () () ⟨rfl, trivial⟩ [] (by kernel_rfl)
        · refine TC.cond (b := ((gt a_1 i1) != (gt b_1 i1))) rfl (fun c5 => ?_) (fun c6 => ?_)
          · refine TC.seq ?_
            refine TC.region ?_
            refine TL.assign rfl rfl (v := .bool false) rfl ?_
            refine TL.done ?_
            exact TC.retF (Fin.loop Far.ret (Fin.body (fin1 (.inr rfl) rfl (.tmp rfl) [] rfl ⟨rfl, rfl⟩)))
          · refine TC.skip ?_
            refine TC.region ?_
            refine TL.move rfl rfl (v := .int .i64 i1) rfl ?_
            refine TL.bin .i64 i1 1 rfl rfl rfl rfl (v := .int .i64 (w64 (i1 + 1))) rfl ?_
            refine TL.assign rfl rfl (v := .int .i64 (w64 (i1 + 1))) rfl ?_
            refine TL.done ?_
            exact TC.next ((w64 (i1 + 1))) (()) ⟨rfl, rfl, rfl, trivial⟩ [] rfl
      · exact TC.brk (i1) (()) ⟨rfl, rfl, rfl, trivial⟩ [] rfl
    · rintro i1 _
      refine TC.seq ?_
      refine TC.region ?_
      refine TL.assign rfl rfl (v := .bool true) rfl ?_
      refine TL.done ?_
      exact TC.retF (Fin.body (fin1 (.inr rfl) rfl (.tmp rfl) [] rfl ⟨rfl, rfl⟩))

end Go.Proofs.Ytiiljfpbcanphaa.G

/- spec.l01In, as a pure function. -/
set_option linter.unusedVariables false
namespace Go.Proofs.Ytiiljfpbcanphaa.G
open Go Go.Sx Go.Proofs

def spec_l01In.f (n_1 : Int) (low1 : Int) (high1 : Int) : Option Bool := some ((decide (n_1 ≥ low1)) && (decide (n_1 ≤ high1)))

def spec_l01In.R (r : Bool) (v : Value) (L : List Asn) : Prop := v = .bool r ∧ L = []

set_option maxRecDepth 100000 in
set_option maxHeartbeats 4000000 in
theorem spec_l01In.calls (w : World) (n_1 : Int) (low1 : Int) (high1 : Int) :
    ∀ r, spec_l01In.f n_1 low1 high1 = some r → Calls Try.prog 69 #[.int .i64 n_1, .int .i64 low1, .int .i64 high1] w (Ret w (spec_l01In.R r)) := by

  refine calls_T (n := 15) (Γ := [(0, .int .i64 n_1), (1, .int .i64 low1), (2, .int .i64 high1)]) (R := spec_l01In.R) Try.func69 rfl rfl (Nat.le_of_ble_eq_true rfl) ⟨rfl, rfl, rfl, trivial⟩ ?_
  unfold spec_l01In.f
  refine TC.seq ?_
  refine TC.region ?_
  refine TL.assign rfl rfl (v := .bool false) rfl ?_
  refine TL.done ?_
  refine TC.seq ?_
  refine TC.region ?_
  refine TL.move rfl rfl (v := .int .i64 n_1) rfl ?_
  refine TL.move rfl rfl (v := .int .i64 low1) rfl ?_
  refine TL.bin .i64 n_1 low1 rfl rfl rfl rfl (v := .bool (decide (n_1 ≥ low1))) rfl ?_
  refine TL.move rfl rfl (v := .bool (decide (n_1 ≥ low1))) rfl ?_
  refine TL.cutU 4 [(14, .bool ((decide (n_1 ≥ low1)) && (decide (n_1 ≤ high1)))), (0, .int .i64 n_1), (1, .int .i64 low1), (2, .int .i64 high1), (6, .bool false), (7, .int .i64 n_1), (8, .int .i64 low1), (9, .bool (decide (n_1 ≥ low1))), (10, .bool (decide (n_1 ≥ low1)))] [] ?_ ?_
  · refine TL.cases (t := 10) (b := (decide (n_1 ≥ low1))) rfl (fun c1 => ?_) (fun c2 => ?_)
    · refine TL.move rfl rfl (v := .int .i64 n_1) rfl ?_
      refine TL.move rfl rfl (v := .int .i64 high1) rfl ?_
      refine TL.bin .i64 n_1 high1 rfl rfl rfl rfl (v := .bool (decide (n_1 ≤ high1))) rfl ?_
      refine TL.pick rfl rfl (b := true) rfl (r := .bool (decide (n_1 ≤ high1))) rfl ?_
      refine TL.done ?_
      exact TC.nrm () () ⟨(by rw [c1]; rfl), rfl, rfl, rfl, rfl, rfl, rfl, rfl, (by rw [c1]; rfl), trivial⟩ [] (by kernel_rfl)
    · refine TL.skip rfl rfl (by decide) ?_
      refine TL.skip rfl rfl (by decide) ?_
      refine TL.skip rfl rfl (by decide) ?_
      refine TL.pick rfl rfl (b := false) rfl (r := .bool false) rfl ?_
      refine TL.done ?_
      exact TC.nrm () () ⟨(by rw [c2]; rfl), rfl, rfl, rfl, rfl, rfl, rfl, rfl, (by rw [c2]; rfl), trivial⟩ [] (by kernel_rfl)
  · refine TL.assign rfl rfl (v := .bool ((decide (n_1 ≥ low1)) && (decide (n_1 ≤ high1)))) rfl ?_
    refine TL.done ?_
    exact TC.retF (Fin.body (fin1 (.inr rfl) rfl (.tmp rfl) [] rfl ⟨rfl, rfl⟩))

end Go.Proofs.Ytiiljfpbcanphaa.G

/- spec.l09Stairs, as a pure function. -/
set_option linter.unusedVariables false
namespace Go.Proofs.Ytiiljfpbcanphaa.G
open Go Go.Sx Go.Proofs

def spec_l09Stairs.b0 (list_1 : List Int) : Int × Int → Option (LR (Int × Int) Bool) := fun p => match p with | (sum1, i1) => (bif (decide (i1 < (list_1.length : Int))) then chk i1 list_1.length ((G.spec_l01In.f (gt list_1 i1) 1 6).bind (fun r_1 => (bif (!r_1) then some (.ret (false)) else (bif (decide (i1 > 0)) then chk (w64 (i1 - 1)) list_1.length ((bif (decide ((gt list_1 i1) > (gt list_1 (w64 (i1 - 1))))) then some (.ret (false)) else some (.next ((w64 (sum1 + (gt list_1 i1))), (w64 (i1 + 1)))))) else some (.next ((w64 (sum1 + (gt list_1 i1))), (w64 (i1 + 1)))))))) else some (.brk (sum1, i1)))

def spec_l09Stairs.f (list_1 : List Int) : Option Bool := (loop (spec_l09Stairs.b0 list_1) (0, 0)).bind (ln (fun p => match p with | (sum1, i1) => (G.spec_l01In.f sum1 1 6).bind (fun r_6 => some r_6)))

def spec_l09Stairs.R (r : Bool) (v : Value) (L : List Asn) : Prop := v = .bool r ∧ L = []

set_option maxRecDepth 100000 in
set_option maxHeartbeats 4000000 in
theorem spec_l09Stairs.calls (w : World) (s1 : SV) (list_1 : List Int) (h1 : Reads Ei (hp w) s1 list_1) :
    ∀ r, spec_l09Stairs.f list_1 = some r → Calls Try.prog 79 #[SV.v s1] w (Ret w (spec_l09Stairs.R r)) := by

  refine calls_T (n := 41) (Γ := [(0, SV.v s1)]) (R := spec_l09Stairs.R) Try.func79 rfl rfl (Nat.le_of_ble_eq_true rfl) ⟨rfl, trivial⟩ ?_
  unfold spec_l09Stairs.f
  refine TC.seq ?_
  refine TC.region ?_
  refine TL.assign rfl rfl (v := .bool false) rfl ?_
  refine TL.done ?_
  refine TC.seq ?_
  refine TC.region ?_
  refine TL.assign rfl rfl (v := .int .i64 0) rfl ?_
  refine TL.done ?_
  refine TC.seq ?_
  refine TC.seq ?_
  refine TC.region ?_
  refine TL.assign rfl rfl (v := .int .i64 0) rfl ?_
  refine TL.done ?_
  refine TC.loopK (σ := Int × Int) (γ := Unit) (Γ' := (fun p q => match p, q with | (sum1, i1), _ => [(0, SV.v s1), (3, .int .i64 sum1), (4, .int .i64 i1)])) (L' := (fun p q => match p, q with | (sum1, i1), _ => [])) (Γb := (fun p q => match p, q with | (sum1, i1), _ => [(0, SV.v s1), (3, .int .i64 sum1), (4, .int .i64 i1)])) (Lb := (fun p q => match p, q with | (sum1, i1), _ => [])) ((0, 0)) (()) ⟨rfl, rfl, rfl, trivial⟩ [] rfl ?_ ?_
  · rintro ⟨sum1, i1⟩ _
    refine TC.seq ?_
    refine TC.seq ?_
    refine TC.region ?_
    refine TL.move rfl rfl (v := .int .i64 i1) rfl ?_
    refine TL.move rfl rfl (v := SV.v s1) rfl ?_
    refine TL.len (Rd.old h1) Try.underlying22 rfl rfl rfl ?_
    refine TL.bin .i64 i1 (list_1.length : Int) rfl rfl rfl rfl (v := .bool (decide (i1 < (list_1.length : Int)))) rfl ?_
    refine TL.done ?_
    refine TC.cond (b := (decide (i1 < (list_1.length : Int)))) rfl (fun c1 => ?_) (fun c2 => ?_)
    · refine TC.skip ?_
      refine TC.seq ?_
      refine TC.block (NoEx.loop rfl NoEx.body) ?_
      refine TC.seq ?_
      refine TC.seq ?_
      refine TC.chk fun h2 => ?_
      refine TC.bindE ?_
      rintro r_1 hr1
      refine TC.ifB (!r_1) (fun c3 => ?_) (fun c3 => ?_)
      · refine TC.wk (Γ' := [(0, SV.v s1), (3, .int .i64 sum1), (4, .int .i64 i1), (5, .int .i64 i1), (6, SV.v s1), (7, .int .i64 (list_1.length : Int)), (8, .bool (decide (i1 < (list_1.length : Int))))]) ⟨rfl, rfl, rfl, rfl, rfl, rfl, rfl, trivial⟩ ?_
        refine TC.drawG [(0, SV.v s1), (3, .int .i64 sum1), (4, .int .i64 i1), (5, .int .i64 i1), (6, SV.v s1), (7, .int .i64 (list_1.length : Int)), (8, .bool (decide (i1 < (list_1.length : Int))))] [] ⟨rfl, rfl, rfl, rfl, rfl, rfl, rfl, trivial⟩ trivial (fun l_ g2 => []) (fun g2 => [SV.v s1, .int .i64 i1, ep s1 i1.toNat, .int .i64 (gt list_1 i1), .bool r_1, .bool true, .bool true, undef, undef, undef, undef, undef, undef, undef, undef, undef, undef, undef, undef, undef, undef, .bool true]) [[], [], [0, 1], [0, 1, 2], [0, 1, 2, 3], [0, 1, 2, 3, 4], [0, 1, 2, 3, 4, 5], [0, 1, 2, 3, 4, 5, 6], [0, 1, 2, 3, 4, 5, 6, 7], [0, 1, 2, 3, 4, 5, 6, 7, 8], [0, 1, 2, 3, 4, 5, 6, 7, 8, 9], [0, 1, 2, 3, 4, 5, 6, 7, 8, 9], [0, 1, 2, 3, 4, 5, 6, 7, 8, 9, 10, 11], [0, 1, 2, 3, 4, 5, 6, 7, 8, 9, 10, 11, 12], [0, 1, 2, 3, 4, 5, 6, 7, 8, 9], [0, 1, 2, 3, 4, 5, 6, 7, 8, 9], [0, 1, 2, 3, 4, 5, 6, 7, 8, 9, 15], [0, 1, 2, 3, 4, 5, 6, 7, 8, 9, 14, 15, 16], [0, 1, 2, 3, 4, 5, 6, 7, 8, 9, 14, 15, 16, 17], [0, 1, 2, 3, 4, 5, 6, 7, 8, 9, 10, 11, 12, 13, 14, 15, 16, 17, 18], [0, 1, 2, 3, 4, 5, 6, 7, 8, 9, 10, 11, 12, 13, 14, 15, 16, 17, 18, 19], [0, 1, 2, 3, 4, 5, 6, 7, 8, 9, 10, 11, 12, 13, 14, 15, 16, 17, 18, 19, 20]] [[some false, none, some false, some false, some false, some false, some false, some false, some false, some false, some false, some false, some false, some false, some false, some false, some false, some false, some false, some false, some false, some false], [none, some false, some false, some false, some false, some false, some false, some false, some false, some false, some false, some false, some false, some false, some false, some false, some false, some false, some false, some false, some false, some false], [some true, some true, some false, some false, some false, some false, some false, some false, some false, some false, some false, some false, some false, some false, some false, some false, some false, some false, some false, some false, some false, some false], [some true, some true, some true, some false, some false, some false, some false, some false, some false, some false, some false, some false, some false, some false, some false, some false, some false, some false, some false, some false, some false, some false], [some true, some true, some true, some true, some false, some false, some false, some false, some false, some false, some false, some false, some false, some false, some false, some false, some false, some false, some false, some false, some false, some false], [some true, some true, some true, some true, some true, some false, some false, some false, some false, some false, some false, some false, some false, some false, some false, some false, some false, some false, some false, some false, some false, some false], [some true, some true, some true, some true, some true, some true, some false, some false, some false, some false, some false, some false, some false, some false, some false, some false, some false, some false, some false, some false, some false, some false], [some true, some true, some true, some true, some true, some true, some true, some false, some false, some false, some false, some false, some false, some false, some false, some false, some false, some false, some false, some false, some false, some false], [some true, some true, some true, some true, some true, some true, some true, some true, some false, some false, some false, some false, some false, some false, some false, some false, some false, some false, some false, some false, some false, some false], [some true, some true, some true, some true, some true, some true, some true, some true, some true, some false, some false, some false, some false, some false, some false, some false, some false, some false, some false, some false, some false, some false], [some true, some true, some true, some true, some true, some true, some true, some true, some true, some true, some false, none, some false, some false, none, none, none, none, none, some false, some false, some false], [some true, some true, some true, some true, some true, some true, some true, some true, some true, some true, none, some false, some false, some false, none, none, none, none, none, some false, some false, some false], [some true, some true, some true, some true, some true, some true, some true, some true, some true, some true, some true, some true, some false, some false, none, none, none, none, none, some false, some false, some false], [some true, some true, some true, some true, some true, some true, some true, some true, some true, some true, some true, some true, some true, some false, none, none, none, none, none, some false, some false, some false], [some true, some true, some true, some true, some true, some true, some true, some true, some true, some true, none, none, none, none, some false, none, none, some false, some false, some false, some false, some false], [some true, some true, some true, some true, some true, some true, some true, some true, some true, some true, none, none, none, none, none, some false, some false, some false, some false, some false, some false, some false], [some true, some true, some true, some true, some true, some true, some true, some true, some true, some true, none, none, none, none, none, some true, some false, some false, some false, some false, some false, some false], [some true, some true, some true, some true, some true, some true, some true, some true, some true, some true, none, none, none, none, some true, some true, some true, some false, some false, some false, some false, some false], [some true, some true, some true, some true, some true, some true, some true, some true, some true, some true, none, none, none, none, some true, some true, some true, some true, some false, some false, some false, some false], [some true, some true, some true, some true, some true, some true, some true, some true, some true, some true, some true, some true, some true, some true, some true, some true, some true, some true, some true, some false, some false, some false], [some true, some true, some true, some true, some true, some true, some true, some true, some true, some true, some true, some true, some true, some true, some true, some true, some true, some true, some true, some true, some false, some false], [some true, some true, some true, some true, some true, some true, some true, some true, some true, some true, some true, some true, some true, some true, some true, some true, some true, some true, some true, some true, some true, some false]] (by kernel_rfl) (fun _ => rfl) rfl rfl rfl rfl rfl (fun _ _ => ⟨⟨⟨⟨⟨⟨⟨⟨⟨⟨⟨⟨⟨⟨⟨⟨⟨⟨⟨⟨⟨⟨trivial, rfl⟩, rfl⟩, rfl⟩, rfl⟩, rfl⟩, rfl⟩, rfl⟩, rfl⟩, rfl⟩, rfl⟩, rfl⟩, rfl⟩, rfl⟩, rfl⟩, rfl⟩, rfl⟩, rfl⟩, rfl⟩, rfl⟩, rfl⟩, rfl⟩, rfl⟩) 0 [] (fun _ => by kernel_rfl) ?_ ?_
        · refine ⟨rfl, ?_, rfl, ?_, rfl, ?_, rfl, ?_, rfl, ?_, rfl, ?_, rfl, ?_, rfl, ?_, rfl, ?_, rfl, ?_, rfl, ?_, rfl, ?_, rfl, ?_, rfl, ?_, rfl, ?_, rfl, ?_, rfl, ?_, rfl, ?_, rfl, ?_, rfl, ?_, rfl, ?_, rfl, ?_, trivial⟩
          · intro b1_ g2
            refine TL.move rfl rfl (v := SV.v s1) rfl ?_
            refine TL.done ?_
            exact TC.nrm () [] ⟨rfl, trivial⟩ [] (by kernel_rfl)
          · intro b0_ g2
            refine TL.move rfl rfl (v := .int .i64 i1) rfl ?_
            refine TL.done ?_
            exact TC.nrm () [] ⟨rfl, trivial⟩ [] (by kernel_rfl)
          · intro g2
            refine TL.asL [] (by kernel_rfl) ?_
            refine TL.ixs i1 i1.toNat (Rd.old h1) h2 Try.underlying22 Try.sizeOf2 rfl rfl rfl rfl (by omega) ?_
            refine TL.done ?_
            exact TC.nrm () [] ⟨rfl, trivial⟩ [] (by kernel_rfl)
          · intro g2
            refine TL.asL [] (by kernel_rfl) ?_
            refine TL.loadE (Rd.old h1) Try.isAgg2 i1.toNat 0 (gt_spec h2) (v := .int .i64 (gt list_1 i1)) rfl (by simp only [show Ei.sz = 1 from rfl] <;> omega) rfl rfl rfl ?_
            refine TL.done ?_
            exact TC.nrm () [] ⟨rfl, trivial⟩ [] (by kernel_rfl)
          · intro g2
            refine TL.asL [] (by kernel_rfl) ?_
            refine TL.callH (R := G.spec_l01In.R) hr1 Try.call69 rfl rfl rfl (fun w hS => G.spec_l01In.calls w (gt list_1 i1) 1 6) ?_
            rintro _ _ ⟨rfl, rfl⟩
            refine TL.done ?_
            exact TC.nrm () [] ⟨rfl, trivial⟩ [] (by kernel_rfl)
          · intro g2
            refine TL.not r_1 rfl rfl rfl ?_
            refine TL.done ?_
            exact TC.nrm () [] ⟨(by rw [c3]; rfl), trivial⟩ [] (by kernel_rfl)
          · intro g2
            refine TL.move rfl rfl (v := .bool true) rfl ?_
            refine TL.done ?_
            exact TC.nrm () [] ⟨rfl, trivial⟩ [] (by kernel_rfl)
          · intro g2
            refine TL.skip rfl rfl (by decide) ?_
            refine TL.done ?_
            exact TC.nrm () [] ⟨rfl, trivial⟩ [] (by kernel_rfl)
          · intro g2
            refine TL.skip rfl rfl (by decide) ?_
            refine TL.done ?_
            exact TC.nrm () [] ⟨rfl, trivial⟩ [] (by kernel_rfl)
          · intro g2
            refine TL.skip rfl rfl (by decide) ?_
            refine TL.done ?_
            exact TC.nrm () [] ⟨rfl, trivial⟩ [] (by kernel_rfl)
          · intro b11_ b14_ b15_ b16_ b17_ b18_ g2
            refine TL.skip rfl rfl (by decide) ?_
            refine TL.done ?_
            exact TC.nrm () [] ⟨rfl, trivial⟩ [] (by kernel_rfl)
          · intro b10_ b14_ b15_ b16_ b17_ b18_ g2
            refine TL.skip rfl rfl (by decide) ?_
            refine TL.done ?_
            exact TC.nrm () [] ⟨rfl, trivial⟩ [] (by kernel_rfl)
          · intro b14_ b15_ b16_ b17_ b18_ g2
            refine TL.asL [] (by kernel_rfl) ?_
            refine TL.skip rfl rfl (by decide) ?_
            refine TL.done ?_
            exact TC.nrm () [] ⟨rfl, trivial⟩ [] (by kernel_rfl)
          · intro b14_ b15_ b16_ b17_ b18_ g2
            refine TL.asL [] (by kernel_rfl) ?_
            refine TL.skip rfl rfl (by decide) ?_
            refine TL.done ?_
            exact TC.nrm () [] ⟨rfl, trivial⟩ [] (by kernel_rfl)
          · intro b10_ b11_ b12_ b13_ b15_ b16_ g2
            refine TL.skip rfl rfl (by decide) ?_
            refine TL.done ?_
            exact TC.nrm () [] ⟨rfl, trivial⟩ [] (by kernel_rfl)
          · intro b10_ b11_ b12_ b13_ b14_ g2
            refine TL.skip rfl rfl (by decide) ?_
            refine TL.done ?_
            exact TC.nrm () [] ⟨rfl, trivial⟩ [] (by kernel_rfl)
          · intro b10_ b11_ b12_ b13_ b14_ g2
            refine TL.skip rfl rfl (by decide) ?_
            refine TL.done ?_
            exact TC.nrm () [] ⟨rfl, trivial⟩ [] (by kernel_rfl)
          · intro b10_ b11_ b12_ b13_ g2
            refine TL.asL [] (by kernel_rfl) ?_
            refine TL.skip rfl rfl (by decide) ?_
            refine TL.done ?_
            exact TC.nrm () [] ⟨rfl, trivial⟩ [] (by kernel_rfl)
          · intro b10_ b11_ b12_ b13_ g2
            refine TL.asL [] (by kernel_rfl) ?_
            refine TL.skip rfl rfl (by decide) ?_
            refine TL.done ?_
            exact TC.nrm () [] ⟨rfl, trivial⟩ [] (by kernel_rfl)
          · intro g2
            refine TL.skip rfl rfl (by decide) ?_
            refine TL.done ?_
            exact TC.nrm () [] ⟨rfl, trivial⟩ [] (by kernel_rfl)
          · intro g2
            refine TL.skip rfl rfl (by decide) ?_
            refine TL.done ?_
            exact TC.nrm () [] ⟨rfl, trivial⟩ [] (by kernel_rfl)
          · intro g2
            refine TL.pick rfl rfl (b := true) rfl (r := .bool true) rfl ?_
            refine TL.done ?_
            exact TC.nrm () [] ⟨rfl, trivial⟩ [] (by kernel_rfl)
        · intro g2
          refine TC.asL [] (by kernel_rfl) ?_
          refine TC.cond_true rfl ?_
          refine TC.seq ?_
          refine TC.region ?_
          refine TL.assign rfl rfl (v := .bool false) rfl ?_
          refine TL.done ?_
          exact TC.retF (Fin.loop Far.ret (Fin.body (fin1 (.inr rfl) rfl (.tmp rfl) [] rfl ⟨rfl, rfl⟩)))
      · refine TC.ifB (decide (i1 > 0)) (fun c4 => ?_) (fun c4 => ?_)
        · refine TC.wk (Γ' := [(0, SV.v s1), (3, .int .i64 sum1), (4, .int .i64 i1), (5, .int .i64 i1), (6, SV.v s1), (7, .int .i64 (list_1.length : Int)), (8, .bool (decide (i1 < (list_1.length : Int))))]) ⟨rfl, rfl, rfl, rfl, rfl, rfl, rfl, trivial⟩ ?_
          refine TC.chk fun h3 => ?_
          refine TC.drawG [(0, SV.v s1), (3, .int .i64 sum1), (4, .int .i64 i1), (5, .int .i64 i1), (6, SV.v s1), (7, .int .i64 (list_1.length : Int)), (8, .bool (decide (i1 < (list_1.length : Int))))] [] ⟨rfl, rfl, rfl, rfl, rfl, rfl, rfl, trivial⟩ trivial (fun l_ g4 => []) (fun g4 => [SV.v s1, .int .i64 i1, ep s1 i1.toNat, .int .i64 (gt list_1 i1), .bool r_1, .bool false, .bool false, .int .i64 i1, .bool true, .bool true, SV.v s1, .int .i64 i1, ep s1 i1.toNat, .int .i64 (gt list_1 i1), SV.v s1, .int .i64 i1, .int .i64 (w64 (i1 - 1)), ep s1 ((w64 (i1 - 1)).toNat), .int .i64 (gt list_1 (w64 (i1 - 1))), .bool (decide ((gt list_1 i1) > (gt list_1 (w64 (i1 - 1))))), .bool (decide ((gt list_1 i1) > (gt list_1 (w64 (i1 - 1))))), .bool (decide ((gt list_1 i1) > (gt list_1 (w64 (i1 - 1)))))]) [[], [], [0, 1], [0, 1, 2], [0, 1, 2, 3], [0, 1, 2, 3, 4], [0, 1, 2, 3, 4, 5], [0, 1, 2, 3, 4, 5, 6], [0, 1, 2, 3, 4, 5, 6, 7], [0, 1, 2, 3, 4, 5, 6, 7, 8], [0, 1, 2, 3, 4, 5, 6, 7, 8, 9], [0, 1, 2, 3, 4, 5, 6, 7, 8, 9], [0, 1, 2, 3, 4, 5, 6, 7, 8, 9, 10, 11], [0, 1, 2, 3, 4, 5, 6, 7, 8, 9, 10, 11, 12], [0, 1, 2, 3, 4, 5, 6, 7, 8, 9], [0, 1, 2, 3, 4, 5, 6, 7, 8, 9], [0, 1, 2, 3, 4, 5, 6, 7, 8, 9, 15], [0, 1, 2, 3, 4, 5, 6, 7, 8, 9, 14, 15, 16], [0, 1, 2, 3, 4, 5, 6, 7, 8, 9, 14, 15, 16, 17], [0, 1, 2, 3, 4, 5, 6, 7, 8, 9, 10, 11, 12, 13, 14, 15, 16, 17, 18], [0, 1, 2, 3, 4, 5, 6, 7, 8, 9, 10, 11, 12, 13, 14, 15, 16, 17, 18, 19], [0, 1, 2, 3, 4, 5, 6, 7, 8, 9, 10, 11, 12, 13, 14, 15, 16, 17, 18, 19, 20]] [[some false, none, some false, some false, some false, some false, some false, some false, some false, some false, some false, some false, some false, some false, some false, some false, some false, some false, some false, some false, some false, some false], [none, some false, some false, some false, some false, some false, some false, some false, some false, some false, some false, some false, some false, some false, some false, some false, some false, some false, some false, some false, some false, some false], [some true, some true, some false, some false, some false, some false, some false, some false, some false, some false, some false, some false, some false, some false, some false, some false, some false, some false, some false, some false, some false, some false], [some true, some true, some true, some false, some false, some false, some false, some false, some false, some false, some false, some false, some false, some false, some false, some false, some false, some false, some false, some false, some false, some false], [some true, some true, some true, some true, some false, some false, some false, some false, some false, some false, some false, some false, some false, some false, some false, some false, some false, some false, some false, some false, some false, some false], [some true, some true, some true, some true, some true, some false, some false, some false, some false, some false, some false, some false, some false, some false, some false, some false, some false, some false, some false, some false, some false, some false], [some true, some true, some true, some true, some true, some true, some false, some false, some false, some false, some false, some false, some false, some false, some false, some false, some false, some false, some false, some false, some false, some false], [some true, some true, some true, some true, some true, some true, some true, some false, some false, some false, some false, some false, some false, some false, some false, some false, some false, some false, some false, some false, some false, some false], [some true, some true, some true, some true, some true, some true, some true, some true, some false, some false, some false, some false, some false, some false, some false, some false, some false, some false, some false, some false, some false, some false], [some true, some true, some true, some true, some true, some true, some true, some true, some true, some false, some false, some false, some false, some false, some false, some false, some false, some false, some false, some false, some false, some false], [some true, some true, some true, some true, some true, some true, some true, some true, some true, some true, some false, none, some false, some false, none, none, none, none, none, some false, some false, some false], [some true, some true, some true, some true, some true, some true, some true, some true, some true, some true, none, some false, some false, some false, none, none, none, none, none, some false, some false, some false], [some true, some true, some true, some true, some true, some true, some true, some true, some true, some true, some true, some true, some false, some false, none, none, none, none, none, some false, some false, some false], [some true, some true, some true, some true, some true, some true, some true, some true, some true, some true, some true, some true, some true, some false, none, none, none, none, none, some false, some false, some false], [some true, some true, some true, some true, some true, some true, some true, some true, some true, some true, none, none, none, none, some false, none, none, some false, some false, some false, some false, some false], [some true, some true, some true, some true, some true, some true, some true, some true, some true, some true, none, none, none, none, none, some false, some false, some false, some false, some false, some false, some false], [some true, some true, some true, some true, some true, some true, some true, some true, some true, some true, none, none, none, none, none, some true, some false, some false, some false, some false, some false, some false], [some true, some true, some true, some true, some true, some true, some true, some true, some true, some true, none, none, none, none, some true, some true, some true, some false, some false, some false, some false, some false], [some true, some true, some true, some true, some true, some true, some true, some true, some true, some true, none, none, none, none, some true, some true, some true, some true, some false, some false, some false, some false], [some true, some true, some true, some true, some true, some true, some true, some true, some true, some true, some true, some true, some true, some true, some true, some true, some true, some true, some true, some false, some false, some false], [some true, some true, some true, some true, some true, some true, some true, some true, some true, some true, some true, some true, some true, some true, some true, some true, some true, some true, some true, some true, some false, some false], [some true, some true, some true, some true, some true, some true, some true, some true, some true, some true, some true, some true, some true, some true, some true, some true, some true, some true, some true, some true, some true, some false]] (by kernel_rfl) (fun _ => rfl) rfl rfl rfl rfl rfl (fun _ _ => ⟨⟨⟨⟨⟨⟨⟨⟨⟨⟨⟨⟨⟨⟨⟨⟨⟨⟨⟨⟨⟨⟨trivial, rfl⟩, rfl⟩, rfl⟩, rfl⟩, rfl⟩, rfl⟩, rfl⟩, rfl⟩, rfl⟩, rfl⟩, rfl⟩, rfl⟩, rfl⟩, rfl⟩, rfl⟩, rfl⟩, rfl⟩, rfl⟩, rfl⟩, rfl⟩, rfl⟩, rfl⟩) 0 [] (fun _ => by kernel_rfl) ?_ ?_
          · refine ⟨rfl, ?_, rfl, ?_, rfl, ?_, rfl, ?_, rfl, ?_, rfl, ?_, rfl, ?_, rfl, ?_, rfl, ?_, rfl, ?_, rfl, ?_, rfl, ?_, rfl, ?_, rfl, ?_, rfl, ?_, rfl, ?_, rfl, ?_, rfl, ?_, rfl, ?_, rfl, ?_, rfl, ?_, rfl, ?_, trivial⟩
            · intro b1_ g4
              refine TL.move rfl rfl (v := SV.v s1) rfl ?_
              refine TL.done ?_
              exact TC.nrm () [] ⟨rfl, trivial⟩ [] (by kernel_rfl)
            · intro b0_ g4
              refine TL.move rfl rfl (v := .int .i64 i1) rfl ?_
              refine TL.done ?_
              exact TC.nrm () [] ⟨rfl, trivial⟩ [] (by kernel_rfl)
            · intro g4
              refine TL.asL [] (by kernel_rfl) ?_
              refine TL.ixs i1 i1.toNat (Rd.old h1) h2 Try.underlying22 Try.sizeOf2 rfl rfl rfl rfl (by omega) ?_
              refine TL.done ?_
              exact TC.nrm () [] ⟨rfl, trivial⟩ [] (by kernel_rfl)
            · intro g4
              refine TL.asL [] (by kernel_rfl) ?_
              refine TL.loadE (Rd.old h1) Try.isAgg2 i1.toNat 0 (gt_spec h2) (v := .int .i64 (gt list_1 i1)) rfl (by simp only [show Ei.sz = 1 from rfl] <;> omega) rfl rfl rfl ?_
              refine TL.done ?_
              exact TC.nrm () [] ⟨rfl, trivial⟩ [] (by kernel_rfl)
            · intro g4
              refine TL.asL [] (by kernel_rfl) ?_
              refine TL.callH (R := G.spec_l01In.R) hr1 Try.call69 rfl rfl rfl (fun w hS => G.spec_l01In.calls w (gt list_1 i1) 1 6) ?_
              rintro _ _ ⟨rfl, rfl⟩
              refine TL.done ?_
              exact TC.nrm () [] ⟨rfl, trivial⟩ [] (by kernel_rfl)
            · intro g4
              refine TL.not r_1 rfl rfl rfl ?_
              refine TL.done ?_
              exact TC.nrm () [] ⟨(by rw [c3]; rfl), trivial⟩ [] (by kernel_rfl)
            · intro g4
              refine TL.move rfl rfl (v := .bool false) rfl ?_
              refine TL.done ?_
              exact TC.nrm () [] ⟨rfl, trivial⟩ [] (by kernel_rfl)
            · intro g4
              refine TL.move rfl rfl (v := .int .i64 i1) rfl ?_
              refine TL.done ?_
              exact TC.nrm () [] ⟨rfl, trivial⟩ [] (by kernel_rfl)
            · intro g4
              refine TL.bin .i64 i1 0 rfl rfl rfl rfl (v := .bool (decide (i1 > 0))) rfl ?_
              refine TL.done ?_
              exact TC.nrm () [] ⟨(by rw [c4]; rfl), trivial⟩ [] (by kernel_rfl)
            · intro g4
              refine TL.move rfl rfl (v := .bool true) rfl ?_
              refine TL.done ?_
              exact TC.nrm () [] ⟨rfl, trivial⟩ [] (by kernel_rfl)
            · intro b11_ b14_ b15_ b16_ b17_ b18_ g4
              refine TL.move rfl rfl (v := SV.v s1) rfl ?_
              refine TL.done ?_
              exact TC.nrm () [] ⟨rfl, trivial⟩ [] (by kernel_rfl)
            · intro b10_ b14_ b15_ b16_ b17_ b18_ g4
              refine TL.move rfl rfl (v := .int .i64 i1) rfl ?_
              refine TL.done ?_
              exact TC.nrm () [] ⟨rfl, trivial⟩ [] (by kernel_rfl)
            · intro b14_ b15_ b16_ b17_ b18_ g4
              refine TL.asL [] (by kernel_rfl) ?_
              refine TL.ixs i1 i1.toNat (Rd.old h1) h2 Try.underlying22 Try.sizeOf2 rfl rfl rfl rfl (by omega) ?_
              refine TL.done ?_
              exact TC.nrm () [] ⟨rfl, trivial⟩ [] (by kernel_rfl)
            · intro b14_ b15_ b16_ b17_ b18_ g4
              refine TL.asL [] (by kernel_rfl) ?_
              refine TL.loadE (Rd.old h1) Try.isAgg2 i1.toNat 0 (gt_spec h2) (v := .int .i64 (gt list_1 i1)) rfl (by simp only [show Ei.sz = 1 from rfl] <;> omega) rfl rfl rfl ?_
              refine TL.done ?_
              exact TC.nrm () [] ⟨rfl, trivial⟩ [] (by kernel_rfl)
            · intro b10_ b11_ b12_ b13_ b15_ b16_ g4
              refine TL.move rfl rfl (v := SV.v s1) rfl ?_
              refine TL.done ?_
              exact TC.nrm () [] ⟨rfl, trivial⟩ [] (by kernel_rfl)
            · intro b10_ b11_ b12_ b13_ b14_ g4
              refine TL.move rfl rfl (v := .int .i64 i1) rfl ?_
              refine TL.done ?_
              exact TC.nrm () [] ⟨rfl, trivial⟩ [] (by kernel_rfl)
            · intro b10_ b11_ b12_ b13_ b14_ g4
              refine TL.bin .i64 i1 1 rfl rfl rfl rfl (v := .int .i64 (w64 (i1 - 1))) rfl ?_
              refine TL.done ?_
              exact TC.nrm () [] ⟨rfl, trivial⟩ [] (by kernel_rfl)
            · intro b10_ b11_ b12_ b13_ g4
              refine TL.asL [] (by kernel_rfl) ?_
              refine TL.ixs (w64 (i1 - 1)) ((w64 (i1 - 1)).toNat) (Rd.old h1) h3 Try.underlying22 Try.sizeOf2 rfl rfl rfl rfl (by omega) ?_
              refine TL.done ?_
              exact TC.nrm () [] ⟨rfl, trivial⟩ [] (by kernel_rfl)
            · intro b10_ b11_ b12_ b13_ g4
              refine TL.asL [] (by kernel_rfl) ?_
              refine TL.loadE (Rd.old h1) Try.isAgg2 (w64 (i1 - 1)).toNat 0 (gt_spec h3) (v := .int .i64 (gt list_1 (w64 (i1 - 1)))) rfl (by simp only [show Ei.sz = 1 from rfl] <;> omega) rfl rfl rfl ?_
              refine TL.done ?_
              exact TC.nrm () [] ⟨rfl, trivial⟩ [] (by kernel_rfl)
            · intro g4
              refine TL.bin .i64 (gt list_1 i1) (gt list_1 (w64 (i1 - 1))) rfl rfl rfl rfl (v := .bool (decide ((gt list_1 i1) > (gt list_1 (w64 (i1 - 1)))))) rfl ?_
              refine TL.done ?_
              exact TC.nrm () [] ⟨rfl, trivial⟩ [] (by kernel_rfl)
            · intro g4
              refine TL.pick rfl rfl (b := true) rfl (r := .bool (decide ((gt list_1 i1) > (gt list_1 (w64 (i1 - 1)))))) rfl ?_
              refine TL.done ?_
              exact TC.nrm () [] ⟨rfl, trivial⟩ [] (by kernel_rfl)
            · intro g4
              refine TL.pick rfl rfl (b := false) rfl (r := .bool (decide ((gt list_1 i1) > (gt list_1 (w64 (i1 - 1)))))) rfl ?_
              refine TL.done ?_
              exact TC.nrm () [] ⟨rfl, trivial⟩ [] (by kernel_rfl)
          · intro g4
            refine TC.asL [] (by kernel_rfl) ?_
            refine TC.cond (b := (decide ((gt list_1 i1) > (gt list_1 (w64 (i1 - 1)))))) rfl (fun c5 => ?_) (fun c6 => ?_)
            · refine TC.seq ?_
              refine TC.region ?_
              refine TL.assign rfl rfl (v := .bool false) rfl ?_
              refine TL.done ?_
              exact TC.retF (Fin.loop Far.ret (Fin.body (fin1 (.inr rfl) rfl (.tmp rfl) [] rfl ⟨rfl, rfl⟩)))
            · refine TC.skip ?_
              refine TC.region ?_
              refine TL.move rfl rfl (v := .int .i64 sum1) rfl ?_
              refine TL.move rfl rfl (v := SV.v s1) rfl ?_
              refine TL.move rfl rfl (v := .int .i64 i1) rfl ?_
              refine TL.ixs i1 i1.toNat (Rd.old h1) h2 Try.underlying22 Try.sizeOf2 rfl rfl rfl rfl (by omega) ?_
              refine TL.loadE (Rd.old h1) Try.isAgg2 i1.toNat 0 (gt_spec h2) (v := .int .i64 (gt list_1 i1)) rfl (by simp only [show Ei.sz = 1 from rfl] <;> omega) rfl rfl rfl ?_
              refine TL.bin .i64 sum1 (gt list_1 i1) rfl rfl rfl rfl (v := .int .i64 (w64 (sum1 + (gt list_1 i1)))) rfl ?_
              refine TL.assign rfl rfl (v := .int .i64 (w64 (sum1 + (gt list_1 i1)))) rfl ?_
              refine TL.done ?_
              refine TC.region ?_
              refine TL.move rfl rfl (v := .int .i64 i1) rfl ?_
              refine TL.bin .i64 i1 1 rfl rfl rfl rfl (v := .int .i64 (w64 (i1 + 1))) rfl ?_
              refine TL.assign rfl rfl (v := .int .i64 (w64 (i1 + 1))) rfl ?_
              refine TL.done ?_
              exact TC.next (((w64 (sum1 + (gt list_1 i1))), (w64 (i1 + 1)))) (()) ⟨rfl, rfl, rfl, trivial⟩ [] rfl
        · refine TC.wk (Γ' := [(0, SV.v s1), (3, .int .i64 sum1), (4, .int .i64 i1), (5, .int .i64 i1), (6, SV.v s1), (7, .int .i64 (list_1.length : Int)), (8, .bool (decide (i1 < (list_1.length : Int))))]) ⟨rfl, rfl, rfl, rfl, rfl, rfl, rfl, trivial⟩ ?_
          refine TC.drawG [(0, SV.v s1), (3, .int .i64 sum1), (4, .int .i64 i1), (5, .int .i64 i1), (6, SV.v s1), (7, .int .i64 (list_1.length : Int)), (8, .bool (decide (i1 < (list_1.length : Int))))] [] ⟨rfl, rfl, rfl, rfl, rfl, rfl, rfl, trivial⟩ trivial (fun l_ g5 => []) (fun g5 => [SV.v s1, .int .i64 i1, ep s1 i1.toNat, .int .i64 (gt list_1 i1), .bool r_1, .bool false, .bool false, .int .i64 i1, .bool false, .bool false, undef, undef, undef, undef, undef, undef, undef, undef, undef, undef, .bool false, .bool false]) [[], [], [0, 1], [0, 1, 2], [0, 1, 2, 3], [0, 1, 2, 3, 4], [0, 1, 2, 3, 4, 5], [0, 1, 2, 3, 4, 5, 6], [0, 1, 2, 3, 4, 5, 6, 7], [0, 1, 2, 3, 4, 5, 6, 7, 8], [0, 1, 2, 3, 4, 5, 6, 7, 8, 9], [0, 1, 2, 3, 4, 5, 6, 7, 8, 9], [0, 1, 2, 3, 4, 5, 6, 7, 8, 9, 10, 11], [0, 1, 2, 3, 4, 5, 6, 7, 8, 9, 10, 11, 12], [0, 1, 2, 3, 4, 5, 6, 7, 8, 9], [0, 1, 2, 3, 4, 5, 6, 7, 8, 9], [0, 1, 2, 3, 4, 5, 6, 7, 8, 9, 15], [0, 1, 2, 3, 4, 5, 6, 7, 8, 9, 14, 15, 16], [0, 1, 2, 3, 4, 5, 6, 7, 8, 9, 14, 15, 16, 17], [0, 1, 2, 3, 4, 5, 6, 7, 8, 9, 10, 11, 12, 13, 14, 15, 16, 17, 18], [0, 1, 2, 3, 4, 5, 6, 7, 8, 9, 10, 11, 12, 13, 14, 15, 16, 17, 18, 19], [0, 1, 2, 3, 4, 5, 6, 7, 8, 9, 10, 11, 12, 13, 14, 15, 16, 17, 18, 19, 20]] [[some false, none, some false, some false, some false, some false, some false, some false, some false, some false, some false, some false, some false, some false, some false, some false, some false, some false, some false, some false, some false, some false], [none, some false, some false, some false, some false, some false, some false, some false, some false, some false, some false, some false, some false, some false, some false, some false, some false, some false, some false, some false, some false, some false], [some true, some true, some false, some false, some false, some false, some false, some false, some false, some false, some false, some false, some false, some false, some false, some false, some false, some false, some false, some false, some false, some false], [some true, some true, some true, some false, some false, some false, some false, some false, some false, some false, some false, some false, some false, some false, some false, some false, some false, some false, some false, some false, some false, some false], [some true, some true, some true, some true, some false, some false, some false, some false, some false, some false, some false, some false, some false, some false, some false, some false, some false, some false, some false, some false, some false, some false], [some true, some true, some true, some true, some true, some false, some false, some false, some false, some false, some false, some false, some false, some false, some false, some false, some false, some false, some false, some false, some false, some false], [some true, some true, some true, some true, some true, some true, some false, some false, some false, some false, some false, some false, some false, some false, some false, some false, some false, some false, some false, some false, some false, some false], [some true, some true, some true, some true, some true, some true, some true, some false, some false, some false, some false, some false, some false, some false, some false, some false, some false, some false, some false, some false, some false, some false], [some true, some true, some true, some true, some true, some true, some true, some true, some false, some false, some false, some false, some false, some false, some false, some false, some false, some false, some false, some false, some false, some false], [some true, some true, some true, some true, some true, some true, some true, some true, some true, some false, some false, some false, some false, some false, some false, some false, some false, some false, some false, some false, some false, some false], [some true, some true, some true, some true, some true, some true, some true, some true, some true, some true, some false, none, some false, some false, none, none, none, none, none, some false, some false, some false], [some true, some true, some true, some true, some true, some true, some true, some true, some true, some true, none, some false, some false, some false, none, none, none, none, none, some false, some false, some false], [some true, some true, some true, some true, some true, some true, some true, some true, some true, some true, some true, some true, some false, some false, none, none, none, none, none, some false, some false, some false], [some true, some true, some true, some true, some true, some true, some true, some true, some true, some true, some true, some true, some true, some false, none, none, none, none, none, some false, some false, some false], [some true, some true, some true, some true, some true, some true, some true, some true, some true, some true, none, none, none, none, some false, none, none, some false, some false, some false, some false, some false], [some true, some true, some true, some true, some true, some true, some true, some true, some true, some true, none, none, none, none, none, some false, some false, some false, some false, some false, some false, some false], [some true, some true, some true, some true, some true, some true, some true, some true, some true, some true, none, none, none, none, none, some true, some false, some false, some false, some false, some false, some false], [some true, some true, some true, some true, some true, some true, some true, some true, some true, some true, none, none, none, none, some true, some true, some true, some false, some false, some false, some false, some false], [some true, some true, some true, some true, some true, some true, some true, some true, some true, some true, none, none, none, none, some true, some true, some true, some true, some false, some false, some false, some false], [some true, some true, some true, some true, some true, some true, some true, some true, some true, some true, some true, some true, some true, some true, some true, some true, some true, some true, some true, some false, some false, some false], [some true, some true, some true, some true, some true, some true, some true, some true, some true, some true, some true, some true, some true, some true, some true, some true, some true, some true, some true, some true, some false, some false], [some true, some true, some true, some true, some true, some true, some true, some true, some true, some true, some true, some true, some true, some true, some true, some true, some true, some true, some true, some true, some true, some false]] (by kernel_rfl) (fun _ => rfl) rfl rfl rfl rfl rfl (fun _ _ => ⟨⟨⟨⟨⟨⟨⟨⟨⟨⟨⟨⟨⟨⟨⟨⟨⟨⟨⟨⟨⟨⟨trivial, rfl⟩, rfl⟩, rfl⟩, rfl⟩, rfl⟩, rfl⟩, rfl⟩, rfl⟩, rfl⟩, rfl⟩, rfl⟩, rfl⟩, rfl⟩, rfl⟩, rfl⟩, rfl⟩, rfl⟩, rfl⟩, rfl⟩, rfl⟩, rfl⟩, rfl⟩) 0 [] (fun _ => by kernel_rfl) ?_ ?_
          · refine ⟨rfl, ?_, rfl, ?_, rfl, ?_, rfl, ?_, rfl, ?_, rfl, ?_, rfl, ?_, rfl, ?_, rfl, ?_, rfl, ?_, rfl, ?_, rfl, ?_, rfl, ?_, rfl, ?_, rfl, ?_, rfl, ?_, rfl, ?_, rfl, ?_, rfl, ?_, rfl, ?_, rfl, ?_, rfl, ?_, trivial⟩
            · intro b1_ g5
              refine TL.move rfl rfl (v := SV.v s1) rfl ?_
              refine TL.done ?_
              exact TC.nrm () [] ⟨rfl, trivial⟩ [] (by kernel_rfl)
            · intro b0_ g5
              refine TL.move rfl rfl (v := .int .i64 i1) rfl ?_
              refine TL.done ?_
              exact TC.nrm () [] ⟨rfl, trivial⟩ [] (by kernel_rfl)
            · intro g5
              refine TL.asL [] (by kernel_rfl) ?_
              refine TL.ixs i1 i1.toNat (Rd.old h1) h2 Try.underlying22 Try.sizeOf2 rfl rfl rfl rfl (by omega) ?_
              refine TL.done ?_
              exact TC.nrm () [] ⟨rfl, trivial⟩ [] (by kernel_rfl)
            · intro g5
              refine TL.asL [] (by kernel_rfl) ?_
              refine TL.loadE (Rd.old h1) Try.isAgg2 i1.toNat 0 (gt_spec h2) (v := .int .i64 (gt list_1 i1)) rfl (by simp only [show Ei.sz = 1 from rfl] <;> omega) rfl rfl rfl ?_
              refine TL.done ?_
              exact TC.nrm () [] ⟨rfl, trivial⟩ [] (by kernel_rfl)
            · intro g5
              refine TL.asL [] (by kernel_rfl) ?_
              refine TL.callH (R := G.spec_l01In.R) hr1 Try.call69 rfl rfl rfl (fun w hS => G.spec_l01In.calls w (gt list_1 i1) 1 6) ?_
              rintro _ _ ⟨rfl, rfl⟩
              refine TL.done ?_
              exact TC.nrm () [] ⟨rfl, trivial⟩ [] (by kernel_rfl)
            · intro g5
              refine TL.not r_1 rfl rfl rfl ?_
              refine TL.done ?_
              exact TC.nrm () [] ⟨(by rw [c3]; rfl), trivial⟩ [] (by kernel_rfl)
            · intro g5
              refine TL.move rfl rfl (v := .bool false) rfl ?_
              refine TL.done ?_
              exact TC.nrm () [] ⟨rfl, trivial⟩ [] (by kernel_rfl)
            · intro g5
              refine TL.move rfl rfl (v := .int .i64 i1) rfl ?_
              refine TL.done ?_
              exact TC.nrm () [] ⟨rfl, trivial⟩ [] (by kernel_rfl)
            · intro g5
              refine TL.bin .i64 i1 0 rfl rfl rfl rfl (v := .bool (decide (i1 > 0))) rfl ?_
              refine TL.done ?_
              exact TC.nrm () [] ⟨(by rw [c4]; rfl), trivial⟩ [] (by kernel_rfl)
            · intro g5
              refine TL.move rfl rfl (v := .bool false) rfl ?_
              refine TL.done ?_
              exact TC.nrm () [] ⟨rfl, trivial⟩ [] (by kernel_rfl)
            · intro b11_ b14_ b15_ b16_ b17_ b18_ g5
              refine TL.skip rfl rfl (by decide) ?_
              refine TL.done ?_
              exact TC.nrm () [] ⟨rfl, trivial⟩ [] (by kernel_rfl)
            · intro b10_ b14_ b15_ b16_ b17_ b18_ g5
              refine TL.skip rfl rfl (by decide) ?_
              refine TL.done ?_
              exact TC.nrm () [] ⟨rfl, trivial⟩ [] (by kernel_rfl)
            · intro b14_ b15_ b16_ b17_ b18_ g5
              refine TL.asL [] (by kernel_rfl) ?_
              refine TL.skip rfl rfl (by decide) ?_
              refine TL.done ?_
              exact TC.nrm () [] ⟨rfl, trivial⟩ [] (by kernel_rfl)
            · intro b14_ b15_ b16_ b17_ b18_ g5
              refine TL.asL [] (by kernel_rfl) ?_
              refine TL.skip rfl rfl (by decide) ?_
              refine TL.done ?_
              exact TC.nrm () [] ⟨rfl, trivial⟩ [] (by kernel_rfl)
            · intro b10_ b11_ b12_ b13_ b15_ b16_ g5
              refine TL.skip rfl rfl (by decide) ?_
              refine TL.done ?_
              exact TC.nrm () [] ⟨rfl, trivial⟩ [] (by kernel_rfl)
            · intro b10_ b11_ b12_ b13_ b14_ g5
              refine TL.skip rfl rfl (by decide) ?_
              refine TL.done ?_
              exact TC.nrm () [] ⟨rfl, trivial⟩ [] (by kernel_rfl)
            · intro b10_ b11_ b12_ b13_ b14_ g5
              refine TL.skip rfl rfl (by decide) ?_
              refine TL.done ?_
              exact TC.nrm () [] ⟨rfl, trivial⟩ [] (by kernel_rfl)
            · intro b10_ b11_ b12_ b13_ g5
              refine TL.asL [] (by kernel_rfl) ?_
              refine TL.skip rfl rfl (by decide) ?_
              refine TL.done ?_
              exact TC.nrm () [] ⟨rfl, trivial⟩ [] (by kernel_rfl)
            · intro b10_ b11_ b12_ b13_ g5
              refine TL.asL [] (by kernel_rfl) ?_
              refine TL.skip rfl rfl (by decide) ?_
              refine TL.done ?_
              exact TC.nrm () [] ⟨rfl, trivial⟩ [] (by kernel_rfl)
            · intro g5
              refine TL.skip rfl rfl (by decide) ?_
              refine TL.done ?_
              exact TC.nrm () [] ⟨rfl, trivial⟩ [] (by kernel_rfl)
            · intro g5
              refine TL.pick rfl rfl (b := false) rfl (r := .bool false) rfl ?_
              refine TL.done ?_
              exact TC.nrm () [] ⟨rfl, trivial⟩ [] (by kernel_rfl)
            · intro g5
              refine TL.pick rfl rfl (b := false) rfl (r := .bool false) rfl ?_
              refine TL.done ?_
              exact TC.nrm () [] ⟨rfl, trivial⟩ [] (by kernel_rfl)
          · intro g5
            refine TC.asL [] (by kernel_rfl) ?_
            refine TC.cond_false rfl ?_
            refine TC.skip ?_
            refine TC.region ?_
            refine TL.move rfl rfl (v := .int .i64 sum1) rfl ?_
            refine TL.move rfl rfl (v := SV.v s1) rfl ?_
            refine TL.move rfl rfl (v := .int .i64 i1) rfl ?_
            refine TL.ixs i1 i1.toNat (Rd.old h1) h2 Try.underlying22 Try.sizeOf2 rfl rfl rfl rfl (by omega) ?_
            refine TL.loadE (Rd.old h1) Try.isAgg2 i1.toNat 0 (gt_spec h2) (v := .int .i64 (gt list_1 i1)) rfl (by simp only [show Ei.sz = 1 from rfl] <;> omega) rfl rfl rfl ?_
            refine TL.bin .i64 sum1 (gt list_1 i1) rfl rfl rfl rfl (v := .int .i64 (w64 (sum1 + (gt list_1 i1)))) rfl ?_
            refine TL.assign rfl rfl (v := .int .i64 (w64 (sum1 + (gt list_1 i1)))) rfl ?_
            refine TL.done ?_
            refine TC.region ?_
            refine TL.move rfl rfl (v := .int .i64 i1) rfl ?_
            refine TL.bin .i64 i1 1 rfl rfl rfl rfl (v := .int .i64 (w64 (i1 + 1))) rfl ?_
            refine TL.assign rfl rfl (v := .int .i64 (w64 (i1 + 1))) rfl ?_
            refine TL.done ?_
            exact TC.next (((w64 (sum1 + (gt list_1 i1))), (w64 (i1 + 1)))) (()) ⟨rfl, rfl, rfl, trivial⟩ [] rfl
    · exact TC.brk ((sum1, i1)) (()) ⟨rfl, rfl, rfl, trivial⟩ [] rfl
  · rintro ⟨sum1, i1⟩ _
    refine TC.seq ?_
    refine TC.region ?_
    refine TL.move rfl rfl (v := .int .i64 sum1) rfl ?_
    refine TL.call (R := G.spec_l01In.R) Try.call69 rfl rfl rfl (fun w hS => G.spec_l01In.calls w sum1 1 6) ?_
    rintro r_6 _ _ ⟨rfl, rfl⟩
    refine TL.assign rfl rfl (v := .bool r_6) rfl ?_
    refine TL.done ?_
    exact TC.retF (Fin.body (fin1 (.inr rfl) rfl (.tmp rfl) [] rfl ⟨rfl, rfl⟩))

end Go.Proofs.Ytiiljfpbcanphaa.G

/- spec.l09Place, as a pure function. -/
set_option linter.unusedVariables false
namespace Go.Proofs.Ytiiljfpbcanphaa.G
open Go Go.Sx Go.Proofs

def spec_l09Place.b0 (i1 : Int) (stairs1 : List Int) : Int × Int → Option (LB (Int × Int)) := fun p => match p with | (out1, k_1) => (bif (decide (k_1 < i1)) then chk k_1 stairs1.length (some (.next ((w64 (out1 + (gt stairs1 k_1))), (w64 (k_1 + 1))))) else some (.brk (out1, k_1)))

def spec_l09Place.f (stairs1 : List Int) (i1 : Int) (j1 : Int) : Option Int := (bif (decide (i1 ≥ (stairs1.length : Int))) then some true else chk i1 stairs1.length (some (decide (j1 ≥ (gt stairs1 i1))))).bind (fun b_1 => (bif b_1 then some (-1) else (loop1 (spec_l09Place.b0 i1 stairs1) (j1, 0)).bind (fun p => match p with | (out1, k_1) => some out1)))

def spec_l09Place.R (r : Int) (v : Value) (L : List Asn) : Prop := v = .int .i64 r ∧ L = []

set_option maxRecDepth 100000 in
set_option maxHeartbeats 4000000 in
theorem spec_l09Place.calls (w : World) (s1 : SV) (stairs1 : List Int) (i1 : Int) (j1 : Int) (h1 : Reads Ei (hp w) s1 stairs1) :
    ∀ r, spec_l09Place.f stairs1 i1 j1 = some r → Calls Try.prog 80 #[SV.v s1, .int .i64 i1, .int .i64 j1] w (Ret w (spec_l09Place.R r)) := by

  refine calls_T (n := 34) (Γ := [(0, SV.v s1), (1, .int .i64 i1), (2, .int .i64 j1)]) (R := spec_l09Place.R) Try.func80 rfl rfl (Nat.le_of_ble_eq_true rfl) ⟨rfl, rfl, rfl, trivial⟩ ?_
  unfold spec_l09Place.f
  refine TC.seq ?_
  refine TC.region ?_
  refine TL.assign rfl rfl (v := .int .i64 0) rfl ?_
  refine TL.done ?_
  refine TC.seq ?_
  refine TC.seq ?_
  refine TC.region ?_
  refine TL.move rfl rfl (v := .int .i64 i1) rfl ?_
  refine TL.move rfl rfl (v := SV.v s1) rfl ?_
  refine TL.len (Rd.old h1) Try.underlying22 rfl rfl rfl ?_
  refine TL.bin .i64 i1 (stairs1.length : Int) rfl rfl rfl rfl (v := .bool (decide (i1 ≥ (stairs1.length : Int)))) rfl ?_
  refine TL.move rfl rfl (v := .bool (decide (i1 ≥ (stairs1.length : Int)))) rfl ?_
  refine TL.cutJ (σ := Bool) (γ := Unit) (Γ' := fun b_1 _ => [(20, .bool b_1), (0, SV.v s1), (1, .int .i64 i1), (2, .int .i64 j1), (6, .int .i64 0), (9, .int .i64 i1), (10, SV.v s1), (11, .int .i64 (stairs1.length : Int)), (12, .bool (decide (i1 ≥ (stairs1.length : Int)))), (13, .bool (decide (i1 ≥ (stairs1.length : Int))))]) (L' := fun _ _ => []) 7 ?_ ?_
  · refine TL.ifb (t := 13) (b := (decide (i1 ≥ (stairs1.length : Int)))) rfl (fun c1 => ?_) (fun c2 => ?_)
    · refine TL.skip rfl rfl (by decide) ?_
      refine TL.skip rfl rfl (by decide) ?_
      refine TL.skip rfl rfl (by decide) ?_
      refine TL.skip rfl rfl (by decide) ?_
      refine TL.skip rfl rfl (by decide) ?_
      refine TL.skip rfl rfl (by decide) ?_
      refine TL.pick rfl rfl (b := true) rfl (r := .bool true) rfl ?_
      refine TL.done ?_
      exact TC.nrm (true) () ⟨rfl, rfl, rfl, rfl, rfl, rfl, rfl, rfl, rfl, (by rw [c1]; rfl), trivial⟩ [] (by kernel_rfl)
    · refine TL.move rfl rfl (v := .int .i64 j1) rfl ?_
      refine TL.move rfl rfl (v := SV.v s1) rfl ?_
      refine TL.move rfl rfl (v := .int .i64 i1) rfl ?_
      refine TL.chk fun h2 => ?_
      refine TL.ixs i1 i1.toNat (Rd.old h1) h2 Try.underlying22 Try.sizeOf2 rfl rfl rfl rfl (by omega) ?_
      refine TL.loadE (Rd.old h1) Try.isAgg2 i1.toNat 0 (gt_spec h2) (v := .int .i64 (gt stairs1 i1)) rfl (by simp only [show Ei.sz = 1 from rfl] <;> omega) rfl rfl rfl ?_
      refine TL.bin .i64 j1 (gt stairs1 i1) rfl rfl rfl rfl (v := .bool (decide (j1 ≥ (gt stairs1 i1)))) rfl ?_
      refine TL.pick rfl rfl (b := false) rfl (r := .bool (decide (j1 ≥ (gt stairs1 i1)))) rfl ?_
      refine TL.done ?_
      exact TC.nrm ((decide (j1 ≥ (gt stairs1 i1)))) () ⟨rfl, rfl, rfl, rfl, rfl, rfl, rfl, rfl, rfl, (by rw [c2]; rfl), trivial⟩ [] (by kernel_rfl)
  · rintro b_1 _
    refine TL.done ?_
    refine TC.cond (b := b_1) rfl (fun c3 => ?_) (fun c4 => ?_)
    · refine TC.seq ?_
      refine TC.region ?_
      refine TL.assign rfl rfl (v := .int .i64 (-1)) rfl ?_
      refine TL.done ?_
      exact TC.retF (Fin.body (fin1 (.inr rfl) rfl (.tmp rfl) [] rfl ⟨rfl, rfl⟩))
    · refine TC.skip ?_
      refine TC.seq ?_
      refine TC.region ?_
      refine TL.move rfl rfl (v := .int .i64 j1) rfl ?_
      refine TL.assign rfl rfl (v := .int .i64 j1) rfl ?_
      refine TL.done ?_
      refine TC.seq ?_
      refine TC.seq ?_
      refine TC.region ?_
      refine TL.assign rfl rfl (v := .int .i64 0) rfl ?_
      refine TL.done ?_
      refine TC.loop1 (σ := Int × Int) (γ := Unit) (Γ' := (fun p q => match p, q with | (out1, k_1), _ => [(0, SV.v s1), (1, .int .i64 i1), (7, .int .i64 out1), (8, .int .i64 k_1)])) (L' := (fun p q => match p, q with | (out1, k_1), _ => [])) (Γb := (fun p q => match p, q with | (out1, k_1), _ => [(0, SV.v s1), (1, .int .i64 i1), (7, .int .i64 out1), (8, .int .i64 k_1)])) (Lb := (fun p q => match p, q with | (out1, k_1), _ => [])) ((j1, 0)) (()) ⟨rfl, rfl, rfl, rfl, trivial⟩ [] rfl ?_ ?_
      · rintro ⟨out1, k_1⟩ _
        refine TC.seq ?_
        refine TC.seq ?_
        refine TC.region ?_
        refine TL.move rfl rfl (v := .int .i64 k_1) rfl ?_
        refine TL.move rfl rfl (v := .int .i64 i1) rfl ?_
        refine TL.bin .i64 k_1 i1 rfl rfl rfl rfl (v := .bool (decide (k_1 < i1))) rfl ?_
        refine TL.done ?_
        refine TC.cond (b := (decide (k_1 < i1))) rfl (fun c5 => ?_) (fun c6 => ?_)
        · refine TC.skip ?_
          refine TC.seq ?_
          refine TC.block (NoEx.loop1 rfl) ?_
          refine TC.region ?_
          refine TL.move rfl rfl (v := .int .i64 out1) rfl ?_
          refine TL.move rfl rfl (v := SV.v s1) rfl ?_
          refine TL.move rfl rfl (v := .int .i64 k_1) rfl ?_
          refine TL.chk fun h3 => ?_
          refine TL.ixs k_1 k_1.toNat (Rd.old h1) h3 Try.underlying22 Try.sizeOf2 rfl rfl rfl rfl (by omega) ?_
          refine TL.loadE (Rd.old h1) Try.isAgg2 k_1.toNat 0 (gt_spec h3) (v := .int .i64 (gt stairs1 k_1)) rfl (by simp only [show Ei.sz = 1 from rfl] <;> omega) rfl rfl rfl ?_
          refine TL.bin .i64 out1 (gt stairs1 k_1) rfl rfl rfl rfl (v := .int .i64 (w64 (out1 + (gt stairs1 k_1)))) rfl ?_
          refine TL.assign rfl rfl (v := .int .i64 (w64 (out1 + (gt stairs1 k_1)))) rfl ?_
          refine TL.done ?_
          refine TC.region ?_
          refine TL.move rfl rfl (v := .int .i64 k_1) rfl ?_
          refine TL.bin .i64 k_1 1 rfl rfl rfl rfl (v := .int .i64 (w64 (k_1 + 1))) rfl ?_
          refine TL.assign rfl rfl (v := .int .i64 (w64 (k_1 + 1))) rfl ?_
          refine TL.done ?_
          exact TC.next1 (((w64 (out1 + (gt stairs1 k_1))), (w64 (k_1 + 1)))) (()) ⟨rfl, rfl, rfl, rfl, trivial⟩ [] rfl
        · exact TC.brk1 ((out1, k_1)) (()) ⟨rfl, rfl, rfl, rfl, trivial⟩ [] rfl
      · rintro ⟨out1, k_1⟩ _
        refine TC.seq ?_
        refine TC.region ?_
        refine TL.move rfl rfl (v := .int .i64 out1) rfl ?_
        refine TL.assign rfl rfl (v := .int .i64 out1) rfl ?_
        refine TL.done ?_
        exact TC.retF (Fin.body (fin1 (.inr rfl) rfl (.tmp rfl) [] rfl ⟨rfl, rfl⟩))

end Go.Proofs.Ytiiljfpbcanphaa.G

/- spec.l01Prime, as a pure function. -/
set_option linter.unusedVariables false
namespace Go.Proofs.Ytiiljfpbcanphaa.G
open Go Go.Sx Go.Proofs

def spec_l01Prime.f (p1 : Int) : Option Bool := some ((((((p1 == 2) || (p1 == 3)) || (p1 == 5)) || (p1 == 7)) || (p1 == 11)) || (p1 == 13))

def spec_l01Prime.R (r : Bool) (v : Value) (L : List Asn) : Prop := v = .bool r ∧ L = []

set_option maxRecDepth 100000 in
set_option maxHeartbeats 4000000 in
theorem spec_l01Prime.calls (w : World) (p1 : Int) :
    ∀ r, spec_l01Prime.f p1 = some r → Calls Try.prog 84 #[.int .i64 p1] w (Ret w (spec_l01Prime.R r)) := by

  refine calls_T (n := 25) (Γ := [(0, .int .i64 p1)]) (R := spec_l01Prime.R) Try.func84 rfl rfl (Nat.le_of_ble_eq_true rfl) ⟨rfl, trivial⟩ ?_
  unfold spec_l01Prime.f
  refine TC.seq ?_
  refine TC.region ?_
  refine TL.assign rfl rfl (v := .bool false) rfl ?_
  refine TL.done ?_
  refine TC.seq ?_
  refine TC.region ?_
  refine TL.move rfl rfl (v := .int .i64 p1) rfl ?_
  refine TL.bin .i64 p1 2 rfl rfl rfl rfl (v := .bool (p1 == 2)) rfl ?_
  refine TL.move rfl rfl (v := .bool (p1 == 2)) rfl ?_
  refine TL.cutU 3 [(8, .bool ((p1 == 2) || (p1 == 3))), (0, .int .i64 p1), (2, .bool false), (3, .int .i64 p1), (4, .bool (p1 == 2)), (5, .bool (p1 == 2))] [] ?_ ?_
  · refine TL.cases (t := 5) (b := (p1 == 2)) rfl (fun c1 => ?_) (fun c2 => ?_)
    · refine TL.skip rfl rfl (by decide) ?_
      refine TL.skip rfl rfl (by decide) ?_
      refine TL.pick rfl rfl (b := true) rfl (r := .bool true) rfl ?_
      refine TL.done ?_
      exact TC.nrm () () ⟨(by rw [c1]; rfl), rfl, rfl, rfl, rfl, (by rw [c1]; rfl), trivial⟩ [] (by kernel_rfl)
    · refine TL.move rfl rfl (v := .int .i64 p1) rfl ?_
      refine TL.bin .i64 p1 3 rfl rfl rfl rfl (v := .bool (p1 == 3)) rfl ?_
      refine TL.pick rfl rfl (b := false) rfl (r := .bool (p1 == 3)) rfl ?_
      refine TL.done ?_
      exact TC.nrm () () ⟨(by rw [c2]; rfl), rfl, rfl, rfl, rfl, (by rw [c2]; rfl), trivial⟩ [] (by kernel_rfl)
  · refine TL.move rfl rfl (v := .bool ((p1 == 2) || (p1 == 3))) rfl ?_
    refine TL.cutU 3 [(12, .bool (((p1 == 2) || (p1 == 3)) || (p1 == 5))), (0, .int .i64 p1), (2, .bool false), (3, .int .i64 p1), (4, .bool (p1 == 2)), (5, .bool (p1 == 2)), (8, .bool ((p1 == 2) || (p1 == 3))), (9, .bool ((p1 == 2) || (p1 == 3)))] [] ?_ ?_
    · refine TL.cases (t := 9) (b := ((p1 == 2) || (p1 == 3))) rfl (fun c3 => ?_) (fun c4 => ?_)
      · refine TL.skip rfl rfl (by decide) ?_
        refine TL.skip rfl rfl (by decide) ?_
        refine TL.pick rfl rfl (b := true) rfl (r := .bool true) rfl ?_
        refine TL.done ?_
        exact TC.nrm () () ⟨(by rw [c3]; rfl), rfl, rfl, rfl, rfl, rfl, rfl, (by rw [c3]; rfl), trivial⟩ [] (by kernel_rfl)
      · refine TL.move rfl rfl (v := .int .i64 p1) rfl ?_
        refine TL.bin .i64 p1 5 rfl rfl rfl rfl (v := .bool (p1 == 5)) rfl ?_
        refine TL.pick rfl rfl (b := false) rfl (r := .bool (p1 == 5)) rfl ?_
        refine TL.done ?_
        exact TC.nrm () () ⟨(by rw [c4]; rfl), rfl, rfl, rfl, rfl, rfl, rfl, (by rw [c4]; rfl), trivial⟩ [] (by kernel_rfl)
    · refine TL.move rfl rfl (v := .bool (((p1 == 2) || (p1 == 3)) || (p1 == 5))) rfl ?_
      refine TL.cutU 3 [(16, .bool ((((p1 == 2) || (p1 == 3)) || (p1 == 5)) || (p1 == 7))), (0, .int .i64 p1), (2, .bool false), (3, .int .i64 p1), (4, .bool (p1 == 2)), (5, .bool (p1 == 2)), (8, .bool ((p1 == 2) || (p1 == 3))), (9, .bool ((p1 == 2) || (p1 == 3))), (12, .bool (((p1 == 2) || (p1 == 3)) || (p1 == 5))), (13, .bool (((p1 == 2) || (p1 == 3)) || (p1 == 5)))] [] ?_ ?_
      · refine TL.cases (t := 13) (b := (((p1 == 2) || (p1 == 3)) || (p1 == 5))) rfl (fun c5 => ?_) (fun c6 => ?_)
        · refine TL.skip rfl rfl (by decide) ?_
          refine TL.skip rfl rfl (by decide) ?_
          refine TL.pick rfl rfl (b := true) rfl (r := .bool true) rfl ?_
          refine TL.done ?_
          exact TC.nrm () () ⟨(by rw [c5]; rfl), rfl, rfl, rfl, rfl, rfl, rfl, rfl, rfl, (by rw [c5]; rfl), trivial⟩ [] (by kernel_rfl)
        · refine TL.move rfl rfl (v := .int .i64 p1) rfl ?_
          refine TL.bin .i64 p1 7 rfl rfl rfl rfl (v := .bool (p1 == 7)) rfl ?_
          refine TL.pick rfl rfl (b := false) rfl (r := .bool (p1 == 7)) rfl ?_
          refine TL.done ?_
          exact TC.nrm () () ⟨(by rw [c6]; rfl), rfl, rfl, rfl, rfl, rfl, rfl, rfl, rfl, (by rw [c6]; rfl), trivial⟩ [] (by kernel_rfl)
      · refine TL.move rfl rfl (v := .bool ((((p1 == 2) || (p1 == 3)) || (p1 == 5)) || (p1 == 7))) rfl ?_
        refine TL.cutU 3 [(20, .bool (((((p1 == 2) || (p1 == 3)) || (p1 == 5)) || (p1 == 7)) || (p1 == 11))), (0, .int .i64 p1), (2, .bool false), (3, .int .i64 p1), (4, .bool (p1 == 2)), (5, .bool (p1 == 2)), (8, .bool ((p1 == 2) || (p1 == 3))), (9, .bool ((p1 == 2) || (p1 == 3))), (12, .bool (((p1 == 2) || (p1 == 3)) || (p1 == 5))), (13, .bool (((p1 == 2) || (p1 == 3)) || (p1 == 5))), (16, .bool ((((p1 == 2) || (p1 == 3)) || (p1 == 5)) || (p1 == 7))), (17, .bool ((((p1 == 2) || (p1 == 3)) || (p1 == 5)) || (p1 == 7)))] [] ?_ ?_
        · refine TL.cases (t := 17) (b := ((((p1 == 2) || (p1 == 3)) || (p1 == 5)) || (p1 == 7))) rfl (fun c7 => ?_) (fun c8 => ?_)
          · refine TL.skip rfl rfl (by decide) ?_
            refine TL.skip rfl rfl (by decide) ?_
            refine TL.pick rfl rfl (b := true) rfl (r := .bool true) rfl ?_
            refine TL.done ?_
            exact TC.nrm () () ⟨(by rw [c7]; rfl), rfl, rfl, rfl, rfl, rfl, rfl, rfl, rfl, rfl, rfl, (by rw [c7]; rfl), trivial⟩ [] (by kernel_rfl)
          · refine TL.move rfl rfl (v := .int .i64 p1) rfl ?_
            refine TL.bin .i64 p1 11 rfl rfl rfl rfl (v := .bool (p1 == 11)) rfl ?_
            refine TL.pick rfl rfl (b := false) rfl (r := .bool (p1 == 11)) rfl ?_
            refine TL.done ?_
            exact TC.nrm () () ⟨(by rw [c8]; rfl), rfl, rfl, rfl, rfl, rfl, rfl, rfl, rfl, rfl, rfl, (by rw [c8]; rfl), trivial⟩ [] (by kernel_rfl)
        · refine TL.move rfl rfl (v := .bool (((((p1 == 2) || (p1 == 3)) || (p1 == 5)) || (p1 == 7)) || (p1 == 11))) rfl ?_
          refine TL.cutU 3 [(24, .bool ((((((p1 == 2) || (p1 == 3)) || (p1 == 5)) || (p1 == 7)) || (p1 == 11)) || (p1 == 13))), (0, .int .i64 p1), (2, .bool false), (3, .int .i64 p1), (4, .bool (p1 == 2)), (5, .bool (p1 == 2)), (8, .bool ((p1 == 2) || (p1 == 3))), (9, .bool ((p1 == 2) || (p1 == 3))), (12, .bool (((p1 == 2) || (p1 == 3)) || (p1 == 5))), (13, .bool (((p1 == 2) || (p1 == 3)) || (p1 == 5))), (16, .bool ((((p1 == 2) || (p1 == 3)) || (p1 == 5)) || (p1 == 7))), (17, .bool ((((p1 == 2) || (p1 == 3)) || (p1 == 5)) || (p1 == 7))), (20, .bool (((((p1 == 2) || (p1 == 3)) || (p1 == 5)) || (p1 == 7)) || (p1 == 11))), (21, .bool (((((p1 == 2) || (p1 == 3)) || (p1 == 5)) || (p1 == 7)) || (p1 == 11)))] [] ?_ ?_
          · refine TL.cases (t := 21) (b := (((((p1 == 2) || (p1 == 3)) || (p1 == 5)) || (p1 == 7)) || (p1 == 11))) rfl (fun c9 => ?_) (fun c10 => ?_)
            · refine TL.skip rfl rfl (by decide) ?_
              refine TL.skip rfl rfl (by decide) ?_
              refine TL.pick rfl rfl (b := true) rfl (r := .bool true) rfl ?_
              refine TL.done ?_
              exact TC.nrm () () ⟨(by rw [c9]; rfl), rfl, rfl, rfl, rfl, rfl, rfl, rfl, rfl, rfl, rfl, rfl, rfl, (by rw [c9]; rfl), trivial⟩ [] (by kernel_rfl)
            · refine TL.move rfl rfl (v := .int .i64 p1) rfl ?_
              refine TL.bin .i64 p1 13 rfl rfl rfl rfl (v := .bool (p1 == 13)) rfl ?_
              refine TL.pick rfl rfl (b := false) rfl (r := .bool (p1 == 13)) rfl ?_
              refine TL.done ?_
              exact TC.nrm () () ⟨(by rw [c10]; rfl), rfl, rfl, rfl, rfl, rfl, rfl, rfl, rfl, rfl, rfl, rfl, rfl, (by rw [c10]; rfl), trivial⟩ [] (by kernel_rfl)
          · refine TL.assign rfl rfl (v := .bool ((((((p1 == 2) || (p1 == 3)) || (p1 == 5)) || (p1 == 7)) || (p1 == 11)) || (p1 == 13))) rfl ?_
            refine TL.done ?_
            exact TC.retF (Fin.body (fin1 (.inr rfl) rfl (.tmp rfl) [] rfl ⟨rfl, rfl⟩))

end Go.Proofs.Ytiiljfpbcanphaa.G

/- spec.StairsAlgebra, as a pure function. -/
set_option linter.unusedVariables false
namespace Go.Proofs.Ytiiljfpbcanphaa.G
open Go Go.Sx Go.Proofs

def spec_StairsAlgebra.b0 (x2 : List Int) : Int × Int → Option (LB (Int × Int)) := fun p => match p with | (y1, x3) => (bif (decide (x3 < (x2.length : Int))) then chk x3 x2.length (some (.next ((w64 (y1 + (gt x2 x3))), (w64 (x3 + 1))))) else some (.brk (y1, x3)))

def spec_StairsAlgebra.b1 (x6 : Int) (x2 : List Int) (x4 : Int) (x5 : Int) : (Nat → UInt8) × Int → Option (LB ((Nat → UInt8) × Int)) := fun p => match p with | (y5, x7) => chk x6 x2.length ((bif (decide (x7 < (gt x2 x6))) then (G.spec_l09Place.f x2 (w64 (x4 + x6)) (w64 (x5 + x7))).bind (fun r_3 => ((bif (decide (r_3 ≥ 0)) then (G.spec_l09Place.f x2 x4 x5).bind (fun r_4 => (G.spec_l09Place.f x2 x6 x7).bind (fun r_5 => chk r_4 6 (chk r_5 6 (chk r_3 6 (some (upd y5 (r_4.toNat * 36 + r_5.toNat * 6 + r_3.toNat) (1 : UInt8))))))) else some y5)).bind (fun y6 => some (.next (y6, (w64 (x7 + 1)))))) else some (.brk (y5, x7))))

def spec_StairsAlgebra.b2 (x2 : List Int) (x4 : Int) (x5 : Int) : (Nat → UInt8) × Int → Option (LB ((Nat → UInt8) × Int)) := fun p => match p with | (y4, x6) => (bif (decide (x6 < (x2.length : Int))) then (loop1 (spec_StairsAlgebra.b1 x6 x2 x4 x5) (y4, 0)).bind (fun p => match p with | (y5, x7) => some (.next (y5, (w64 (x6 + 1))))) else some (.brk (y4, x6)))

def spec_StairsAlgebra.b3 (x4 : Int) (x2 : List Int) : (Nat → UInt8) × Int → Option (LB ((Nat → UInt8) × Int)) := fun p => match p with | (y3, x5) => chk x4 x2.length ((bif (decide (x5 < (gt x2 x4))) then (loop1 (spec_StairsAlgebra.b2 x2 x4 x5) (y3, 0)).bind (fun p => match p with | (y4, x6) => some (.next (y4, (w64 (x5 + 1))))) else some (.brk (y3, x5))))

def spec_StairsAlgebra.b4 (x2 : List Int) : (Nat → UInt8) × Int → Option (LB ((Nat → UInt8) × Int)) := fun p => match p with | (y2, x4) => (bif (decide (x4 < (x2.length : Int))) then (loop1 (spec_StairsAlgebra.b3 x4 x2) (y2, 0)).bind (fun p => match p with | (y3, x5) => some (.next (y3, (w64 (x4 + 1))))) else some (.brk (y2, x4)))

def spec_StairsAlgebra.f (x1 : Int) (x2 : List Int) : Option (Int × Int × (Nat → UInt8) × (Nat → UInt8) × Int) := (G.spec_l01Prime.f x1).bind (fun r_1 => (bif (!r_1) then some true else (G.spec_l09Stairs.f x2).bind (fun r_2 => some (!r_2))).bind (fun b_2 => (bif b_2 then some (0, 0, (fun _ => (0 : UInt8)), (fun _ => (0 : UInt8)), 2) else (loop1 (spec_StairsAlgebra.b0 x2) (0, 0)).bind (fun p => match p with | (y1, x3) => chk (w64 (y1 - 1)) 6 ((loop1 (spec_StairsAlgebra.b4 x2) ((fun _ => (0 : UInt8)), 0)).bind (fun p => match p with | (y2, x4) => some (x1, y1, y2, (upd (fun _ => (0 : UInt8)) ((w64 (y1 - 1)).toNat) (1 : UInt8)), 0)))))))

def spec_StairsAlgebra.R (r : Int × Int × (Nat → UInt8) × (Nat → UInt8) × Int) (v : Value) (L : List Asn) : Prop := v = .tuple #[sval [.one (.int .i64 r.1), .one (.int .i64 r.2.1), .arr 216 (enf u8v r.2.2.1), .arr 6 (enf u8v r.2.2.2.1)], .int .i64 r.2.2.2.2] ∧ L = []

set_option maxRecDepth 100000 in
set_option maxHeartbeats 4000000 in
theorem spec_StairsAlgebra.calls (w : World) (x1 : Int) (s1 : SV) (x2 : List Int) (h1 : Reads Ei (hp w) s1 x2) :
    ∀ r, spec_StairsAlgebra.f x1 x2 = some r → Calls Try.prog 27 #[.int .i64 x1, SV.v s1] w (Ret w (spec_StairsAlgebra.R r)) := by

  refine calls_T (n := 95) (Γ := [(0, .int .i64 x1), (1, SV.v s1)]) (R := spec_StairsAlgebra.R) Try.func27 rfl rfl (Nat.le_of_ble_eq_true rfl) ⟨rfl, rfl, trivial⟩ ?_
  unfold spec_StairsAlgebra.f
  refine TC.seq ?_
  refine TC.region ?_
  refine TL.alloc [.one (.int .i64 0), .one (.int .i64 0), .arr 216 (enf u8v (fun _ => (0 : UInt8))), .arr 6 (enf u8v (fun _ => (0 : UInt8)))] rfl rfl Try.zeroValue43 rfl fun b_1 => ?_
  refine TL.assign rfl rfl (v := .int .i64 0) rfl ?_
  refine TL.done ?_
  refine TC.seq ?_
  refine TC.seq ?_
  refine TC.region ?_
  refine TL.move rfl rfl (v := .int .i64 x1) rfl ?_
  refine TL.call (R := G.spec_l01Prime.R) Try.call84 rfl rfl rfl (fun w hS => G.spec_l01Prime.calls w x1) ?_
  rintro r_1 _ _ ⟨rfl, rfl⟩
  refine TL.not r_1 rfl rfl rfl ?_
  refine TL.move rfl rfl (v := .bool (!r_1)) rfl ?_
  refine TL.cutJ (σ := Bool) (γ := Unit) (Γ' := fun b_2 _ => [(20, .bool b_2), (0, .int .i64 x1), (1, SV.v s1), (4, bp b_1 0), (5, .int .i64 0), (13, .int .i64 x1), (14, .bool r_1), (15, .bool (!r_1)), (16, .bool (!r_1))]) (L' := fun _ _ => [box b_1 43 [.one (.int .i64 0), .one (.int .i64 0), .arr 216 (enf u8v (fun _ => (0 : UInt8))), .arr 6 (enf u8v (fun _ => (0 : UInt8)))]]) 4 ?_ ?_
  · refine TL.ifb (t := 16) (b := (!r_1)) rfl (fun c1 => ?_) (fun c2 => ?_)
    · refine TL.skip rfl rfl (by decide) ?_
      refine TL.skip rfl rfl (by decide) ?_
      refine TL.skip rfl rfl (by decide) ?_
      refine TL.pick rfl rfl (b := true) rfl (r := .bool true) rfl ?_
      refine TL.done ?_
      exact TC.nrm (true) () ⟨rfl, rfl, rfl, rfl, rfl, rfl, rfl, rfl, (by rw [c1]; rfl), trivial⟩ [0] (by kernel_rfl)
    · refine TL.move rfl rfl (v := SV.v s1) rfl ?_
      refine TL.call (R := G.spec_l09Stairs.R) Try.call79 rfl rfl rfl (fun w hS => G.spec_l09Stairs.calls w s1 x2 ((Rd.old h1) w hS)) ?_
      rintro r_2 _ _ ⟨rfl, rfl⟩
      refine TL.not r_2 rfl rfl rfl ?_
      refine TL.pick rfl rfl (b := false) rfl (r := .bool (!r_2)) rfl ?_
      refine TL.done ?_
      exact TC.nrm ((!r_2)) () ⟨rfl, rfl, rfl, rfl, rfl, rfl, rfl, rfl, (by rw [c2]; rfl), trivial⟩ [0] (by kernel_rfl)
  · rintro b_2 _
    refine TL.done ?_
    refine TC.cond (b := b_2) rfl (fun c3 => ?_) (fun c4 => ?_)
    · refine TC.seq ?_
      refine TC.region ?_
      refine TL.buildS (segs0 := [.one (.int .i64 0), .one (.int .i64 0), .arr 216 (enf u8v (fun _ => (0 : UInt8))), .arr 6 (enf u8v (fun _ => (0 : UInt8)))]) (segs := [.one (.int .i64 0), .one (.int .i64 0), .arr 216 (enf u8v (fun _ => (0 : UInt8))), .arr 6 (enf u8v (fun _ => (0 : UInt8)))]) [1, 1, 216, 6] Try.underlying43 ⟨Try.sizeOf2, Try.sizeOf2, Try.sizeOf40, Try.sizeOf41, trivial⟩ Try.zeroValue43 rfl [] rfl (fun pl hpl => by subst hpl; exact rfl) rfl rfl ?_
      refine TL.stM (news := [.one (.int .i64 0), .one (.int .i64 0), .arr 216 (enf u8v (fun _ => (0 : UInt8))), .arr 6 (enf u8v (fun _ => (0 : UInt8)))]) 0 0 4 rfl Try.sizeOf43 (ones_one rfl (ones_one rfl (ones_arr (fun _ => rfl) (ones_arr (fun _ => rfl) ones_nil)))) rfl rfl rfl rfl rfl rfl ?_
      refine TL.assign rfl rfl (v := .int .i64 2) rfl ?_
      refine TL.done ?_
      exact TC.retF (Fin.body (fin2 (.inr rfl) rfl (.cellN rfl (Src.box 0 rfl) Try.isAgg43 Try.sizeOf43 rfl) (.tmp rfl) [] rfl ⟨rfl, rfl⟩))
    · refine TC.skip ?_
      refine TC.seq ?_
      refine TC.region ?_
      refine TL.move rfl rfl (v := .int .i64 x1) rfl ?_
      refine TL.buildS (segs0 := [.one (.int .i64 0), .one (.int .i64 0), .arr 216 (enf u8v (fun _ => (0 : UInt8))), .arr 6 (enf u8v (fun _ => (0 : UInt8)))]) (segs := [.one (.int .i64 x1), .one (.int .i64 0), .arr 216 (enf u8v (fun _ => (0 : UInt8))), .arr 6 (enf u8v (fun _ => (0 : UInt8)))]) [1, 1, 216, 6] Try.underlying43 ⟨Try.sizeOf2, Try.sizeOf2, Try.sizeOf40, Try.sizeOf41, trivial⟩ Try.zeroValue43 rfl [(0, .int .i64 x1)] rfl (fun pl hpl => by subst hpl; exact fill_one 0 rfl rfl rfl rfl (rfl)) rfl rfl ?_
      refine TL.alloc [.one (.int .i64 0), .one (.int .i64 0), .arr 216 (enf u8v (fun _ => (0 : UInt8))), .arr 6 (enf u8v (fun _ => (0 : UInt8)))] rfl rfl Try.zeroValue43 rfl fun b_3 => ?_
      refine TL.stM (news := [.one (.int .i64 x1), .one (.int .i64 0), .arr 216 (enf u8v (fun _ => (0 : UInt8))), .arr 6 (enf u8v (fun _ => (0 : UInt8)))]) 0 0 4 rfl Try.sizeOf43 (ones_one rfl (ones_one rfl (ones_arr (fun _ => rfl) (ones_arr (fun _ => rfl) ones_nil)))) rfl rfl rfl rfl rfl rfl ?_
      refine TL.done ?_
      refine TC.seq ?_
      refine TC.seq ?_
      refine TC.region ?_
      refine TL.assign rfl rfl (v := .int .i64 0) rfl ?_
      refine TL.done ?_
      refine TC.loop1 (σ := Int × Int) (γ := Unit) (Γ' := (fun p q => match p, q with | (y1, x3), _ => [(1, SV.v s1), (4, bp b_1 0), (6, bp b_3 0), (7, .int .i64 x3)])) (L' := (fun p q => match p, q with | (y1, x3), _ => [box b_1 43 [.one (.int .i64 0), .one (.int .i64 0), .arr 216 (enf u8v (fun _ => (0 : UInt8))), .arr 6 (enf u8v (fun _ => (0 : UInt8)))], box b_3 43 [.one (.int .i64 x1), .one (.int .i64 y1), .arr 216 (enf u8v (fun _ => (0 : UInt8))), .arr 6 (enf u8v (fun _ => (0 : UInt8)))]])) (Γb := (fun p q => match p, q with | (y1, x3), _ => [(1, SV.v s1), (4, bp b_1 0), (6, bp b_3 0), (7, .int .i64 x3)])) (Lb := (fun p q => match p, q with | (y1, x3), _ => [box b_1 43 [.one (.int .i64 0), .one (.int .i64 0), .arr 216 (enf u8v (fun _ => (0 : UInt8))), .arr 6 (enf u8v (fun _ => (0 : UInt8)))], box b_3 43 [.one (.int .i64 x1), .one (.int .i64 y1), .arr 216 (enf u8v (fun _ => (0 : UInt8))), .arr 6 (enf u8v (fun _ => (0 : UInt8)))]])) ((0, 0)) (()) ⟨rfl, rfl, rfl, rfl, trivial⟩ [1, 0] rfl ?_ ?_
      · rintro ⟨y1, x3⟩ _
        refine TC.seq ?_
        refine TC.seq ?_
        refine TC.region ?_
        refine TL.move rfl rfl (v := .int .i64 x3) rfl ?_
        refine TL.move rfl rfl (v := SV.v s1) rfl ?_
        refine TL.len (Rd.old h1) Try.underlying22 rfl rfl rfl ?_
        refine TL.bin .i64 x3 (x2.length : Int) rfl rfl rfl rfl (v := .bool (decide (x3 < (x2.length : Int)))) rfl ?_
        refine TL.done ?_
        refine TC.cond (b := (decide (x3 < (x2.length : Int)))) rfl (fun c5 => ?_) (fun c6 => ?_)
        · refine TC.skip ?_
          refine TC.seq ?_
          refine TC.block (NoEx.loop1 rfl) ?_
          refine TC.wk (Γ' := [(1, SV.v s1), (4, bp b_1 0), (6, bp b_3 0), (7, .int .i64 x3), (24, .int .i64 x3), (25, SV.v s1), (26, .int .i64 (x2.length : Int)), (27, .bool (decide (x3 < (x2.length : Int))))]) ⟨rfl, rfl, rfl, rfl, rfl, rfl, rfl, rfl, trivial⟩ ?_
          refine TC.chk fun h2 => ?_
          refine TC.draw [bp b_3 1, .int .i64 y1, SV.v s1, .int .i64 x3, ep s1 x3.toNat, .int .i64 (gt x2 x3), .int .i64 (w64 (y1 + (gt x2 x3))), bp b_3 1, undef] 8 [box b_1 43 [.one (.int .i64 0), .one (.int .i64 0), .arr 216 (enf u8v (fun _ => (0 : UInt8))), .arr 6 (enf u8v (fun _ => (0 : UInt8)))], box b_3 43 [.one (.int .i64 x1), .one (.int .i64 (w64 (y1 + (gt x2 x3)))), .arr 216 (enf u8v (fun _ => (0 : UInt8))), .arr 6 (enf u8v (fun _ => (0 : UInt8)))]] (by kernel_rfl) rfl rfl rfl rfl ?_ ?_
          · refine ⟨?_, ?_, ?_, ?_, ?_, ?_, ?_, ?_, ?_, trivial⟩
            · refine TL.fa Try.underlying43 rfl Try.sizeOf2 rfl 1 rfl rfl rfl rfl ?_
              refine TL.done ?_
              exact TC.nrm () () ⟨rfl, trivial⟩ [0, 0] (by kernel_rfl)
            · refine TL.load1 1 (Src.box 1 rfl) Try.isAgg2 rfl rfl rfl rfl rfl ?_
              refine TL.done ?_
              exact TC.nrm () () ⟨rfl, trivial⟩ [0, 0] (by kernel_rfl)
            · refine TL.move rfl rfl (v := SV.v s1) rfl ?_
              refine TL.done ?_
              exact TC.nrm () () ⟨rfl, trivial⟩ [0, 0] (by kernel_rfl)
            · refine TL.move rfl rfl (v := .int .i64 x3) rfl ?_
              refine TL.done ?_
              exact TC.nrm () () ⟨rfl, trivial⟩ [0, 0] (by kernel_rfl)
            · refine TL.ixs x3 x3.toNat (Rd.old h1) h2 Try.underlying22 Try.sizeOf2 rfl rfl rfl rfl (by omega) ?_
              refine TL.done ?_
              exact TC.nrm () () ⟨rfl, trivial⟩ [0, 0] (by kernel_rfl)
            · refine TL.loadE (Rd.old h1) Try.isAgg2 x3.toNat 0 (gt_spec h2) (v := .int .i64 (gt x2 x3)) rfl (by simp only [show Ei.sz = 1 from rfl] <;> omega) rfl rfl rfl ?_
              refine TL.done ?_
              exact TC.nrm () () ⟨rfl, trivial⟩ [0, 0] (by kernel_rfl)
            · refine TL.bin .i64 y1 (gt x2 x3) rfl rfl rfl rfl (v := .int .i64 (w64 (y1 + (gt x2 x3)))) rfl ?_
              refine TL.done ?_
              exact TC.nrm () () ⟨rfl, trivial⟩ [0, 0] (by kernel_rfl)
            · refine TL.fa Try.underlying43 rfl Try.sizeOf2 rfl 1 rfl rfl rfl rfl ?_
              refine TL.done ?_
              exact TC.nrm () () ⟨rfl, trivial⟩ [0, 0] (by kernel_rfl)
            · refine TL.st1 1 1 rfl Try.sizeOf2 rfl rfl rfl rfl rfl rfl rfl ?_
              refine TL.done ?_
              exact TC.nrm () () trivial [0, 0] (by kernel_rfl)
          · refine TC.region ?_
            refine TL.move rfl rfl (v := .int .i64 x3) rfl ?_
            refine TL.bin .i64 x3 1 rfl rfl rfl rfl (v := .int .i64 (w64 (x3 + 1))) rfl ?_
            refine TL.assign rfl rfl (v := .int .i64 (w64 (x3 + 1))) rfl ?_
            refine TL.done ?_
            exact TC.next1 (((w64 (y1 + (gt x2 x3))), (w64 (x3 + 1)))) (()) ⟨rfl, rfl, rfl, rfl, trivial⟩ [0, 0] rfl
        · exact TC.brk1 ((y1, x3)) (()) ⟨rfl, rfl, rfl, rfl, trivial⟩ [0, 0] rfl
      · rintro ⟨y1, x3⟩ _
        refine TC.seq ?_
        refine TC.region ?_
        refine TL.fa Try.underlying43 rfl Try.sizeOf2 rfl 1 rfl rfl rfl rfl ?_
        refine TL.load1 1 (Src.box 1 rfl) Try.isAgg2 rfl rfl rfl rfl rfl ?_
        refine TL.bin .i64 y1 1 rfl rfl rfl rfl (v := .int .i64 (w64 (y1 - 1))) rfl ?_
        refine TL.fa Try.underlying43 rfl Try.sizeOf41 rfl 218 rfl rfl rfl rfl ?_
        refine TL.chk fun h3 => ?_
        refine TL.ixa (w64 (y1 - 1)) (218 + (w64 (y1 - 1)).toNat) h3 Try.underlying41 Try.sizeOf5 rfl rfl rfl rfl (by omega) ?_
        refine TL.stA (e := u8v) (z := (1 : UInt8)) 1 3 ((w64 (y1 - 1)).toNat) rfl Try.sizeOf5 rfl (by omega) (s := 218) rfl (by omega) rfl rfl rfl rfl rfl ?_
        refine TL.done ?_
        refine TC.seq ?_
        refine TC.seq ?_
        refine TC.region ?_
        refine TL.assign rfl rfl (v := .int .i64 0) rfl ?_
        refine TL.done ?_
        refine TC.loop1 (σ := (Nat → UInt8) × Int) (γ := Unit) (Γ' := (fun p q => match p, q with | (y2, x4), _ => [(1, SV.v s1), (4, bp b_1 0), (6, bp b_3 0), (8, .int .i64 x4)])) (L' := (fun p q => match p, q with | (y2, x4), _ => [box b_1 43 [.one (.int .i64 0), .one (.int .i64 0), .arr 216 (enf u8v (fun _ => (0 : UInt8))), .arr 6 (enf u8v (fun _ => (0 : UInt8)))], box b_3 43 [.one (.int .i64 x1), .one (.int .i64 y1), .arr 216 (enf u8v y2), .arr 6 (enf u8v (upd (fun _ => (0 : UInt8)) ((w64 (y1 - 1)).toNat) (1 : UInt8)))]])) (Γb := (fun p q => match p, q with | (y2, x4), _ => [(1, SV.v s1), (4, bp b_1 0), (6, bp b_3 0), (8, .int .i64 x4)])) (Lb := (fun p q => match p, q with | (y2, x4), _ => [box b_1 43 [.one (.int .i64 0), .one (.int .i64 0), .arr 216 (enf u8v (fun _ => (0 : UInt8))), .arr 6 (enf u8v (fun _ => (0 : UInt8)))], box b_3 43 [.one (.int .i64 x1), .one (.int .i64 y1), .arr 216 (enf u8v y2), .arr 6 (enf u8v (upd (fun _ => (0 : UInt8)) ((w64 (y1 - 1)).toNat) (1 : UInt8)))]])) (((fun _ => (0 : UInt8)), 0)) (()) ⟨rfl, rfl, rfl, rfl, trivial⟩ [0, 0] rfl ?_ ?_
        · rintro ⟨y2, x4⟩ _
          refine TC.seq ?_
          refine TC.seq ?_
          refine TC.region ?_
          refine TL.move rfl rfl (v := .int .i64 x4) rfl ?_
          refine TL.move rfl rfl (v := SV.v s1) rfl ?_
          refine TL.len (Rd.old h1) Try.underlying22 rfl rfl rfl ?_
          refine TL.bin .i64 x4 (x2.length : Int) rfl rfl rfl rfl (v := .bool (decide (x4 < (x2.length : Int)))) rfl ?_
          refine TL.done ?_
          refine TC.cond (b := (decide (x4 < (x2.length : Int)))) rfl (fun c7 => ?_) (fun c8 => ?_)
          · refine TC.skip ?_
            refine TC.seq ?_
            refine TC.block (NoEx.loop1 rfl) ?_
            refine TC.seq ?_
            refine TC.region ?_
            refine TL.assign rfl rfl (v := .int .i64 0) rfl ?_
            refine TL.done ?_
            refine TC.loop1 (σ := (Nat → UInt8) × Int) (γ := Unit) (Γ' := (fun p q => match p, q with | (y3, x5), _ => [(1, SV.v s1), (4, bp b_1 0), (6, bp b_3 0), (8, .int .i64 x4), (9, .int .i64 x5)])) (L' := (fun p q => match p, q with | (y3, x5), _ => [box b_1 43 [.one (.int .i64 0), .one (.int .i64 0), .arr 216 (enf u8v (fun _ => (0 : UInt8))), .arr 6 (enf u8v (fun _ => (0 : UInt8)))], box b_3 43 [.one (.int .i64 x1), .one (.int .i64 y1), .arr 216 (enf u8v y3), .arr 6 (enf u8v (upd (fun _ => (0 : UInt8)) ((w64 (y1 - 1)).toNat) (1 : UInt8)))]])) (Γb := (fun p q => match p, q with | (y3, x5), _ => [(1, SV.v s1), (4, bp b_1 0), (6, bp b_3 0), (8, .int .i64 x4), (9, .int .i64 x5)])) (Lb := (fun p q => match p, q with | (y3, x5), _ => [box b_1 43 [.one (.int .i64 0), .one (.int .i64 0), .arr 216 (enf u8v (fun _ => (0 : UInt8))), .arr 6 (enf u8v (fun _ => (0 : UInt8)))], box b_3 43 [.one (.int .i64 x1), .one (.int .i64 y1), .arr 216 (enf u8v y3), .arr 6 (enf u8v (upd (fun _ => (0 : UInt8)) ((w64 (y1 - 1)).toNat) (1 : UInt8)))]])) ((y2, 0)) (()) ⟨rfl, rfl, rfl, rfl, rfl, trivial⟩ [0, 0] rfl ?_ ?_
            · rintro ⟨y3, x5⟩ _
              refine TC.seq ?_
              refine TC.seq ?_
              refine TC.region ?_
              refine TL.move rfl rfl (v := .int .i64 x5) rfl ?_
              refine TL.move rfl rfl (v := SV.v s1) rfl ?_
              refine TL.move rfl rfl (v := .int .i64 x4) rfl ?_
              refine TL.chk fun h4 => ?_
              refine TL.ixs x4 x4.toNat (Rd.old h1) h4 Try.underlying22 Try.sizeOf2 rfl rfl rfl rfl (by omega) ?_
              refine TL.loadE (Rd.old h1) Try.isAgg2 x4.toNat 0 (gt_spec h4) (v := .int .i64 (gt x2 x4)) rfl (by simp only [show Ei.sz = 1 from rfl] <;> omega) rfl rfl rfl ?_
              refine TL.bin .i64 x5 (gt x2 x4) rfl rfl rfl rfl (v := .bool (decide (x5 < (gt x2 x4)))) rfl ?_
              refine TL.done ?_
              refine TC.cond (b := (decide (x5 < (gt x2 x4)))) rfl (fun c9 => ?_) (fun c10 => ?_)
              · refine TC.skip ?_
                refine TC.seq ?_
                refine TC.block (NoEx.loop1 rfl) ?_
                refine TC.seq ?_
                refine TC.region ?_
                refine TL.assign rfl rfl (v := .int .i64 0) rfl ?_
                refine TL.done ?_
                refine TC.loop1 (σ := (Nat → UInt8) × Int) (γ := Unit) (Γ' := (fun p q => match p, q with | (y4, x6), _ => [(1, SV.v s1), (4, bp b_1 0), (6, bp b_3 0), (8, .int .i64 x4), (9, .int .i64 x5), (10, .int .i64 x6)])) (L' := (fun p q => match p, q with | (y4, x6), _ => [box b_1 43 [.one (.int .i64 0), .one (.int .i64 0), .arr 216 (enf u8v (fun _ => (0 : UInt8))), .arr 6 (enf u8v (fun _ => (0 : UInt8)))], box b_3 43 [.one (.int .i64 x1), .one (.int .i64 y1), .arr 216 (enf u8v y4), .arr 6 (enf u8v (upd (fun _ => (0 : UInt8)) ((w64 (y1 - 1)).toNat) (1 : UInt8)))]])) (Γb := (fun p q => match p, q with | (y4, x6), _ => [(1, SV.v s1), (4, bp b_1 0), (6, bp b_3 0), (8, .int .i64 x4), (9, .int .i64 x5), (10, .int .i64 x6)])) (Lb := (fun p q => match p, q with | (y4, x6), _ => [box b_1 43 [.one (.int .i64 0), .one (.int .i64 0), .arr 216 (enf u8v (fun _ => (0 : UInt8))), .arr 6 (enf u8v (fun _ => (0 : UInt8)))], box b_3 43 [.one (.int .i64 x1), .one (.int .i64 y1), .arr 216 (enf u8v y4), .arr 6 (enf u8v (upd (fun _ => (0 : UInt8)) ((w64 (y1 - 1)).toNat) (1 : UInt8)))]])) ((y3, 0)) (()) ⟨rfl, rfl, rfl, rfl, rfl, rfl, trivial⟩ [0, 0] rfl ?_ ?_
                · rintro ⟨y4, x6⟩ _
                  refine TC.seq ?_
                  refine TC.seq ?_
                  refine TC.region ?_
                  refine TL.move rfl rfl (v := .int .i64 x6) rfl ?_
                  refine TL.move rfl rfl (v := SV.v s1) rfl ?_
                  refine TL.len (Rd.old h1) Try.underlying22 rfl rfl rfl ?_
                  refine TL.bin .i64 x6 (x2.length : Int) rfl rfl rfl rfl (v := .bool (decide (x6 < (x2.length : Int)))) rfl ?_
                  refine TL.done ?_
                  refine TC.cond (b := (decide (x6 < (x2.length : Int)))) rfl (fun c11 => ?_) (fun c12 => ?_)
                  · refine TC.skip ?_
                    refine TC.seq ?_
                    refine TC.block (NoEx.loop1 rfl) ?_
                    refine TC.seq ?_
                    refine TC.region ?_
                    refine TL.assign rfl rfl (v := .int .i64 0) rfl ?_
                    refine TL.done ?_
                    refine TC.loop1 (σ := (Nat → UInt8) × Int) (γ := Unit) (Γ' := (fun p q => match p, q with | (y5, x7), _ => [(1, SV.v s1), (4, bp b_1 0), (6, bp b_3 0), (8, .int .i64 x4), (9, .int .i64 x5), (10, .int .i64 x6), (11, .int .i64 x7)])) (L' := (fun p q => match p, q with | (y5, x7), _ => [box b_1 43 [.one (.int .i64 0), .one (.int .i64 0), .arr 216 (enf u8v (fun _ => (0 : UInt8))), .arr 6 (enf u8v (fun _ => (0 : UInt8)))], box b_3 43 [.one (.int .i64 x1), .one (.int .i64 y1), .arr 216 (enf u8v y5), .arr 6 (enf u8v (upd (fun _ => (0 : UInt8)) ((w64 (y1 - 1)).toNat) (1 : UInt8)))]])) (Γb := (fun p q => match p, q with | (y5, x7), _ => [(1, SV.v s1), (4, bp b_1 0), (6, bp b_3 0), (8, .int .i64 x4), (9, .int .i64 x5), (10, .int .i64 x6), (11, .int .i64 x7)])) (Lb := (fun p q => match p, q with | (y5, x7), _ => [box b_1 43 [.one (.int .i64 0), .one (.int .i64 0), .arr 216 (enf u8v (fun _ => (0 : UInt8))), .arr 6 (enf u8v (fun _ => (0 : UInt8)))], box b_3 43 [.one (.int .i64 x1), .one (.int .i64 y1), .arr 216 (enf u8v y5), .arr 6 (enf u8v (upd (fun _ => (0 : UInt8)) ((w64 (y1 - 1)).toNat) (1 : UInt8)))]])) ((y4, 0)) (()) ⟨rfl, rfl, rfl, rfl, rfl, rfl, rfl, trivial⟩ [0, 0] rfl ?_ ?_
                    · rintro ⟨y5, x7⟩ _
                      refine TC.seq ?_
                      refine TC.seq ?_
                      refine TC.region ?_
                      refine TL.move rfl rfl (v := .int .i64 x7) rfl ?_
                      refine TL.move rfl rfl (v := SV.v s1) rfl ?_
                      refine TL.move rfl rfl (v := .int .i64 x6) rfl ?_
                      refine TL.chk fun h5 => ?_
                      refine TL.ixs x6 x6.toNat (Rd.old h1) h5 Try.underlying22 Try.sizeOf2 rfl rfl rfl rfl (by omega) ?_
                      refine TL.loadE (Rd.old h1) Try.isAgg2 x6.toNat 0 (gt_spec h5) (v := .int .i64 (gt x2 x6)) rfl (by simp only [show Ei.sz = 1 from rfl] <;> omega) rfl rfl rfl ?_
                      refine TL.bin .i64 x7 (gt x2 x6) rfl rfl rfl rfl (v := .bool (decide (x7 < (gt x2 x6)))) rfl ?_
                      refine TL.done ?_
                      refine TC.cond (b := (decide (x7 < (gt x2 x6)))) rfl (fun c13 => ?_) (fun c14 => ?_)
                      · refine TC.skip ?_
                        refine TC.seq ?_
                        refine TC.block (NoEx.loop1 rfl) ?_
                        refine TC.seq ?_
                        refine TC.region ?_
                        refine TL.move rfl rfl (v := SV.v s1) rfl ?_
                        refine TL.move rfl rfl (v := .int .i64 x4) rfl ?_
                        refine TL.move rfl rfl (v := .int .i64 x6) rfl ?_
                        refine TL.bin .i64 x4 x6 rfl rfl rfl rfl (v := .int .i64 (w64 (x4 + x6))) rfl ?_
                        refine TL.move rfl rfl (v := .int .i64 x5) rfl ?_
                        refine TL.move rfl rfl (v := .int .i64 x7) rfl ?_
                        refine TL.bin .i64 x5 x7 rfl rfl rfl rfl (v := .int .i64 (w64 (x5 + x7))) rfl ?_
                        refine TL.call (R := G.spec_l09Place.R) Try.call80 rfl rfl rfl (fun w hS => G.spec_l09Place.calls w s1 x2 (w64 (x4 + x6)) (w64 (x5 + x7)) ((Rd.old h1) w hS)) ?_
                        rintro r_3 _ _ ⟨rfl, rfl⟩
                        refine TL.assign rfl rfl (v := .int .i64 r_3) rfl ?_
                        refine TL.done ?_
                        refine TC.seq ?_
                        refine TC.region ?_
                        refine TL.move rfl rfl (v := .int .i64 r_3) rfl ?_
                        refine TL.bin .i64 r_3 0 rfl rfl rfl rfl (v := .bool (decide (r_3 ≥ 0))) rfl ?_
                        refine TL.done ?_
                        refine TC.join1 (σ := (Nat → UInt8)) (γ := Unit) (Γ' := (fun y6 _ => [(1, SV.v s1), (4, bp b_1 0), (6, bp b_3 0), (8, .int .i64 x4), (9, .int .i64 x5), (10, .int .i64 x6), (11, .int .i64 x7)])) (L' := (fun y6 _ => [box b_1 43 [.one (.int .i64 0), .one (.int .i64 0), .arr 216 (enf u8v (fun _ => (0 : UInt8))), .arr 6 (enf u8v (fun _ => (0 : UInt8)))], box b_3 43 [.one (.int .i64 x1), .one (.int .i64 y1), .arr 216 (enf u8v y6), .arr 6 (enf u8v (upd (fun _ => (0 : UInt8)) ((w64 (y1 - 1)).toNat) (1 : UInt8)))]])) ?_ ?_
                        · refine TC.cond (b := (decide (r_3 ≥ 0))) rfl (fun c15 => ?_) (fun c16 => ?_)
                          · refine TC.wk (Γ' := [(1, SV.v s1), (4, bp b_1 0), (6, bp b_3 0), (8, .int .i64 x4), (9, .int .i64 x5), (10, .int .i64 x6), (11, .int .i64 x7), (63, .int .i64 x7), (64, SV.v s1), (65, .int .i64 x6), (66, ep s1 x6.toNat), (67, .int .i64 (gt x2 x6)), (68, .bool (decide (x7 < (gt x2 x6)))), (71, SV.v s1), (72, .int .i64 x4), (73, .int .i64 x6), (74, .int .i64 (w64 (x4 + x6))), (75, .int .i64 x5), (76, .int .i64 x7), (77, .int .i64 (w64 (x5 + x7))), (78, .int .i64 r_3), (12, .int .i64 r_3), (79, .int .i64 r_3), (80, .bool (decide (r_3 ≥ 0)))]) ⟨rfl, rfl, rfl, rfl, rfl, rfl, rfl, rfl, rfl, rfl, rfl, rfl, rfl, rfl, rfl, rfl, rfl, rfl, rfl, rfl, rfl, rfl, rfl, rfl, trivial⟩ ?_
                            refine TC.bindE ?_
                            rintro r_4 hr1
                            refine TC.bindE ?_
                            rintro r_5 hr2
                            refine TC.chk fun h6 => ?_
                            refine TC.chk fun h7 => ?_
                            refine TC.chk fun h8 => ?_
                            refine TC.drawG [(1, SV.v s1), (4, bp b_1 0), (6, bp b_3 0), (8, .int .i64 x4), (9, .int .i64 x5), (10, .int .i64 x6), (11, .int .i64 x7), (63, .int .i64 x7), (64, SV.v s1), (65, .int .i64 x6), (66, ep s1 x6.toNat), (67, .int .i64 (gt x2 x6)), (68, .bool (decide (x7 < (gt x2 x6)))), (71, SV.v s1), (72, .int .i64 x4), (73, .int .i64 x6), (74, .int .i64 (w64 (x4 + x6))), (75, .int .i64 x5), (76, .int .i64 x7), (77, .int .i64 (w64 (x5 + x7))), (78, .int .i64 r_3), (12, .int .i64 r_3), (79, .int .i64 r_3), (80, .bool (decide (r_3 ≥ 0)))] [] ⟨rfl, rfl, rfl, rfl, rfl, rfl, rfl, rfl, rfl, rfl, rfl, rfl, rfl, rfl, rfl, rfl, rfl, rfl, rfl, rfl, rfl, rfl, rfl, rfl, trivial⟩ trivial (fun l_ g1 => [box b_1 43 [.one (.int .i64 0), .one (.int .i64 0), .arr 216 (enf u8v (fun _ => (0 : UInt8))), .arr 6 (enf u8v (fun _ => (0 : UInt8)))], (bif nb l_ 13 then box b_3 43 [.one (.int .i64 x1), .one (.int .i64 y1), .arr 216 (enf u8v (upd y5 (r_4.toNat * 36 + r_5.toNat * 6 + r_3.toNat) (1 : UInt8))), .arr 6 (enf u8v (upd (fun _ => (0 : UInt8)) ((w64 (y1 - 1)).toNat) (1 : UInt8)))] else box b_3 43 [.one (.int .i64 x1), .one (.int .i64 y1), .arr 216 (enf u8v y5), .arr 6 (enf u8v (upd (fun _ => (0 : UInt8)) ((w64 (y1 - 1)).toNat) (1 : UInt8)))])]) (fun g1 => [SV.v s1, .int .i64 x4, .int .i64 x5, .int .i64 r_4, SV.v s1, .int .i64 x6, .int .i64 x7, .int .i64 r_5, .int .i64 r_3, bp b_3 2, bp b_3 (2 + r_4.toNat * 36), bp b_3 (2 + (r_4.toNat * 36 + r_5.toNat * 6)), bp b_3 (2 + (r_4.toNat * 36 + r_5.toNat * 6 + r_3.toNat)), undef]) [[], [], [], [0, 1, 2], [], [], [], [0, 1, 2, 3, 4, 5, 6], [], [], [0, 1, 2, 3, 9], [0, 1, 2, 3, 4, 5, 6, 7, 9, 10], [0, 1, 2, 3, 4, 5, 6, 7, 8, 9, 10, 11], [0, 1, 2, 3, 4, 5, 6, 7, 8, 9, 10, 11, 12]] [[some false, none, none, some false, none, none, none, some false, none, none, some false, some false, some false, some false], [none, some false, none, some false, none, none, none, some false, none, none, some false, some false, some false, some false], [none, none, some false, some false, none, none, none, some false, none, none, some false, some false, some false, some false], [some true, some true, some true, some false, none, none, none, some false, none, none, some false, some false, some false, some false], [none, none, none, none, some false, none, none, some false, none, none, none, some false, some false, some false], [none, none, none, none, none, some false, none, some false, none, none, none, some false, some false, some false], [none, none, none, none, none, none, some false, some false, none, none, none, some false, some false, some false], [some true, some true, some true, some true, some true, some true, some true, some false, none, none, none, some false, some false, some false], [none, none, none, none, none, none, none, none, some false, none, none, none, some false, some false], [none, none, none, none, none, none, none, none, none, some false, some false, some false, some false, some false], [some true, some true, some true, some true, none, none, none, none, none, some true, some false, some false, some false, some false], [some true, some true, some true, some true, some true, some true, some true, some true, none, some true, some true, some false, some false, some false], [some true, some true, some true, some true, some true, some true, some true, some true, some true, some true, some true, some true, some false, some false], [some true, some true, some true, some true, some true, some true, some true, some true, some true, some true, some true, some true, some true, some false]] (by kernel_rfl) (fun _ => rfl) rfl rfl rfl rfl rfl (fun _ _ => ⟨⟨⟨⟨⟨⟨⟨⟨⟨⟨⟨⟨⟨⟨trivial, rfl⟩, rfl⟩, rfl⟩, rfl⟩, rfl⟩, rfl⟩, rfl⟩, rfl⟩, rfl⟩, rfl⟩, rfl⟩, rfl⟩, rfl⟩, rfl⟩) 0 [0, 0] (fun _ => by kernel_rfl) ?_ ?_
                            · refine ⟨rfl, ?_, rfl, ?_, rfl, ?_, rfl, ?_, rfl, ?_, rfl, ?_, rfl, ?_, rfl, ?_, rfl, ?_, rfl, ?_, rfl, ?_, rfl, ?_, rfl, ?_, rfl, ?_, trivial⟩
                              · intro b1_ b2_ b4_ b5_ b6_ b8_ b9_ g1
                                refine TL.move rfl rfl (v := SV.v s1) rfl ?_
                                refine TL.done ?_
                                exact TC.nrm () [] ⟨rfl, trivial⟩ [0, 0] (by kernel_rfl)
                              · intro b0_ b2_ b4_ b5_ b6_ b8_ b9_ g1
                                refine TL.move rfl rfl (v := .int .i64 x4) rfl ?_
                                refine TL.done ?_
                                exact TC.nrm () [] ⟨rfl, trivial⟩ [0, 0] (by kernel_rfl)
                              · intro b0_ b1_ b4_ b5_ b6_ b8_ b9_ g1
                                refine TL.move rfl rfl (v := .int .i64 x5) rfl ?_
                                refine TL.done ?_
                                exact TC.nrm () [] ⟨rfl, trivial⟩ [0, 0] (by kernel_rfl)
                              · intro b4_ b5_ b6_ b8_ b9_ g1
                                refine TL.asL [box b_1 43 [.one (.int .i64 0), .one (.int .i64 0), .arr 216 (enf u8v (fun _ => (0 : UInt8))), .arr 6 (enf u8v (fun _ => (0 : UInt8)))], box b_3 43 [.one (.int .i64 x1), .one (.int .i64 y1), .arr 216 (enf u8v y5), .arr 6 (enf u8v (upd (fun _ => (0 : UInt8)) ((w64 (y1 - 1)).toNat) (1 : UInt8)))]] (by kernel_rfl) ?_
                                refine TL.callH (R := G.spec_l09Place.R) hr1 Try.call80 rfl rfl rfl (fun w hS => G.spec_l09Place.calls w s1 x2 x4 x5 ((Rd.old h1) w hS)) ?_
                                rintro _ _ ⟨rfl, rfl⟩
                                refine TL.done ?_
                                exact TC.nrm () [] ⟨rfl, trivial⟩ [0, 0] (by kernel_rfl)
                              · intro b0_ b1_ b2_ b3_ b5_ b6_ b8_ b9_ b10_ g1
                                refine TL.move rfl rfl (v := SV.v s1) rfl ?_
                                refine TL.done ?_
                                exact TC.nrm () [] ⟨rfl, trivial⟩ [0, 0] (by kernel_rfl)
                              · intro b0_ b1_ b2_ b3_ b4_ b6_ b8_ b9_ b10_ g1
                                refine TL.move rfl rfl (v := .int .i64 x6) rfl ?_
                                refine TL.done ?_
                                exact TC.nrm () [] ⟨rfl, trivial⟩ [0, 0] (by kernel_rfl)
                              · intro b0_ b1_ b2_ b3_ b4_ b5_ b8_ b9_ b10_ g1
                                refine TL.move rfl rfl (v := .int .i64 x7) rfl ?_
                                refine TL.done ?_
                                exact TC.nrm () [] ⟨rfl, trivial⟩ [0, 0] (by kernel_rfl)
                              · intro b8_ b9_ b10_ g1
                                refine TL.asL [box b_1 43 [.one (.int .i64 0), .one (.int .i64 0), .arr 216 (enf u8v (fun _ => (0 : UInt8))), .arr 6 (enf u8v (fun _ => (0 : UInt8)))], box b_3 43 [.one (.int .i64 x1), .one (.int .i64 y1), .arr 216 (enf u8v y5), .arr 6 (enf u8v (upd (fun _ => (0 : UInt8)) ((w64 (y1 - 1)).toNat) (1 : UInt8)))]] (by kernel_rfl) ?_
                                refine TL.callH (R := G.spec_l09Place.R) hr2 Try.call80 rfl rfl rfl (fun w hS => G.spec_l09Place.calls w s1 x2 x6 x7 ((Rd.old h1) w hS)) ?_
                                rintro _ _ ⟨rfl, rfl⟩
                                refine TL.done ?_
                                exact TC.nrm () [] ⟨rfl, trivial⟩ [0, 0] (by kernel_rfl)
                              · intro b0_ b1_ b2_ b3_ b4_ b5_ b6_ b7_ b9_ b10_ b11_ g1
                                refine TL.move rfl rfl (v := .int .i64 r_3) rfl ?_
                                refine TL.done ?_
                                exact TC.nrm () [] ⟨rfl, trivial⟩ [0, 0] (by kernel_rfl)
                              · intro b0_ b1_ b2_ b3_ b4_ b5_ b6_ b7_ b8_ g1
                                refine TL.asL [box b_1 43 [.one (.int .i64 0), .one (.int .i64 0), .arr 216 (enf u8v (fun _ => (0 : UInt8))), .arr 6 (enf u8v (fun _ => (0 : UInt8)))], box b_3 43 [.one (.int .i64 x1), .one (.int .i64 y1), .arr 216 (enf u8v y5), .arr 6 (enf u8v (upd (fun _ => (0 : UInt8)) ((w64 (y1 - 1)).toNat) (1 : UInt8)))]] (by kernel_rfl) ?_
                                refine TL.fa Try.underlying43 rfl Try.sizeOf40 rfl 2 rfl rfl rfl rfl ?_
                                refine TL.done ?_
                                exact TC.nrm () [] ⟨rfl, trivial⟩ [0, 0] (by kernel_rfl)
                              · intro b4_ b5_ b6_ b7_ b8_ g1
                                refine TL.asL [box b_1 43 [.one (.int .i64 0), .one (.int .i64 0), .arr 216 (enf u8v (fun _ => (0 : UInt8))), .arr 6 (enf u8v (fun _ => (0 : UInt8)))], box b_3 43 [.one (.int .i64 x1), .one (.int .i64 y1), .arr 216 (enf u8v y5), .arr 6 (enf u8v (upd (fun _ => (0 : UInt8)) ((w64 (y1 - 1)).toNat) (1 : UInt8)))]] (by kernel_rfl) ?_
                                refine TL.ixa r_4 (2 + r_4.toNat * 36) h6 Try.underlying40 Try.sizeOf39 rfl rfl rfl rfl (by omega) ?_
                                refine TL.done ?_
                                exact TC.nrm () [] ⟨rfl, trivial⟩ [0, 0] (by kernel_rfl)
                              · intro b8_ g1
                                refine TL.asL [box b_1 43 [.one (.int .i64 0), .one (.int .i64 0), .arr 216 (enf u8v (fun _ => (0 : UInt8))), .arr 6 (enf u8v (fun _ => (0 : UInt8)))], box b_3 43 [.one (.int .i64 x1), .one (.int .i64 y1), .arr 216 (enf u8v y5), .arr 6 (enf u8v (upd (fun _ => (0 : UInt8)) ((w64 (y1 - 1)).toNat) (1 : UInt8)))]] (by kernel_rfl) ?_
                                refine TL.ixa r_5 (2 + (r_4.toNat * 36 + r_5.toNat * 6)) h7 Try.underlying39 Try.sizeOf38 rfl rfl rfl rfl (by omega) ?_
                                refine TL.done ?_
                                exact TC.nrm () [] ⟨rfl, trivial⟩ [0, 0] (by kernel_rfl)
                              · intro g1
                                refine TL.asL [box b_1 43 [.one (.int .i64 0), .one (.int .i64 0), .arr 216 (enf u8v (fun _ => (0 : UInt8))), .arr 6 (enf u8v (fun _ => (0 : UInt8)))], box b_3 43 [.one (.int .i64 x1), .one (.int .i64 y1), .arr 216 (enf u8v y5), .arr 6 (enf u8v (upd (fun _ => (0 : UInt8)) ((w64 (y1 - 1)).toNat) (1 : UInt8)))]] (by kernel_rfl) ?_
                                refine TL.ixa r_3 (2 + (r_4.toNat * 36 + r_5.toNat * 6 + r_3.toNat)) h8 Try.underlying38 Try.sizeOf5 rfl rfl rfl rfl (by omega) ?_
                                refine TL.done ?_
                                exact TC.nrm () [] ⟨rfl, trivial⟩ [0, 0] (by kernel_rfl)
                              · intro g1
                                refine TL.asL [box b_1 43 [.one (.int .i64 0), .one (.int .i64 0), .arr 216 (enf u8v (fun _ => (0 : UInt8))), .arr 6 (enf u8v (fun _ => (0 : UInt8)))], box b_3 43 [.one (.int .i64 x1), .one (.int .i64 y1), .arr 216 (enf u8v y5), .arr 6 (enf u8v (upd (fun _ => (0 : UInt8)) ((w64 (y1 - 1)).toNat) (1 : UInt8)))]] (by kernel_rfl) ?_
                                refine TL.stA (e := u8v) (z := (1 : UInt8)) 1 2 (r_4.toNat * 36 + r_5.toNat * 6 + r_3.toNat) rfl Try.sizeOf5 rfl (by omega) (s := 2) rfl (by omega) rfl rfl rfl rfl rfl ?_
                                refine TL.done ?_
                                exact TC.nrm () [] trivial [0, 0] (by kernel_rfl)
                            · intro g1
                              refine TC.asL [box b_1 43 [.one (.int .i64 0), .one (.int .i64 0), .arr 216 (enf u8v (fun _ => (0 : UInt8))), .arr 6 (enf u8v (fun _ => (0 : UInt8)))], box b_3 43 [.one (.int .i64 x1), .one (.int .i64 y1), .arr 216 (enf u8v (upd y5 (r_4.toNat * 36 + r_5.toNat * 6 + r_3.toNat) (1 : UInt8))), .arr 6 (enf u8v (upd (fun _ => (0 : UInt8)) ((w64 (y1 - 1)).toNat) (1 : UInt8)))]] (by kernel_rfl) ?_
                              exact TC.nrm ((upd y5 (r_4.toNat * 36 + r_5.toNat * 6 + r_3.toNat) (1 : UInt8))) (()) ⟨rfl, rfl, rfl, rfl, rfl, rfl, rfl, trivial⟩ [0, 0] rfl
                          · refine TC.skip ?_
                            exact TC.nrm (y5) (()) ⟨rfl, rfl, rfl, rfl, rfl, rfl, rfl, trivial⟩ [0, 0] rfl
                        · rintro y6 _
                          refine TC.region ?_
                          refine TL.move rfl rfl (v := .int .i64 x7) rfl ?_
                          refine TL.bin .i64 x7 1 rfl rfl rfl rfl (v := .int .i64 (w64 (x7 + 1))) rfl ?_
                          refine TL.assign rfl rfl (v := .int .i64 (w64 (x7 + 1))) rfl ?_
                          refine TL.done ?_
                          exact TC.next1 ((y6, (w64 (x7 + 1)))) (()) ⟨rfl, rfl, rfl, rfl, rfl, rfl, rfl, trivial⟩ [0, 0] rfl
                      · exact TC.brk1 ((y5, x7)) (()) ⟨rfl, rfl, rfl, rfl, rfl, rfl, rfl, trivial⟩ [0, 0] rfl
                    · rintro ⟨y5, x7⟩ _
                      refine TC.region ?_
                      refine TL.move rfl rfl (v := .int .i64 x6) rfl ?_
                      refine TL.bin .i64 x6 1 rfl rfl rfl rfl (v := .int .i64 (w64 (x6 + 1))) rfl ?_
                      refine TL.assign rfl rfl (v := .int .i64 (w64 (x6 + 1))) rfl ?_
                      refine TL.done ?_
                      exact TC.next1 ((y5, (w64 (x6 + 1)))) (()) ⟨rfl, rfl, rfl, rfl, rfl, rfl, trivial⟩ [0, 0] rfl
                  · exact TC.brk1 ((y4, x6)) (()) ⟨rfl, rfl, rfl, rfl, rfl, rfl, trivial⟩ [0, 0] rfl
                · rintro ⟨y4, x6⟩ _
                  refine TC.region ?_
                  refine TL.move rfl rfl (v := .int .i64 x5) rfl ?_
                  refine TL.bin .i64 x5 1 rfl rfl rfl rfl (v := .int .i64 (w64 (x5 + 1))) rfl ?_
                  refine TL.assign rfl rfl (v := .int .i64 (w64 (x5 + 1))) rfl ?_
                  refine TL.done ?_
                  exact TC.next1 ((y4, (w64 (x5 + 1)))) (()) ⟨rfl, rfl, rfl, rfl, rfl, trivial⟩ [0, 0] rfl
              · exact TC.brk1 ((y3, x5)) (()) ⟨rfl, rfl, rfl, rfl, rfl, trivial⟩ [0, 0] rfl
            · rintro ⟨y3, x5⟩ _
              refine TC.region ?_
              refine TL.move rfl rfl (v := .int .i64 x4) rfl ?_
              refine TL.bin .i64 x4 1 rfl rfl rfl rfl (v := .int .i64 (w64 (x4 + 1))) rfl ?_
              refine TL.assign rfl rfl (v := .int .i64 (w64 (x4 + 1))) rfl ?_
              refine TL.done ?_
              exact TC.next1 ((y3, (w64 (x4 + 1)))) (()) ⟨rfl, rfl, rfl, rfl, trivial⟩ [0, 0] rfl
          · exact TC.brk1 ((y2, x4)) (()) ⟨rfl, rfl, rfl, rfl, trivial⟩ [0, 0] rfl
        · rintro ⟨y2, x4⟩ _
          refine TC.seq ?_
          refine TC.region ?_
          refine TL.loadM 0 4 (Src.box 1 rfl) Try.isAgg43 Try.sizeOf43 (mid := [.one (.int .i64 x1), .one (.int .i64 y1), .arr 216 (enf u8v y2), .arr 6 (enf u8v (upd (fun _ => (0 : UInt8)) ((w64 (y1 - 1)).toNat) (1 : UInt8)))]) rfl rfl rfl rfl rfl rfl ?_
          refine TL.stM (news := [.one (.int .i64 x1), .one (.int .i64 y1), .arr 216 (enf u8v y2), .arr 6 (enf u8v (upd (fun _ => (0 : UInt8)) ((w64 (y1 - 1)).toNat) (1 : UInt8)))]) 0 0 4 rfl Try.sizeOf43 (ones_one rfl (ones_one rfl (ones_arr (fun _ => rfl) (ones_arr (fun _ => rfl) ones_nil)))) rfl rfl rfl rfl rfl rfl ?_
          refine TL.assign rfl rfl (v := .int .i64 0) rfl ?_
          refine TL.done ?_
          exact TC.retF (Fin.body (fin2 (.inr rfl) rfl (.cellN rfl (Src.box 0 rfl) Try.isAgg43 Try.sizeOf43 rfl) (.tmp rfl) [] rfl ⟨rfl, rfl⟩))

end Go.Proofs.Ytiiljfpbcanphaa.G

/- impl.in, as a pure function. -/
set_option linter.unusedVariables false
namespace Go.Proofs.Ytiiljfpbcanphaa.G
open Go Go.Sx Go.Proofs

def impl_in.f (n_1 : Int) (low1 : Int) (high1 : Int) : Option Bool := some ((decide (n_1 ≥ low1)) && (decide (n_1 ≤ high1)))

def impl_in.R (r : Bool) (v : Value) (L : List Asn) : Prop := v = .bool r ∧ L = []

set_option maxRecDepth 100000 in
set_option maxHeartbeats 4000000 in
theorem impl_in.calls (w : World) (n_1 : Int) (low1 : Int) (high1 : Int) :
    ∀ r, impl_in.f n_1 low1 high1 = some r → Calls Try.prog 72 #[.int .i64 n_1, .int .i64 low1, .int .i64 high1] w (Ret w (impl_in.R r)) := by

  refine calls_T (n := 15) (Γ := [(0, .int .i64 n_1), (1, .int .i64 low1), (2, .int .i64 high1)]) (R := impl_in.R) Try.func72 rfl rfl (Nat.le_of_ble_eq_true rfl) ⟨rfl, rfl, rfl, trivial⟩ ?_
  unfold impl_in.f
  refine TC.seq ?_
  refine TC.region ?_
  refine TL.assign rfl rfl (v := .bool false) rfl ?_
  refine TL.done ?_
  refine TC.seq ?_
  refine TC.region ?_
  refine TL.move rfl rfl (v := .int .i64 n_1) rfl ?_
  refine TL.move rfl rfl (v := .int .i64 low1) rfl ?_
  refine TL.bin .i64 n_1 low1 rfl rfl rfl rfl (v := .bool (decide (n_1 ≥ low1))) rfl ?_
  refine TL.move rfl rfl (v := .bool (decide (n_1 ≥ low1))) rfl ?_
  refine TL.cutU 4 [(14, .bool ((decide (n_1 ≥ low1)) && (decide (n_1 ≤ high1)))), (0, .int .i64 n_1), (1, .int .i64 low1), (2, .int .i64 high1), (6, .bool false), (7, .int .i64 n_1), (8, .int .i64 low1), (9, .bool (decide (n_1 ≥ low1))), (10, .bool (decide (n_1 ≥ low1)))] [] ?_ ?_
  · refine TL.cases (t := 10) (b := (decide (n_1 ≥ low1))) rfl (fun c1 => ?_) (fun c2 => ?_)
    · refine TL.move rfl rfl (v := .int .i64 n_1) rfl ?_
      refine TL.move rfl rfl (v := .int .i64 high1) rfl ?_
      refine TL.bin .i64 n_1 high1 rfl rfl rfl rfl (v := .bool (decide (n_1 ≤ high1))) rfl ?_
      refine TL.pick rfl rfl (b := true) rfl (r := .bool (decide (n_1 ≤ high1))) rfl ?_
      refine TL.done ?_
      exact TC.nrm () () ⟨(by rw [c1]; rfl), rfl, rfl, rfl, rfl, rfl, rfl, rfl, (by rw [c1]; rfl), trivial⟩ [] (by kernel_rfl)
    · refine TL.skip rfl rfl (by decide) ?_
      refine TL.skip rfl rfl (by decide) ?_
      refine TL.skip rfl rfl (by decide) ?_
      refine TL.pick rfl rfl (b := false) rfl (r := .bool false) rfl ?_
      refine TL.done ?_
      exact TC.nrm () () ⟨(by rw [c2]; rfl), rfl, rfl, rfl, rfl, rfl, rfl, rfl, (by rw [c2]; rfl), trivial⟩ [] (by kernel_rfl)
  · refine TL.assign rfl rfl (v := .bool ((decide (n_1 ≥ low1)) && (decide (n_1 ≤ high1)))) rfl ?_
    refine TL.done ?_
    exact TC.retF (Fin.body (fin1 (.inr rfl) rfl (.tmp rfl) [] rfl ⟨rfl, rfl⟩))

end Go.Proofs.Ytiiljfpbcanphaa.G
