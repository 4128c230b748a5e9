/- Functions of the program, as pure functions. -/
import Derived.Test.YtgljkechjkllgaaSy2
import Derived.Test.YtgljkechjkllgaaProg
/- spec.l01In, as a pure function. -/
set_option linter.unusedVariables false
namespace Go.Proofs.Ytgljkechjkllgaa.G
open Go Go.Sx Go.Proofs

def spec_l01In.f (n_1 : Int) (low1 : Int) (high1 : Int) : Option Bool := some ((decide (n_1 ≥ low1)) && (decide (n_1 ≤ high1)))

def spec_l01In.R (r : Bool) (v : Value) (L : List Asn) : Prop := v = .bool r ∧ L = []

set_option maxRecDepth 100000 in
set_option maxHeartbeats 4000000 in
theorem spec_l01In.calls (w : World) (n_1 : Int) (low1 : Int) (high1 : Int) :
    ∀ r, spec_l01In.f n_1 low1 high1 = some r → Calls Try.prog 75 #[.int .i64 n_1, .int .i64 low1, .int .i64 high1] w (Ret w (spec_l01In.R r)) := by

  refine calls_T (n := 15) (Γ := [(0, .int .i64 n_1), (1, .int .i64 low1), (2, .int .i64 high1)]) (R := spec_l01In.R) Try.func75 rfl rfl (Nat.le_of_ble_eq_true rfl) ⟨rfl, rfl, rfl, trivial⟩ ?_
  unfold spec_l01In.f
  refine TC.seq ?_
  refine TC.region ?_
  refine TL.assign rfl rfl (v := .bool false) rfl ?_
  refine TL.done ?_
  refine TC.seq ?_
  refine TC.region ?_
  refine TL.move rfl rfl (v := .int .i64 n_1) rfl ?_
  refine TL.move rfl rfl (v := .int .i64 low1) rfl ?_
  refine TL.bin .i64 n_1 low1 rfl rfl rfl rfl (v := .bool (decide (n_1 ≥ low1))) rfl ?_
  refine TL.move rfl rfl (v := .bool (decide (n_1 ≥ low1))) rfl ?_
  refine TL.cutU 4 [(14, .bool ((decide (n_1 ≥ low1)) && (decide (n_1 ≤ high1)))), (0, .int .i64 n_1), (1, .int .i64 low1), (2, .int .i64 high1), (6, .bool false), (7, .int .i64 n_1), (8, .int .i64 low1), (9, .bool (decide (n_1 ≥ low1))), (10, .bool (decide (n_1 ≥ low1)))] [] ?_ ?_
  · refine TL.cases (t := 10) (b := (decide (n_1 ≥ low1))) rfl (fun c1 => ?_) (fun c2 => ?_)
    · refine TL.move rfl rfl (v := .int .i64 n_1) rfl ?_
      refine TL.move rfl rfl (v := .int .i64 high1) rfl ?_
      refine TL.bin .i64 n_1 high1 rfl rfl rfl rfl (v := .bool (decide (n_1 ≤ high1))) rfl ?_
      refine TL.pick rfl rfl (b := true) rfl (r := .bool (decide (n_1 ≤ high1))) rfl ?_
      refine TL.done ?_
      exact TC.nrm () () ⟨(by rw [c1]; rfl), rfl, rfl, rfl, rfl, rfl, rfl, rfl, (by rw [c1]; rfl), trivial⟩ [] rfl
    · refine TL.skip rfl rfl (by decide) ?_
      refine TL.skip rfl rfl (by decide) ?_
      refine TL.skip rfl rfl (by decide) ?_
      refine TL.pick rfl rfl (b := false) rfl (r := .bool false) rfl ?_
      refine TL.done ?_
      exact TC.nrm () () ⟨(by rw [c2]; rfl), rfl, rfl, rfl, rfl, rfl, rfl, rfl, (by rw [c2]; rfl), trivial⟩ [] rfl
  · refine TL.assign rfl rfl (v := .bool ((decide (n_1 ≥ low1)) && (decide (n_1 ≤ high1)))) rfl ?_
    refine TL.done ?_
    exact TC.retF (Fin.body (fin1 (.inr rfl) rfl (.tmp rfl) [] rfl ⟨rfl, rfl⟩))

end Go.Proofs.Ytgljkechjkllgaa.G

/- spec.l01Prime, as a pure function. -/
set_option linter.unusedVariables false
namespace Go.Proofs.Ytgljkechjkllgaa.G
open Go Go.Sx Go.Proofs

def spec_l01Prime.f (p1 : Int) : Option Bool := some ((((((p1 == 2) || (p1 == 3)) || (p1 == 5)) || (p1 == 7)) || (p1 == 11)) || (p1 == 13))

def spec_l01Prime.R (r : Bool) (v : Value) (L : List Asn) : Prop := v = .bool r ∧ L = []

set_option maxRecDepth 100000 in
set_option maxHeartbeats 4000000 in
theorem spec_l01Prime.calls (w : World) (p1 : Int) :
    ∀ r, spec_l01Prime.f p1 = some r → Calls Try.prog 99 #[.int .i64 p1] w (Ret w (spec_l01Prime.R r)) := by

  refine calls_T (n := 25) (Γ := [(0, .int .i64 p1)]) (R := spec_l01Prime.R) Try.func99 rfl rfl (Nat.le_of_ble_eq_true rfl) ⟨rfl, trivial⟩ ?_
  unfold spec_l01Prime.f
  refine TC.seq ?_
  refine TC.region ?_
  refine TL.assign rfl rfl (v := .bool false) rfl ?_
  refine TL.done ?_
  refine TC.seq ?_
  refine TC.region ?_
  refine TL.move rfl rfl (v := .int .i64 p1) rfl ?_
  refine TL.bin .i64 p1 2 rfl rfl rfl rfl (v := .bool (p1 == 2)) rfl ?_
  refine TL.move rfl rfl (v := .bool (p1 == 2)) rfl ?_
  refine TL.cutU 3 [(8, .bool ((p1 == 2) || (p1 == 3))), (0, .int .i64 p1), (2, .bool false), (3, .int .i64 p1), (4, .bool (p1 == 2)), (5, .bool (p1 == 2))] [] ?_ ?_
  · refine TL.cases (t := 5) (b := (p1 == 2)) rfl (fun c1 => ?_) (fun c2 => ?_)
    · refine TL.skip rfl rfl (by decide) ?_
      refine TL.skip rfl rfl (by decide) ?_
      refine TL.pick rfl rfl (b := true) rfl (r := .bool true) rfl ?_
      refine TL.done ?_
      exact TC.nrm () () ⟨(by rw [c1]; rfl), rfl, rfl, rfl, rfl, (by rw [c1]; rfl), trivial⟩ [] rfl
    · refine TL.move rfl rfl (v := .int .i64 p1) rfl ?_
      refine TL.bin .i64 p1 3 rfl rfl rfl rfl (v := .bool (p1 == 3)) rfl ?_
      refine TL.pick rfl rfl (b := false) rfl (r := .bool (p1 == 3)) rfl ?_
      refine TL.done ?_
      exact TC.nrm () () ⟨(by rw [c2]; rfl), rfl, rfl, rfl, rfl, (by rw [c2]; rfl), trivial⟩ [] rfl
  · refine TL.move rfl rfl (v := .bool ((p1 == 2) || (p1 == 3))) rfl ?_
    refine TL.cutU 3 [(12, .bool (((p1 == 2) || (p1 == 3)) || (p1 == 5))), (0, .int .i64 p1), (2, .bool false), (3, .int .i64 p1), (4, .bool (p1 == 2)), (5, .bool (p1 == 2)), (8, .bool ((p1 == 2) || (p1 == 3))), (9, .bool ((p1 == 2) || (p1 == 3)))] [] ?_ ?_
    · refine TL.cases (t := 9) (b := ((p1 == 2) || (p1 == 3))) rfl (fun c3 => ?_) (fun c4 => ?_)
      · refine TL.skip rfl rfl (by decide) ?_
        refine TL.skip rfl rfl (by decide) ?_
        refine TL.pick rfl rfl (b := true) rfl (r := .bool true) rfl ?_
        refine TL.done ?_
        exact TC.nrm () () ⟨(by rw [c3]; rfl), rfl, rfl, rfl, rfl, rfl, rfl, (by rw [c3]; rfl), trivial⟩ [] rfl
      · refine TL.move rfl rfl (v := .int .i64 p1) rfl ?_
        refine TL.bin .i64 p1 5 rfl rfl rfl rfl (v := .bool (p1 == 5)) rfl ?_
        refine TL.pick rfl rfl (b := false) rfl (r := .bool (p1 == 5)) rfl ?_
        refine TL.done ?_
        exact TC.nrm () () ⟨(by rw [c4]; rfl), rfl, rfl, rfl, rfl, rfl, rfl, (by rw [c4]; rfl), trivial⟩ [] rfl
    · refine TL.move rfl rfl (v := .bool (((p1 == 2) || (p1 == 3)) || (p1 == 5))) rfl ?_
      refine TL.cutU 3 [(16, .bool ((((p1 == 2) || (p1 == 3)) || (p1 == 5)) || (p1 == 7))), (0, .int .i64 p1), (2, .bool false), (3, .int .i64 p1), (4, .bool (p1 == 2)), (5, .bool (p1 == 2)), (8, .bool ((p1 == 2) || (p1 == 3))), (9, .bool ((p1 == 2) || (p1 == 3))), (12, .bool (((p1 == 2) || (p1 == 3)) || (p1 == 5))), (13, .bool (((p1 == 2) || (p1 == 3)) || (p1 == 5)))] [] ?_ ?_
      · refine TL.cases (t := 13) (b := (((p1 == 2) || (p1 == 3)) || (p1 == 5))) rfl (fun c5 => ?_) (fun c6 => ?_)
        · refine TL.skip rfl rfl (by decide) ?_
          refine TL.skip rfl rfl (by decide) ?_
          refine TL.pick rfl rfl (b := true) rfl (r := .bool true) rfl ?_
          refine TL.done ?_
          exact TC.nrm () () ⟨(by rw [c5]; rfl), rfl, rfl, rfl, rfl, rfl, rfl, rfl, rfl, (by rw [c5]; rfl), trivial⟩ [] rfl
        · refine TL.move rfl rfl (v := .int .i64 p1) rfl ?_
          refine TL.bin .i64 p1 7 rfl rfl rfl rfl (v := .bool (p1 == 7)) rfl ?_
          refine TL.pick rfl rfl (b := false) rfl (r := .bool (p1 == 7)) rfl ?_
          refine TL.done ?_
          exact TC.nrm () () ⟨(by rw [c6]; rfl), rfl, rfl, rfl, rfl, rfl, rfl, rfl, rfl, (by rw [c6]; rfl), trivial⟩ [] rfl
      · refine TL.move rfl rfl (v := .bool ((((p1 == 2) || (p1 == 3)) || (p1 == 5)) || (p1 == 7))) rfl ?_
        refine TL.cutU 3 [(20, .bool (((((p1 == 2) || (p1 == 3)) || (p1 == 5)) || (p1 == 7)) || (p1 == 11))), (0, .int .i64 p1), (2, .bool false), (3, .int .i64 p1), (4, .bool (p1 == 2)), (5, .bool (p1 == 2)), (8, .bool ((p1 == 2) || (p1 == 3))), (9, .bool ((p1 == 2) || (p1 == 3))), (12, .bool (((p1 == 2) || (p1 == 3)) || (p1 == 5))), (13, .bool (((p1 == 2) || (p1 == 3)) || (p1 == 5))), (16, .bool ((((p1 == 2) || (p1 == 3)) || (p1 == 5)) || (p1 == 7))), (17, .bool ((((p1 == 2) || (p1 == 3)) || (p1 == 5)) || (p1 == 7)))] [] ?_ ?_
        · refine TL.cases (t := 17) (b := ((((p1 == 2) || (p1 == 3)) || (p1 == 5)) || (p1 == 7))) rfl (fun c7 => ?_) (fun c8 => ?_)
          · refine TL.skip rfl rfl (by decide) ?_
            refine TL.skip rfl rfl (by decide) ?_
            refine TL.pick rfl rfl (b := true) rfl (r := .bool true) rfl ?_
            refine TL.done ?_
            exact TC.nrm () () ⟨(by rw [c7]; rfl), rfl, rfl, rfl, rfl, rfl, rfl, rfl, rfl, rfl, rfl, (by rw [c7]; rfl), trivial⟩ [] rfl
          · refine TL.move rfl rfl (v := .int .i64 p1) rfl ?_
            refine TL.bin .i64 p1 11 rfl rfl rfl rfl (v := .bool (p1 == 11)) rfl ?_
            refine TL.pick rfl rfl (b := false) rfl (r := .bool (p1 == 11)) rfl ?_
            refine TL.done ?_
            exact TC.nrm () () ⟨(by rw [c8]; rfl), rfl, rfl, rfl, rfl, rfl, rfl, rfl, rfl, rfl, rfl, (by rw [c8]; rfl), trivial⟩ [] rfl
        · refine TL.move rfl rfl (v := .bool (((((p1 == 2) || (p1 == 3)) || (p1 == 5)) || (p1 == 7)) || (p1 == 11))) rfl ?_
          refine TL.cutU 3 [(24, .bool ((((((p1 == 2) || (p1 == 3)) || (p1 == 5)) || (p1 == 7)) || (p1 == 11)) || (p1 == 13))), (0, .int .i64 p1), (2, .bool false), (3, .int .i64 p1), (4, .bool (p1 == 2)), (5, .bool (p1 == 2)), (8, .bool ((p1 == 2) || (p1 == 3))), (9, .bool ((p1 == 2) || (p1 == 3))), (12, .bool (((p1 == 2) || (p1 == 3)) || (p1 == 5))), (13, .bool (((p1 == 2) || (p1 == 3)) || (p1 == 5))), (16, .bool ((((p1 == 2) || (p1 == 3)) || (p1 == 5)) || (p1 == 7))), (17, .bool ((((p1 == 2) || (p1 == 3)) || (p1 == 5)) || (p1 == 7))), (20, .bool (((((p1 == 2) || (p1 == 3)) || (p1 == 5)) || (p1 == 7)) || (p1 == 11))), (21, .bool (((((p1 == 2) || (p1 == 3)) || (p1 == 5)) || (p1 == 7)) || (p1 == 11)))] [] ?_ ?_
          · refine TL.cases (t := 21) (b := (((((p1 == 2) || (p1 == 3)) || (p1 == 5)) || (p1 == 7)) || (p1 == 11))) rfl (fun c9 => ?_) (fun c10 => ?_)
            · refine TL.skip rfl rfl (by decide) ?_
              refine TL.skip rfl rfl (by decide) ?_
              refine TL.pick rfl rfl (b := true) rfl (r := .bool true) rfl ?_
              refine TL.done ?_
              exact TC.nrm () () ⟨(by rw [c9]; rfl), rfl, rfl, rfl, rfl, rfl, rfl, rfl, rfl, rfl, rfl, rfl, rfl, (by rw [c9]; rfl), trivial⟩ [] rfl
            · refine TL.move rfl rfl (v := .int .i64 p1) rfl ?_
              refine TL.bin .i64 p1 13 rfl rfl rfl rfl (v := .bool (p1 == 13)) rfl ?_
              refine TL.pick rfl rfl (b := false) rfl (r := .bool (p1 == 13)) rfl ?_
              refine TL.done ?_
              exact TC.nrm () () ⟨(by rw [c10]; rfl), rfl, rfl, rfl, rfl, rfl, rfl, rfl, rfl, rfl, rfl, rfl, rfl, (by rw [c10]; rfl), trivial⟩ [] rfl
          · refine TL.assign rfl rfl (v := .bool ((((((p1 == 2) || (p1 == 3)) || (p1 == 5)) || (p1 == 7)) || (p1 == 11)) || (p1 == 13))) rfl ?_
            refine TL.done ?_
            exact TC.retF (Fin.body (fin1 (.inr rfl) rfl (.tmp rfl) [] rfl ⟨rfl, rfl⟩))

end Go.Proofs.Ytgljkechjkllgaa.G

/- spec.l09Poly, as a pure function. -/
set_option linter.unusedVariables false
namespace Go.Proofs.Ytgljkechjkllgaa.G
open Go Go.Sx Go.Proofs

def spec_l09Poly.b0 (list_1 : List Int) (p1 : Int) : Int → Option (LR Int Int) := fun i1 => (bif (decide (i1 < (list_1.length : Int))) then chk i1 list_1.length ((G.spec_l01In.f (gt list_1 i1) 0 (w64 (p1 - 1))).bind (fun r_3 => (bif (!r_3) then some (.ret (2)) else some (.next (w64 (i1 + 1)))))) else some (.brk i1))

def spec_l09Poly.f (p1 : Int) (list_1 : List Int) : Option Int := (G.spec_l01Prime.f p1).bind (fun r_1 => (bif (!r_1) then some true else (G.spec_l01In.f (list_1.length : Int) 1 6).bind (fun r_2 => some (!r_2))).bind (fun b_1 => (bif b_1 then some 2 else (loop (spec_l09Poly.b0 list_1 p1) 0).bind (ln (fun i1 => some 0)))))

def spec_l09Poly.R (r : Int) (v : Value) (L : List Asn) : Prop := v = .int .i64 r ∧ L = []

set_option maxRecDepth 100000 in
set_option maxHeartbeats 4000000 in
theorem spec_l09Poly.calls (w : World) (p1 : Int) (s1 : SV) (list_1 : List Int) (h1 : Reads Ei (hp w) s1 list_1) :
    ∀ r, spec_l09Poly.f p1 list_1 = some r → Calls Try.prog 68 #[.int .i64 p1, SV.v s1] w (Ret w (spec_l09Poly.R r)) := by

  refine calls_T (n := 29) (Γ := [(0, .int .i64 p1), (1, SV.v s1)]) (R := spec_l09Poly.R) Try.func68 rfl rfl (Nat.le_of_ble_eq_true rfl) ⟨rfl, rfl, trivial⟩ ?_
  unfold spec_l09Poly.f
  refine TC.seq ?_
  refine TC.region ?_
  refine TL.assign rfl rfl (v := .int .i64 0) rfl ?_
  refine TL.done ?_
  refine TC.seq ?_
  refine TC.seq ?_
  refine TC.region ?_
  refine TL.move rfl rfl (v := .int .i64 p1) rfl ?_
  refine TL.call (R := G.spec_l01Prime.R) Try.call99 rfl rfl rfl (fun w hS => G.spec_l01Prime.calls w p1) ?_
  rintro r_1 _ _ ⟨rfl, rfl⟩
  refine TL.not r_1 rfl rfl rfl ?_
  refine TL.move rfl rfl (v := .bool (!r_1)) rfl ?_
  refine TL.cutJ (σ := Bool) (γ := Unit) (Γ' := fun b_1 _ => [(14, .bool b_1), (0, .int .i64 p1), (1, SV.v s1), (4, .int .i64 0), (6, .int .i64 p1), (7, .bool r_1), (8, .bool (!r_1)), (9, .bool (!r_1))]) (L' := fun _ _ => []) 5 ?_ ?_
  · refine TL.ifb (t := 9) (b := (!r_1)) rfl (fun c1 => ?_) (fun c2 => ?_)
    · refine TL.skip rfl rfl (by decide) ?_
      refine TL.skip rfl rfl (by decide) ?_
      refine TL.skip rfl rfl (by decide) ?_
      refine TL.skip rfl rfl (by decide) ?_
      refine TL.pick rfl rfl (b := true) rfl (r := .bool true) rfl ?_
      refine TL.done ?_
      exact TC.nrm (true) () ⟨rfl, rfl, rfl, rfl, rfl, rfl, rfl, (by rw [c1]; rfl), trivial⟩ [] rfl
    · refine TL.move rfl rfl (v := SV.v s1) rfl ?_
      refine TL.len (Rd.old h1) Try.underlying44 rfl rfl rfl ?_
      refine TL.call (R := G.spec_l01In.R) Try.call75 rfl rfl rfl (fun w hS => G.spec_l01In.calls w (list_1.length : Int) 1 6) ?_
      rintro r_2 _ _ ⟨rfl, rfl⟩
      refine TL.not r_2 rfl rfl rfl ?_
      refine TL.pick rfl rfl (b := false) rfl (r := .bool (!r_2)) rfl ?_
      refine TL.done ?_
      exact TC.nrm ((!r_2)) () ⟨rfl, rfl, rfl, rfl, rfl, rfl, rfl, (by rw [c2]; rfl), trivial⟩ [] rfl
  · rintro b_1 _
    refine TL.done ?_
    refine TC.cond (b := b_1) rfl (fun c3 => ?_) (fun c4 => ?_)
    · refine TC.seq ?_
      refine TC.region ?_
      refine TL.assign rfl rfl (v := .int .i64 2) rfl ?_
      refine TL.done ?_
      exact TC.retF (Fin.body (fin1 (.inr rfl) rfl (.tmp rfl) [] rfl ⟨rfl, rfl⟩))
    · refine TC.skip ?_
      refine TC.seq ?_
      refine TC.seq ?_
      refine TC.region ?_
      refine TL.assign rfl rfl (v := .int .i64 0) rfl ?_
      refine TL.done ?_
      refine TC.loopK (σ := Int) (γ := Unit) (Γ' := (fun i1 _ => [(0, .int .i64 p1), (1, SV.v s1), (5, .int .i64 i1)])) (L' := (fun i1 _ => [])) (Γb := (fun i1 _ => [(0, .int .i64 p1), (1, SV.v s1), (5, .int .i64 i1)])) (Lb := (fun i1 _ => [])) (0) (()) ⟨rfl, rfl, rfl, trivial⟩ [] rfl ?_ ?_
      · rintro i1 _
        refine TC.seq ?_
        refine TC.seq ?_
        refine TC.region ?_
        refine TL.move rfl rfl (v := .int .i64 i1) rfl ?_
        refine TL.move rfl rfl (v := SV.v s1) rfl ?_
        refine TL.len (Rd.old h1) Try.underlying44 rfl rfl rfl ?_
        refine TL.bin .i64 i1 (list_1.length : Int) rfl rfl rfl rfl (v := .bool (decide (i1 < (list_1.length : Int)))) rfl ?_
        refine TL.done ?_
        refine TC.cond (b := (decide (i1 < (list_1.length : Int)))) rfl (fun c5 => ?_) (fun c6 => ?_)
        · refine TC.skip ?_
          refine TC.seq ?_
          refine TC.block (NoEx.loop rfl NoEx.body) ?_
          refine TC.seq ?_
          refine TC.region ?_
          refine TL.move rfl rfl (v := SV.v s1) rfl ?_
          refine TL.move rfl rfl (v := .int .i64 i1) rfl ?_
          refine TL.chk fun h2 => ?_
          refine TL.ixs i1 i1.toNat (Rd.old h1) h2 Try.underlying44 Try.sizeOf2 rfl rfl rfl rfl (by omega) ?_
          refine TL.loadE (Rd.old h1) Try.isAgg2 i1.toNat 0 (gt_spec h2) (v := .int .i64 (gt list_1 i1)) rfl (by simp only [show Ei.sz = 1 from rfl]; omega) rfl rfl rfl ?_
          refine TL.move rfl rfl (v := .int .i64 p1) rfl ?_
          refine TL.bin .i64 p1 1 rfl rfl rfl rfl (v := .int .i64 (w64 (p1 - 1))) rfl ?_
          refine TL.call (R := G.spec_l01In.R) Try.call75 rfl rfl rfl (fun w hS => G.spec_l01In.calls w (gt list_1 i1) 0 (w64 (p1 - 1))) ?_
          rintro r_3 _ _ ⟨rfl, rfl⟩
          refine TL.not r_3 rfl rfl rfl ?_
          refine TL.done ?_
          refine TC.cond (b := (!r_3)) rfl (fun c7 => ?_) (fun c8 => ?_)
          · refine TC.seq ?_
            refine TC.region ?_
            refine TL.assign rfl rfl (v := .int .i64 2) rfl ?_
            refine TL.done ?_
            exact TC.retF (Fin.loop Far.ret (Fin.body (fin1 (.inr rfl) rfl (.tmp rfl) [] rfl ⟨rfl, rfl⟩)))
          · refine TC.skip ?_
            refine TC.region ?_
            refine TL.move rfl rfl (v := .int .i64 i1) rfl ?_
            refine TL.bin .i64 i1 1 rfl rfl rfl rfl (v := .int .i64 (w64 (i1 + 1))) rfl ?_
            refine TL.assign rfl rfl (v := .int .i64 (w64 (i1 + 1))) rfl ?_
            refine TL.done ?_
            exact TC.next ((w64 (i1 + 1))) (()) ⟨rfl, rfl, rfl, trivial⟩ [] rfl
        · exact TC.brk (i1) (()) ⟨rfl, rfl, rfl, trivial⟩ [] rfl
      · rintro i1 _
        refine TC.seq ?_
        refine TC.region ?_
        refine TL.assign rfl rfl (v := .int .i64 0) rfl ?_
        refine TL.done ?_
        exact TC.retF (Fin.body (fin1 (.inr rfl) rfl (.tmp rfl) [] rfl ⟨rfl, rfl⟩))

end Go.Proofs.Ytgljkechjkllgaa.G

/- spec.l01Mod, as a pure function. -/
set_option linter.unusedVariables false
namespace Go.Proofs.Ytgljkechjkllgaa.G
open Go Go.Sx Go.Proofs

def spec_l01Mod.f (p1 : Int) (x1 : Int) : Option Int := nz p1 (some (Int.tmod (w64 ((Int.tmod x1 p1) + p1)) p1))

def spec_l01Mod.R (r : Int) (v : Value) (L : List Asn) : Prop := v = .int .i64 r ∧ L = []

set_option maxRecDepth 100000 in
set_option maxHeartbeats 4000000 in
theorem spec_l01Mod.calls (w : World) (p1 : Int) (x1 : Int) :
    ∀ r, spec_l01Mod.f p1 x1 = some r → Calls Try.prog 69 #[.int .i64 p1, .int .i64 x1] w (Ret w (spec_l01Mod.R r)) := by

  refine calls_T (n := 12) (Γ := [(0, .int .i64 p1), (1, .int .i64 x1)]) (R := spec_l01Mod.R) Try.func69 rfl rfl (Nat.le_of_ble_eq_true rfl) ⟨rfl, rfl, trivial⟩ ?_
  unfold spec_l01Mod.f
  refine TC.seq ?_
  refine TC.region ?_
  refine TL.assign rfl rfl (v := .int .i64 0) rfl ?_
  refine TL.done ?_
  refine TC.seq ?_
  refine TC.region ?_
  refine TL.move rfl rfl (v := .int .i64 x1) rfl ?_
  refine TL.move rfl rfl (v := .int .i64 p1) rfl ?_
  refine TL.nz fun z1 => ?_
  refine TL.rem .i64 x1 p1 z1 rfl rfl rfl rfl ?_
  refine TL.move rfl rfl (v := .int .i64 p1) rfl ?_
  refine TL.bin .i64 (Int.tmod x1 p1) p1 rfl rfl rfl rfl (v := .int .i64 (w64 ((Int.tmod x1 p1) + p1))) rfl ?_
  refine TL.move rfl rfl (v := .int .i64 p1) rfl ?_
  refine TL.rem .i64 (w64 ((Int.tmod x1 p1) + p1)) p1 z1 rfl rfl rfl rfl ?_
  refine TL.assign rfl rfl (v := .int .i64 (Int.tmod (w64 ((Int.tmod x1 p1) + p1)) p1)) rfl ?_
  refine TL.done ?_
  exact TC.retF (Fin.body (fin1 (.inr rfl) rfl (.tmp rfl) [] rfl ⟨rfl, rfl⟩))

end Go.Proofs.Ytgljkechjkllgaa.G

/- spec.l01Own, as a pure function. -/
set_option linter.unusedVariables false
namespace Go.Proofs.Ytgljkechjkllgaa.G
open Go Go.Sx Go.Proofs

def spec_l01Own.f (list_1 : List Int) : Option (List Int) := small (([] : List Int).length + list_1.length) (some (([] : List Int) ++ list_1))

def spec_l01Own.R (r : List Int) (v : Value) (L : List Asn) : Prop := ∃ (s0 : SV), v = SV.v s0 ∧ L = [row Ei 2 s0 r]

set_option maxRecDepth 100000 in
set_option maxHeartbeats 4000000 in
theorem spec_l01Own.calls (w : World) (s1 : SV) (list_1 : List Int) (h1 : Reads Ei (hp w) s1 list_1) :
    ∀ r, spec_l01Own.f list_1 = some r → Calls Try.prog 70 #[SV.v s1] w (Ret w (spec_l01Own.R r)) := by

  refine calls_T (n := 6) (Γ := [(0, SV.v s1)]) (R := spec_l01Own.R) Try.func70 rfl rfl (Nat.le_of_ble_eq_true rfl) ⟨rfl, trivial⟩ ?_
  unfold spec_l01Own.f
  refine TC.seq ?_
  refine TC.region ?_
  refine TL.assign rfl rfl (v := SV.v ⟨none, 0, 0⟩) rfl ?_
  refine TL.done ?_
  refine TC.seq ?_
  refine TC.region ?_
  refine TL.bslice0 Ei Try.underlying44 Try.sizeOf2 rfl rfl fun s2 => ?_
  refine TL.move rfl rfl (v := SV.v s1) rfl ?_
  refine TL.small fun h2 => ?_
  refine TL.append 0 rfl (Rd.old h1) Try.underlying44 (info_of Try.type2) (zv := (Try.t2.zero.getD (.bool false))) rfl rfl rfl (by decide) h2 rfl rfl rfl rfl fun s3 => ?_
  refine TL.assign rfl rfl (v := SV.v s3) rfl ?_
  refine TL.done ?_
  exact TC.retF (Fin.body (fin1 (.inr rfl) rfl (.tmp rfl) [0] rfl ⟨s3, rfl, rfl⟩))

end Go.Proofs.Ytgljkechjkllgaa.G

/- spec.ProductOfRoots, as a pure function. -/
set_option linter.unusedVariables false
namespace Go.Proofs.Ytgljkechjkllgaa.G
open Go Go.Sx Go.Proofs

def spec_ProductOfRoots.b0 (x3 : List Int) (x1 : Int) (x4 : Int) (x2 : List Int) : (List Int) × Int → Option (LB ((List Int) × Int)) := fun p => match p with | (l1, x5) => (bif (decide (x5 < (x3.length : Int))) then chk (w64 (x5 + 1)) l1.length (chk x5 x3.length ((G.spec_l01Mod.f x1 (w64 ((gt l1 (w64 (x5 + 1))) + (gt x3 x5)))).bind (fun r_2 => chk x5 ((l1.set (w64 (x5 + 1)).toNat r_2).length) (chk x4 x2.length ((G.spec_l01Mod.f x1 (w64 ((gt (l1.set (w64 (x5 + 1)).toNat r_2) x5) - (w64 ((gt x2 x4) * (gt x3 x5)))))).bind (fun r_3 => some (.next (((l1.set (w64 (x5 + 1)).toNat r_2).set x5.toNat r_3), (w64 (x5 + 1)))))))))) else some (.brk (l1, x5)))

def spec_ProductOfRoots.b1 (x2 : List Int) (x1 : Int) : (List Int) × Int → Option (LB ((List Int) × Int)) := fun p => match p with | (x3, x4) => (bif (decide (x4 < (x2.length : Int))) then grd (decide (0 ≤ (w64 ((x3.length : Int) + 1)))) (small (w64 ((x3.length : Int) + 1)).toNat ((loop1 (spec_ProductOfRoots.b0 x3 x1 x4 x2) ((List.replicate (w64 ((x3.length : Int) + 1)).toNat (0 : Int)), 0)).bind (fun p => match p with | (l1, x5) => some (.next (l1, (w64 (x4 + 1))))))) else some (.brk (x3, x4)))

def spec_ProductOfRoots.f (x1 : Int) (x2 : List Int) : Option ((List Int) × Int) := (G.spec_l09Poly.f x1 x2).bind (fun r_1 => (bif (r_1 != 0) then some (([] : List Int), 2) else (loop1 (spec_ProductOfRoots.b1 x2 x1) (([1] : List Int), 0)).bind (fun p => match p with | (x3, x4) => grd (decide (0 ≤ 0) && decide (0 ≤ (x2.length : Int)) && decide ((x2.length : Int) ≤ (x3.length : Int))) ((G.spec_l01Own.f ((x3.drop 0).take (((x2.length : Int).toNat) - 0))).bind (fun r_4 => some (r_4, 0))))))

def spec_ProductOfRoots.R (r : (List Int) × Int) (v : Value) (L : List Asn) : Prop := ∃ (s0 : SV), v = .tuple #[SV.v s0, .int .i64 r.2] ∧ L = [row Ei 2 s0 r.1]

set_option maxRecDepth 100000 in
set_option maxHeartbeats 4000000 in
theorem spec_ProductOfRoots.calls (w : World) (x1 : Int) (s1 : SV) (x2 : List Int) (h1 : Reads Ei (hp w) s1 x2) :
    ∀ r, spec_ProductOfRoots.f x1 x2 = some r → Calls Try.prog 30 #[.int .i64 x1, SV.v s1] w (Ret w (spec_ProductOfRoots.R r)) := by

  refine calls_T (n := 72) (Γ := [(0, .int .i64 x1), (1, SV.v s1)]) (R := spec_ProductOfRoots.R) Try.func30 rfl rfl (Nat.le_of_ble_eq_true rfl) ⟨rfl, rfl, trivial⟩ ?_
  unfold spec_ProductOfRoots.f
  refine TC.seq ?_
  refine TC.region ?_
  refine TL.assign rfl rfl (v := SV.v ⟨none, 0, 0⟩) rfl ?_
  refine TL.assign rfl rfl (v := .int .i64 0) rfl ?_
  refine TL.done ?_
  refine TC.seq ?_
  refine TC.seq ?_
  refine TC.region ?_
  refine TL.move rfl rfl (v := .int .i64 x1) rfl ?_
  refine TL.move rfl rfl (v := SV.v s1) rfl ?_
  refine TL.call (R := G.spec_l09Poly.R) Try.call68 rfl rfl rfl (fun w hS => G.spec_l09Poly.calls w x1 s1 x2 ((Rd.old h1) w hS)) ?_
  rintro r_1 _ _ ⟨rfl, rfl⟩
  refine TL.bin .i64 r_1 0 rfl rfl rfl rfl (v := .bool (r_1 != 0)) rfl ?_
  refine TL.done ?_
  refine TC.cond (b := (r_1 != 0)) rfl (fun c1 => ?_) (fun c2 => ?_)
  · refine TC.seq ?_
    refine TC.region ?_
    refine TL.assign rfl rfl (v := SV.v ⟨none, 0, 0⟩) rfl ?_
    refine TL.assign rfl rfl (v := .int .i64 2) rfl ?_
    refine TL.done ?_
    refine TC.nilrow Ei 2 ?_
    exact TC.retF (Fin.body (fin2 (.inr rfl) rfl (.tmp rfl) (.tmp rfl) [0] rfl ⟨⟨none, 0, 0⟩, rfl, rfl⟩))
  · refine TC.skip ?_
    refine TC.seq ?_
    refine TC.region ?_
    refine TL.blit Ei ([1] : List Int) Try.underlying44 Try.sizeOf2 Try.zeroValue2 rfl rfl rfl [(0, .int .i64 1)] rfl ⟨rfl, rfl, trivial⟩ rfl rfl fun s2 => ?_
    refine TL.assign rfl rfl (v := SV.v s2) rfl ?_
    refine TL.done ?_
    refine TC.seq ?_
    refine TC.seq ?_
    refine TC.region ?_
    refine TL.assign rfl rfl (v := .int .i64 0) rfl ?_
    refine TL.done ?_
    refine TC.loop1 (σ := (List Int) × Int) (γ := SV) (Γ' := (fun p q => match p, q with | (x3, x4), s3 => [(0, .int .i64 x1), (1, SV.v s1), (6, SV.v s3), (7, .int .i64 x4)])) (L' := (fun p q => match p, q with | (x3, x4), s3 => [row Ei 2 s3 x3])) (Γb := (fun p q => match p, q with | (x3, x4), s3 => [(0, .int .i64 x1), (1, SV.v s1), (6, SV.v s3), (7, .int .i64 x4)])) (Lb := (fun p q => match p, q with | (x3, x4), s3 => [row Ei 2 s3 x3])) ((([1] : List Int), 0)) (s2) ⟨rfl, rfl, rfl, rfl, trivial⟩ [0] rfl ?_ ?_
    · rintro ⟨x3, x4⟩ s3
      refine TC.seq ?_
      refine TC.seq ?_
      refine TC.region ?_
      refine TL.move rfl rfl (v := .int .i64 x4) rfl ?_
      refine TL.move rfl rfl (v := SV.v s1) rfl ?_
      refine TL.len (Rd.old h1) Try.underlying44 rfl rfl rfl ?_
      refine TL.bin .i64 x4 (x2.length : Int) rfl rfl rfl rfl (v := .bool (decide (x4 < (x2.length : Int)))) rfl ?_
      refine TL.done ?_
      refine TC.cond (b := (decide (x4 < (x2.length : Int)))) rfl (fun c3 => ?_) (fun c4 => ?_)
      · refine TC.skip ?_
        refine TC.seq ?_
        refine TC.block (NoEx.loop1 rfl) ?_
        refine TC.seq ?_
        refine TC.region ?_
        refine TL.move rfl rfl (v := SV.v s3) rfl ?_
        refine TL.len (Rd.row 0 rfl) Try.underlying44 rfl rfl rfl ?_
        refine TL.bin .i64 (x3.length : Int) 1 rfl rfl rfl rfl (v := .int .i64 (w64 ((x3.length : Int) + 1))) rfl ?_
        refine TL.grd fun h3 => ?_
        refine TL.small fun h2 => ?_
        refine TL.mkslice Ei (0 : Int) (w64 ((x3.length : Int) + 1)) Try.underlying44 (info_of Try.type2) (zv := (Try.t2.zero.getD (.bool false))) rfl rfl rfl (by simp [Ei, flat, Seg.cells]) (by decide) (by simpa using h3) (by omega) rfl rfl rfl rfl fun s4 => ?_
        refine TL.assign rfl rfl (v := SV.v s4) rfl ?_
        refine TL.done ?_
        refine TC.seq ?_
        refine TC.seq ?_
        refine TC.region ?_
        refine TL.assign rfl rfl (v := .int .i64 0) rfl ?_
        refine TL.done ?_
        refine TC.loop1 (σ := (List Int) × Int) (γ := Unit) (Γ' := (fun p q => match p, q with | (l1, x5), _ => [(0, .int .i64 x1), (1, SV.v s1), (6, SV.v s3), (7, .int .i64 x4), (8, SV.v s4), (9, .int .i64 x5)])) (L' := (fun p q => match p, q with | (l1, x5), _ => [row Ei 2 s3 x3, row Ei 2 s4 l1])) (Γb := (fun p q => match p, q with | (l1, x5), _ => [(0, .int .i64 x1), (1, SV.v s1), (6, SV.v s3), (7, .int .i64 x4), (8, SV.v s4), (9, .int .i64 x5)])) (Lb := (fun p q => match p, q with | (l1, x5), _ => [row Ei 2 s3 x3, row Ei 2 s4 l1])) (((List.replicate (w64 ((x3.length : Int) + 1)).toNat (0 : Int)), 0)) (()) ⟨rfl, rfl, rfl, rfl, rfl, rfl, trivial⟩ [1, 0] rfl ?_ ?_
        · rintro ⟨l1, x5⟩ _
          refine TC.seq ?_
          refine TC.seq ?_
          refine TC.region ?_
          refine TL.move rfl rfl (v := .int .i64 x5) rfl ?_
          refine TL.move rfl rfl (v := SV.v s3) rfl ?_
          refine TL.len (Rd.row 0 rfl) Try.underlying44 rfl rfl rfl ?_
          refine TL.bin .i64 x5 (x3.length : Int) rfl rfl rfl rfl (v := .bool (decide (x5 < (x3.length : Int)))) rfl ?_
          refine TL.done ?_
          refine TC.cond (b := (decide (x5 < (x3.length : Int)))) rfl (fun c5 => ?_) (fun c6 => ?_)
          · refine TC.skip ?_
            refine TC.seq ?_
            refine TC.block (NoEx.loop1 rfl) ?_
            refine TC.seq ?_
            refine TC.wk (Γ' := [(0, .int .i64 x1), (1, SV.v s1), (6, SV.v s3), (7, .int .i64 x4), (8, SV.v s4), (9, .int .i64 x5), (25, .int .i64 x5), (26, SV.v s3), (27, .int .i64 (x3.length : Int)), (28, .bool (decide (x5 < (x3.length : Int))))]) ⟨rfl, rfl, rfl, rfl, rfl, rfl, rfl, rfl, rfl, rfl, trivial⟩ ?_
            refine TC.chk fun h4 => ?_
            refine TC.chk fun h5 => ?_
            refine TC.bindE fun r_2 hr1 => ?_
            refine TC.draw [SV.v s4, .int .i64 x5, .int .i64 (w64 (x5 + 1)), .int .i64 x1, SV.v s4, .int .i64 x5, .int .i64 (w64 (x5 + 1)), ep s4 ((w64 (x5 + 1)).toNat), .int .i64 (gt l1 (w64 (x5 + 1))), SV.v s3, .int .i64 x5, ep s3 x5.toNat, .int .i64 (gt x3 x5), .int .i64 (w64 ((gt l1 (w64 (x5 + 1))) + (gt x3 x5))), .int .i64 r_2, ep s4 ((w64 (x5 + 1)).toNat), undef] 16 [row Ei 2 s3 x3, row Ei 2 s4 (l1.set (w64 (x5 + 1)).toNat r_2)] (by kernel_rfl) rfl rfl rfl rfl ?_ ?_
            · refine ⟨?_, ?_, ?_, ?_, ?_, ?_, ?_, ?_, ?_, ?_, ?_, ?_, ?_, ?_, ?_, ?_, ?_, trivial⟩
              · refine TL.move rfl rfl (v := SV.v s4) rfl ?_
                refine TL.done ?_
                exact TC.nrm () () ⟨rfl, trivial⟩ [0, 0] rfl
              · refine TL.move rfl rfl (v := .int .i64 x5) rfl ?_
                refine TL.done ?_
                exact TC.nrm () () ⟨rfl, trivial⟩ [0, 0] rfl
              · refine TL.bin .i64 x5 1 rfl rfl rfl rfl (v := .int .i64 (w64 (x5 + 1))) rfl ?_
                refine TL.done ?_
                exact TC.nrm () () ⟨rfl, trivial⟩ [0, 0] rfl
              · refine TL.move rfl rfl (v := .int .i64 x1) rfl ?_
                refine TL.done ?_
                exact TC.nrm () () ⟨rfl, trivial⟩ [0, 0] rfl
              · refine TL.move rfl rfl (v := SV.v s4) rfl ?_
                refine TL.done ?_
                exact TC.nrm () () ⟨rfl, trivial⟩ [0, 0] rfl
              · refine TL.move rfl rfl (v := .int .i64 x5) rfl ?_
                refine TL.done ?_
                exact TC.nrm () () ⟨rfl, trivial⟩ [0, 0] rfl
              · refine TL.bin .i64 x5 1 rfl rfl rfl rfl (v := .int .i64 (w64 (x5 + 1))) rfl ?_
                refine TL.done ?_
                exact TC.nrm () () ⟨rfl, trivial⟩ [0, 0] rfl
              · refine TL.ixs (w64 (x5 + 1)) ((w64 (x5 + 1)).toNat) (Rd.row 1 rfl) h4 Try.underlying44 Try.sizeOf2 rfl rfl rfl rfl (by omega) ?_
                refine TL.done ?_
                exact TC.nrm () () ⟨rfl, trivial⟩ [0, 0] rfl
              · refine TL.loadE (Rd.row 1 rfl) Try.isAgg2 (w64 (x5 + 1)).toNat 0 (gt_spec h4) (v := .int .i64 (gt l1 (w64 (x5 + 1)))) rfl (by simp only [show Ei.sz = 1 from rfl]; omega) rfl rfl rfl ?_
                refine TL.done ?_
                exact TC.nrm () () ⟨rfl, trivial⟩ [0, 0] rfl
              · refine TL.move rfl rfl (v := SV.v s3) rfl ?_
                refine TL.done ?_
                exact TC.nrm () () ⟨rfl, trivial⟩ [0, 0] rfl
              · refine TL.move rfl rfl (v := .int .i64 x5) rfl ?_
                refine TL.done ?_
                exact TC.nrm () () ⟨rfl, trivial⟩ [0, 0] rfl
              · refine TL.ixs x5 x5.toNat (Rd.row 0 rfl) h5 Try.underlying44 Try.sizeOf2 rfl rfl rfl rfl (by omega) ?_
                refine TL.done ?_
                exact TC.nrm () () ⟨rfl, trivial⟩ [0, 0] rfl
              · refine TL.loadE (Rd.row 0 rfl) Try.isAgg2 x5.toNat 0 (gt_spec h5) (v := .int .i64 (gt x3 x5)) rfl (by simp only [show Ei.sz = 1 from rfl]; omega) rfl rfl rfl ?_
                refine TL.done ?_
                exact TC.nrm () () ⟨rfl, trivial⟩ [0, 0] rfl
              · refine TL.bin .i64 (gt l1 (w64 (x5 + 1))) (gt x3 x5) rfl rfl rfl rfl (v := .int .i64 (w64 ((gt l1 (w64 (x5 + 1))) + (gt x3 x5)))) rfl ?_
                refine TL.done ?_
                exact TC.nrm () () ⟨rfl, trivial⟩ [0, 0] rfl
              · refine TL.callH (R := G.spec_l01Mod.R) hr1 Try.call69 rfl rfl rfl (fun w hS => G.spec_l01Mod.calls w x1 (w64 ((gt l1 (w64 (x5 + 1))) + (gt x3 x5)))) ?_
                rintro _ _ ⟨rfl, rfl⟩
                refine TL.done ?_
                exact TC.nrm () () ⟨rfl, trivial⟩ [0, 0] rfl
              · refine TL.ixs (w64 (x5 + 1)) ((w64 (x5 + 1)).toNat) (Rd.row 1 rfl) h4 Try.underlying44 Try.sizeOf2 rfl rfl rfl rfl (by omega) ?_
                refine TL.done ?_
                exact TC.nrm () () ⟨rfl, trivial⟩ [0, 0] rfl
              · refine TL.stE 1 ((w64 (x5 + 1)).toNat) r_2 (v := .int .i64 r_2) rfl Try.sizeOf2 rfl rfl rfl (by have h_ := h4; omega) (by simp only [show Ei.sz = 1 from rfl]; omega) rfl rfl rfl ?_
                refine TL.done ?_
                exact TC.nrm () () trivial [0, 0] rfl
            · refine TC.wk (Γ' := [(0, .int .i64 x1), (1, SV.v s1), (6, SV.v s3), (7, .int .i64 x4), (8, SV.v s4), (9, .int .i64 x5), (25, .int .i64 x5), (26, SV.v s3), (27, .int .i64 (x3.length : Int)), (28, .bool (decide (x5 < (x3.length : Int)))), (31, SV.v s4), (32, .int .i64 x5), (33, .int .i64 (w64 (x5 + 1))), (34, .int .i64 x1), (35, SV.v s4), (36, .int .i64 x5), (37, .int .i64 (w64 (x5 + 1))), (38, ep s4 ((w64 (x5 + 1)).toNat)), (39, .int .i64 (gt l1 (w64 (x5 + 1)))), (40, SV.v s3), (41, .int .i64 x5), (42, ep s3 x5.toNat), (43, .int .i64 (gt x3 x5)), (44, .int .i64 (w64 ((gt l1 (w64 (x5 + 1))) + (gt x3 x5)))), (45, .int .i64 r_2), (46, ep s4 ((w64 (x5 + 1)).toNat))]) ⟨rfl, rfl, rfl, rfl, rfl, rfl, rfl, rfl, rfl, rfl, rfl, rfl, rfl, rfl, rfl, rfl, rfl, rfl, rfl, rfl, rfl, rfl, rfl, rfl, rfl, rfl, trivial⟩ ?_
              refine TC.chk fun h6 => ?_
              refine TC.chk fun h7 => ?_
              refine TC.bindE fun r_3 hr2 => ?_
              refine TC.draw [SV.v s4, .int .i64 x5, .int .i64 x1, SV.v s4, .int .i64 x5, ep s4 x5.toNat, .int .i64 (gt (l1.set (w64 (x5 + 1)).toNat r_2) x5), SV.v s1, .int .i64 x4, ep s1 x4.toNat, .int .i64 (gt x2 x4), SV.v s3, .int .i64 x5, ep s3 x5.toNat, .int .i64 (gt x3 x5), .int .i64 (w64 ((gt x2 x4) * (gt x3 x5))), .int .i64 (w64 ((gt (l1.set (w64 (x5 + 1)).toNat r_2) x5) - (w64 ((gt x2 x4) * (gt x3 x5))))), .int .i64 r_3, ep s4 x5.toNat, undef] 19 [row Ei 2 s3 x3, row Ei 2 s4 ((l1.set (w64 (x5 + 1)).toNat r_2).set x5.toNat r_3)] (by kernel_rfl) rfl rfl rfl rfl ?_ ?_
              · refine ⟨?_, ?_, ?_, ?_, ?_, ?_, ?_, ?_, ?_, ?_, ?_, ?_, ?_, ?_, ?_, ?_, ?_, ?_, ?_, ?_, trivial⟩
                · refine TL.move rfl rfl (v := SV.v s4) rfl ?_
                  refine TL.done ?_
                  exact TC.nrm () () ⟨rfl, trivial⟩ [0, 0] rfl
                · refine TL.move rfl rfl (v := .int .i64 x5) rfl ?_
                  refine TL.done ?_
                  exact TC.nrm () () ⟨rfl, trivial⟩ [0, 0] rfl
                · refine TL.move rfl rfl (v := .int .i64 x1) rfl ?_
                  refine TL.done ?_
                  exact TC.nrm () () ⟨rfl, trivial⟩ [0, 0] rfl
                · refine TL.move rfl rfl (v := SV.v s4) rfl ?_
                  refine TL.done ?_
                  exact TC.nrm () () ⟨rfl, trivial⟩ [0, 0] rfl
                · refine TL.move rfl rfl (v := .int .i64 x5) rfl ?_
                  refine TL.done ?_
                  exact TC.nrm () () ⟨rfl, trivial⟩ [0, 0] rfl
                · refine TL.ixs x5 x5.toNat (Rd.row 1 rfl) h6 Try.underlying44 Try.sizeOf2 rfl rfl rfl rfl (by omega) ?_
                  refine TL.done ?_
                  exact TC.nrm () () ⟨rfl, trivial⟩ [0, 0] rfl
                · refine TL.loadE (Rd.row 1 rfl) Try.isAgg2 x5.toNat 0 (gt_spec h6) (v := .int .i64 (gt (l1.set (w64 (x5 + 1)).toNat r_2) x5)) rfl (by simp only [show Ei.sz = 1 from rfl]; omega) rfl rfl rfl ?_
                  refine TL.done ?_
                  exact TC.nrm () () ⟨rfl, trivial⟩ [0, 0] rfl
                · refine TL.move rfl rfl (v := SV.v s1) rfl ?_
                  refine TL.done ?_
                  exact TC.nrm () () ⟨rfl, trivial⟩ [0, 0] rfl
                · refine TL.move rfl rfl (v := .int .i64 x4) rfl ?_
                  refine TL.done ?_
                  exact TC.nrm () () ⟨rfl, trivial⟩ [0, 0] rfl
                · refine TL.ixs x4 x4.toNat (Rd.old h1) h7 Try.underlying44 Try.sizeOf2 rfl rfl rfl rfl (by omega) ?_
                  refine TL.done ?_
                  exact TC.nrm () () ⟨rfl, trivial⟩ [0, 0] rfl
                · refine TL.loadE (Rd.old h1) Try.isAgg2 x4.toNat 0 (gt_spec h7) (v := .int .i64 (gt x2 x4)) rfl (by simp only [show Ei.sz = 1 from rfl]; omega) rfl rfl rfl ?_
                  refine TL.done ?_
                  exact TC.nrm () () ⟨rfl, trivial⟩ [0, 0] rfl
                · refine TL.move rfl rfl (v := SV.v s3) rfl ?_
                  refine TL.done ?_
                  exact TC.nrm () () ⟨rfl, trivial⟩ [0, 0] rfl
                · refine TL.move rfl rfl (v := .int .i64 x5) rfl ?_
                  refine TL.done ?_
                  exact TC.nrm () () ⟨rfl, trivial⟩ [0, 0] rfl
                · refine TL.ixs x5 x5.toNat (Rd.row 0 rfl) h5 Try.underlying44 Try.sizeOf2 rfl rfl rfl rfl (by omega) ?_
                  refine TL.done ?_
                  exact TC.nrm () () ⟨rfl, trivial⟩ [0, 0] rfl
                · refine TL.loadE (Rd.row 0 rfl) Try.isAgg2 x5.toNat 0 (gt_spec h5) (v := .int .i64 (gt x3 x5)) rfl (by simp only [show Ei.sz = 1 from rfl]; omega) rfl rfl rfl ?_
                  refine TL.done ?_
                  exact TC.nrm () () ⟨rfl, trivial⟩ [0, 0] rfl
                · refine TL.bin .i64 (gt x2 x4) (gt x3 x5) rfl rfl rfl rfl (v := .int .i64 (w64 ((gt x2 x4) * (gt x3 x5)))) rfl ?_
                  refine TL.done ?_
                  exact TC.nrm () () ⟨rfl, trivial⟩ [0, 0] rfl
                · refine TL.bin .i64 (gt (l1.set (w64 (x5 + 1)).toNat r_2) x5) (w64 ((gt x2 x4) * (gt x3 x5))) rfl rfl rfl rfl (v := .int .i64 (w64 ((gt (l1.set (w64 (x5 + 1)).toNat r_2) x5) - (w64 ((gt x2 x4) * (gt x3 x5)))))) rfl ?_
                  refine TL.done ?_
                  exact TC.nrm () () ⟨rfl, trivial⟩ [0, 0] rfl
                · refine TL.callH (R := G.spec_l01Mod.R) hr2 Try.call69 rfl rfl rfl (fun w hS => G.spec_l01Mod.calls w x1 (w64 ((gt (l1.set (w64 (x5 + 1)).toNat r_2) x5) - (w64 ((gt x2 x4) * (gt x3 x5)))))) ?_
                  rintro _ _ ⟨rfl, rfl⟩
                  refine TL.done ?_
                  exact TC.nrm () () ⟨rfl, trivial⟩ [0, 0] rfl
                · refine TL.ixs x5 x5.toNat (Rd.row 1 rfl) h6 Try.underlying44 Try.sizeOf2 rfl rfl rfl rfl (by omega) ?_
                  refine TL.done ?_
                  exact TC.nrm () () ⟨rfl, trivial⟩ [0, 0] rfl
                · refine TL.stE 1 (x5.toNat) r_3 (v := .int .i64 r_3) rfl Try.sizeOf2 rfl rfl rfl (by have h_ := h6; omega) (by simp only [show Ei.sz = 1 from rfl]; omega) rfl rfl rfl ?_
                  refine TL.done ?_
                  exact TC.nrm () () trivial [0, 0] rfl
              · refine TC.region ?_
                refine TL.move rfl rfl (v := .int .i64 x5) rfl ?_
                refine TL.bin .i64 x5 1 rfl rfl rfl rfl (v := .int .i64 (w64 (x5 + 1))) rfl ?_
                refine TL.assign rfl rfl (v := .int .i64 (w64 (x5 + 1))) rfl ?_
                refine TL.done ?_
                exact TC.next1 ((((l1.set (w64 (x5 + 1)).toNat r_2).set x5.toNat r_3), (w64 (x5 + 1)))) (()) ⟨rfl, rfl, rfl, rfl, rfl, rfl, trivial⟩ [0, 0] rfl
          · exact TC.brk1 ((l1, x5)) (()) ⟨rfl, rfl, rfl, rfl, rfl, rfl, trivial⟩ [0, 0] rfl
        · rintro ⟨l1, x5⟩ _
          refine TC.region ?_
          refine TL.move rfl rfl (v := SV.v s4) rfl ?_
          refine TL.assign rfl rfl (v := SV.v s4) rfl ?_
          refine TL.done ?_
          refine TC.region ?_
          refine TL.move rfl rfl (v := .int .i64 x4) rfl ?_
          refine TL.bin .i64 x4 1 rfl rfl rfl rfl (v := .int .i64 (w64 (x4 + 1))) rfl ?_
          refine TL.assign rfl rfl (v := .int .i64 (w64 (x4 + 1))) rfl ?_
          refine TL.done ?_
          exact TC.next1 ((l1, (w64 (x4 + 1)))) (s4) ⟨rfl, rfl, rfl, rfl, trivial⟩ [1] rfl
      · exact TC.brk1 ((x3, x4)) (s3) ⟨rfl, rfl, rfl, rfl, trivial⟩ [0] rfl
    · rintro ⟨x3, x4⟩ s3
      refine TC.seq ?_
      refine TC.region ?_
      refine TL.move rfl rfl (v := SV.v s3) rfl ?_
      refine TL.move rfl rfl (v := SV.v s1) rfl ?_
      refine TL.len (Rd.old h1) Try.underlying44 rfl rfl rfl ?_
      refine TL.grd fun h8 => ?_
      refine TL.slice (li := none) (hi' := (some (x2.length : Int))) (l := 0) (h := ((x2.length : Int).toNat)) (Rd.row 0 rfl) Try.underlying44 Try.sizeOf2 rfl rfl (by have h_ := h8; simp only [Bool.and_eq_true, decide_eq_true_eq] at h_; first | rfl | omega | (simp only [Option.getD_none, Option.getD_some]; omega)) (by have h_ := h8; simp only [Bool.and_eq_true, decide_eq_true_eq] at h_; first | rfl | omega | (simp only [Option.getD_none, Option.getD_some]; omega)) (by have h_ := h8; simp only [Bool.and_eq_true, decide_eq_true_eq] at h_; omega) (by have h_ := h8; simp only [Bool.and_eq_true, decide_eq_true_eq] at h_; omega) rfl rfl rfl ?_
      refine TL.call (R := G.spec_l01Own.R) Try.call70 rfl rfl rfl (fun w hS => G.spec_l01Own.calls w (SV.cut s3 0 ((x2.length : Int).toNat) s3.c Ei.sz) ((x3.drop 0).take (((x2.length : Int).toNat) - 0)) ((Rd.cut (Rd.row 0 rfl) (by have h_ := h8; simp only [Bool.and_eq_true, decide_eq_true_eq] at h_; omega) (by have h_ := h8; simp only [Bool.and_eq_true, decide_eq_true_eq] at h_; omega)) w hS)) ?_
      rintro r_4 _ _ ⟨s5, rfl, rfl⟩
      refine TL.assign rfl rfl (v := SV.v s5) rfl ?_
      refine TL.assign rfl rfl (v := .int .i64 0) rfl ?_
      refine TL.done ?_
      exact TC.retF (Fin.body (fin2 (.inr rfl) rfl (.tmp rfl) (.tmp rfl) [0] rfl ⟨s5, rfl, rfl⟩))

end Go.Proofs.Ytgljkechjkllgaa.G

/- laws.toInt64S, as a pure function. -/
set_option linter.unusedVariables false
namespace Go.Proofs.Ytgljkechjkllgaa.G
open Go Go.Sx Go.Proofs

def laws_toInt64S.b0 (a_1 : List Int) : (List Int) × Int → Option (LB ((List Int) × Int)) := fun p => match p with | (out1, i1) => (bif (decide (i1 < (a_1.length : Int))) then chk i1 a_1.length (chk i1 out1.length (some (.next ((out1.set i1.toNat (gt a_1 i1)), (w64 (i1 + 1)))))) else some (.brk (out1, i1)))

def laws_toInt64S.f (a_1 : List Int) : Option (List Int) := small a_1.length ((loop1 (laws_toInt64S.b0 a_1) ((List.replicate (a_1.length : Int).toNat (0 : Int)), 0)).bind (fun p => match p with | (out1, i1) => some out1))

def laws_toInt64S.R (r : List Int) (v : Value) (L : List Asn) : Prop := ∃ (s0 : SV), v = SV.v s0 ∧ L = [row Ei 2 s0 r]

set_option maxRecDepth 100000 in
set_option maxHeartbeats 4000000 in
theorem laws_toInt64S.calls (w : World) (s1 : SV) (a_1 : List Int) (h1 : Reads Ei (hp w) s1 a_1) :
    ∀ r, laws_toInt64S.f a_1 = some r → Calls Try.prog 31 #[SV.v s1] w (Ret w (laws_toInt64S.R r)) := by

  refine calls_T (n := 22) (Γ := [(0, SV.v s1)]) (R := laws_toInt64S.R) Try.func31 rfl rfl (Nat.le_of_ble_eq_true rfl) ⟨rfl, trivial⟩ ?_
  unfold laws_toInt64S.f
  refine TC.seq ?_
  refine TC.region ?_
  refine TL.assign rfl rfl (v := SV.v ⟨none, 0, 0⟩) rfl ?_
  refine TL.done ?_
  refine TC.seq ?_
  refine TC.region ?_
  refine TL.move rfl rfl (v := SV.v s1) rfl ?_
  refine TL.len (Rd.old h1) Try.underlying44 rfl rfl rfl ?_
  refine TL.small fun h2 => ?_
  refine TL.mkslice Ei (0 : Int) (a_1.length : Int) Try.underlying44 (info_of Try.type2) (zv := (Try.t2.zero.getD (.bool false))) rfl rfl rfl (by simp [Ei, flat, Seg.cells]) (by decide) (by omega) (by omega) rfl rfl rfl rfl fun s2 => ?_
  refine TL.assign rfl rfl (v := SV.v s2) rfl ?_
  refine TL.done ?_
  refine TC.seq ?_
  refine TC.seq ?_
  refine TC.region ?_
  refine TL.assign rfl rfl (v := .int .i64 0) rfl ?_
  refine TL.done ?_
  refine TC.loop1 (σ := (List Int) × Int) (γ := Unit) (Γ' := (fun p q => match p, q with | (out1, i1), _ => [(0, SV.v s1), (3, SV.v s2), (4, .int .i64 i1)])) (L' := (fun p q => match p, q with | (out1, i1), _ => [row Ei 2 s2 out1])) (Γb := (fun p q => match p, q with | (out1, i1), _ => [(0, SV.v s1), (3, SV.v s2), (4, .int .i64 i1)])) (Lb := (fun p q => match p, q with | (out1, i1), _ => [row Ei 2 s2 out1])) (((List.replicate (a_1.length : Int).toNat (0 : Int)), 0)) (()) ⟨rfl, rfl, rfl, trivial⟩ [0] rfl ?_ ?_
  · rintro ⟨out1, i1⟩ _
    refine TC.seq ?_
    refine TC.seq ?_
    refine TC.region ?_
    refine TL.move rfl rfl (v := .int .i64 i1) rfl ?_
    refine TL.move rfl rfl (v := SV.v s1) rfl ?_
    refine TL.len (Rd.old h1) Try.underlying44 rfl rfl rfl ?_
    refine TL.bin .i64 i1 (a_1.length : Int) rfl rfl rfl rfl (v := .bool (decide (i1 < (a_1.length : Int)))) rfl ?_
    refine TL.done ?_
    refine TC.cond (b := (decide (i1 < (a_1.length : Int)))) rfl (fun c1 => ?_) (fun c2 => ?_)
    · refine TC.skip ?_
      refine TC.seq ?_
      refine TC.block (NoEx.loop1 rfl) ?_
      refine TC.region ?_
      refine TL.move rfl rfl (v := SV.v s2) rfl ?_
      refine TL.move rfl rfl (v := .int .i64 i1) rfl ?_
      refine TL.move rfl rfl (v := SV.v s1) rfl ?_
      refine TL.move rfl rfl (v := .int .i64 i1) rfl ?_
      refine TL.chk fun h4 => ?_
      refine TL.ixs i1 i1.toNat (Rd.old h1) h4 Try.underlying44 Try.sizeOf2 rfl rfl rfl rfl (by omega) ?_
      refine TL.loadE (Rd.old h1) Try.isAgg2 i1.toNat 0 (gt_spec h4) (v := .int .i64 (gt a_1 i1)) rfl (by simp only [show Ei.sz = 1 from rfl]; omega) rfl rfl rfl ?_
      refine TL.chk fun h5 => ?_
      refine TL.ixs i1 i1.toNat (Rd.row 0 rfl) h5 Try.underlying44 Try.sizeOf2 rfl rfl rfl rfl (by omega) ?_
      refine TL.stE 0 (i1.toNat) (gt a_1 i1) (v := .int .i64 (gt a_1 i1)) rfl Try.sizeOf2 rfl rfl rfl (by have h_ := h5; omega) (by simp only [show Ei.sz = 1 from rfl]; omega) rfl rfl rfl ?_
      refine TL.done ?_
      refine TC.region ?_
      refine TL.move rfl rfl (v := .int .i64 i1) rfl ?_
      refine TL.bin .i64 i1 1 rfl rfl rfl rfl (v := .int .i64 (w64 (i1 + 1))) rfl ?_
      refine TL.assign rfl rfl (v := .int .i64 (w64 (i1 + 1))) rfl ?_
      refine TL.done ?_
      exact TC.next1 (((out1.set i1.toNat (gt a_1 i1)), (w64 (i1 + 1)))) (()) ⟨rfl, rfl, rfl, trivial⟩ [0] rfl
    · exact TC.brk1 ((out1, i1)) (()) ⟨rfl, rfl, rfl, trivial⟩ [0] rfl
  · rintro ⟨out1, i1⟩ _
    refine TC.seq ?_
    refine TC.region ?_
    refine TL.move rfl rfl (v := SV.v s2) rfl ?_
    refine TL.assign rfl rfl (v := SV.v s2) rfl ?_
    refine TL.done ?_
    exact TC.retF (Fin.body (fin1 (.inr rfl) rfl (.tmp rfl) [0] rfl ⟨s2, rfl, rfl⟩))

end Go.Proofs.Ytgljkechjkllgaa.G

/- impl.in, as a pure function. -/
set_option linter.unusedVariables false
namespace Go.Proofs.Ytgljkechjkllgaa.G
open Go Go.Sx Go.Proofs

def impl_in.f (n_1 : Int) (low1 : Int) (high1 : Int) : Option Bool := some ((decide (n_1 ≥ low1)) && (decide (n_1 ≤ high1)))

def impl_in.R (r : Bool) (v : Value) (L : List Asn) : Prop := v = .bool r ∧ L = []

set_option maxRecDepth 100000 in
set_option maxHeartbeats 4000000 in
theorem impl_in.calls (w : World) (n_1 : Int) (low1 : Int) (high1 : Int) :
    ∀ r, impl_in.f n_1 low1 high1 = some r → Calls Try.prog 56 #[.int .i64 n_1, .int .i64 low1, .int .i64 high1] w (Ret w (impl_in.R r)) := by

  refine calls_T (n := 15) (Γ := [(0, .int .i64 n_1), (1, .int .i64 low1), (2, .int .i64 high1)]) (R := impl_in.R) Try.func56 rfl rfl (Nat.le_of_ble_eq_true rfl) ⟨rfl, rfl, rfl, trivial⟩ ?_
  unfold impl_in.f
  refine TC.seq ?_
  refine TC.region ?_
  refine TL.assign rfl rfl (v := .bool false) rfl ?_
  refine TL.done ?_
  refine TC.seq ?_
  refine TC.region ?_
  refine TL.move rfl rfl (v := .int .i64 n_1) rfl ?_
  refine TL.move rfl rfl (v := .int .i64 low1) rfl ?_
  refine TL.bin .i64 n_1 low1 rfl rfl rfl rfl (v := .bool (decide (n_1 ≥ low1))) rfl ?_
  refine TL.move rfl rfl (v := .bool (decide (n_1 ≥ low1))) rfl ?_
  refine TL.cutU 4 [(14, .bool ((decide (n_1 ≥ low1)) && (decide (n_1 ≤ high1)))), (0, .int .i64 n_1), (1, .int .i64 low1), (2, .int .i64 high1), (6, .bool false), (7, .int .i64 n_1), (8, .int .i64 low1), (9, .bool (decide (n_1 ≥ low1))), (10, .bool (decide (n_1 ≥ low1)))] [] ?_ ?_
  · refine TL.cases (t := 10) (b := (decide (n_1 ≥ low1))) rfl (fun c1 => ?_) (fun c2 => ?_)
    · refine TL.move rfl rfl (v := .int .i64 n_1) rfl ?_
      refine TL.move rfl rfl (v := .int .i64 high1) rfl ?_
      refine TL.bin .i64 n_1 high1 rfl rfl rfl rfl (v := .bool (decide (n_1 ≤ high1))) rfl ?_
      refine TL.pick rfl rfl (b := true) rfl (r := .bool (decide (n_1 ≤ high1))) rfl ?_
      refine TL.done ?_
      exact TC.nrm () () ⟨(by rw [c1]; rfl), rfl, rfl, rfl, rfl, rfl, rfl, rfl, (by rw [c1]; rfl), trivial⟩ [] rfl
    · refine TL.skip rfl rfl (by decide) ?_
      refine TL.skip rfl rfl (by decide) ?_
      refine TL.skip rfl rfl (by decide) ?_
      refine TL.pick rfl rfl (b := false) rfl (r := .bool false) rfl ?_
      refine TL.done ?_
      exact TC.nrm () () ⟨(by rw [c2]; rfl), rfl, rfl, rfl, rfl, rfl, rfl, rfl, (by rw [c2]; rfl), trivial⟩ [] rfl
  · refine TL.assign rfl rfl (v := .bool ((decide (n_1 ≥ low1)) && (decide (n_1 ≤ high1)))) rfl ?_
    refine TL.done ?_
    exact TC.retF (Fin.body (fin1 (.inr rfl) rfl (.tmp rfl) [] rfl ⟨rfl, rfl⟩))

end Go.Proofs.Ytgljkechjkllgaa.G

/- slices.Index[[]int64,int64], as a pure function. -/
set_option linter.unusedVariables false
namespace Go.Proofs.Ytgljkechjkllgaa.G
open Go Go.Sx Go.Proofs

def slices_Index_int64_int64.b0 (s1 : List Int) (v_1 : Int) : Int → Option (LR Int Int) := fun x1 => (bif (decide (x1 < (s1.length : Int))) then chk x1 s1.length ((bif (v_1 == (gt s1 x1)) then some (.ret (x1)) else some (.next (w64 (x1 + 1))))) else some (.brk x1))

def slices_Index_int64_int64.f (s1 : List Int) (v_1 : Int) : Option Int := (loop (slices_Index_int64_int64.b0 s1 v_1) 0).bind (ln (fun x1 => some (-1)))

def slices_Index_int64_int64.R (r : Int) (v : Value) (L : List Asn) : Prop := v = .int .i64 r ∧ L = []

set_option maxRecDepth 100000 in
set_option maxHeartbeats 4000000 in
theorem slices_Index_int64_int64.calls (w : World) (s2 : SV) (s1 : List Int) (v_1 : Int) (h1 : Reads Ei (hp w) s2 s1) :
    ∀ r, slices_Index_int64_int64.f s1 v_1 = some r → Calls Try.prog 109 #[SV.v s2, .int .i64 v_1] w (Ret w (slices_Index_int64_int64.R r)) := by

  refine calls_T (n := 19) (Γ := [(0, SV.v s2), (1, .int .i64 v_1)]) (R := slices_Index_int64_int64.R) Try.func109 rfl rfl (Nat.le_of_ble_eq_true rfl) ⟨rfl, rfl, trivial⟩ ?_
  unfold slices_Index_int64_int64.f
  refine TC.seq ?_
  refine TC.region ?_
  refine TL.assign rfl rfl (v := .int .i64 0) rfl ?_
  refine TL.done ?_
  refine TC.seq ?_
  refine TC.seq ?_
  refine TC.region ?_
  refine TL.move rfl rfl (v := SV.v s2) rfl ?_
  refine TL.len (Rd.old h1) Try.underlying44 rfl rfl rfl ?_
  refine TL.move rfl rfl (v := .int .i64 0) rfl ?_
  refine TL.done ?_
  refine TC.loopK (σ := Int) (γ := Unit) (Γ' := (fun x1 _ => [(0, SV.v s2), (1, .int .i64 v_1), (7, .int .i64 (s1.length : Int)), (8, .int .i64 x1)])) (L' := (fun x1 _ => [])) (Γb := (fun x1 _ => [(0, SV.v s2), (1, .int .i64 v_1), (7, .int .i64 (s1.length : Int)), (8, .int .i64 x1)])) (Lb := (fun x1 _ => [])) (0) (()) ⟨rfl, rfl, rfl, rfl, trivial⟩ [] rfl ?_ ?_
  · rintro x1 _
    refine TC.seq ?_
    refine TC.region ?_
    refine TL.bin .i64 x1 (s1.length : Int) rfl rfl rfl rfl (v := .bool (decide (x1 < (s1.length : Int)))) rfl ?_
    refine TL.done ?_
    refine TC.seq ?_
    refine TC.cond (b := (decide (x1 < (s1.length : Int)))) rfl (fun c1 => ?_) (fun c2 => ?_)
    · refine TC.skip ?_
      refine TC.seq ?_
      refine TC.block (NoEx.loop rfl NoEx.body) ?_
      refine TC.seq ?_
      refine TC.region ?_
      refine TL.move rfl rfl (v := .int .i64 x1) rfl ?_
      refine TL.assign rfl rfl (v := .int .i64 x1) rfl ?_
      refine TL.done ?_
      refine TC.seq ?_
      refine TC.region ?_
      refine TL.move rfl rfl (v := .int .i64 v_1) rfl ?_
      refine TL.move rfl rfl (v := SV.v s2) rfl ?_
      refine TL.move rfl rfl (v := .int .i64 x1) rfl ?_
      refine TL.chk fun h2 => ?_
      refine TL.ixs x1 x1.toNat (Rd.old h1) h2 Try.underlying44 Try.sizeOf2 rfl rfl rfl rfl (by omega) ?_
      refine TL.loadE (Rd.old h1) Try.isAgg2 x1.toNat 0 (gt_spec h2) (v := .int .i64 (gt s1 x1)) rfl (by simp only [show Ei.sz = 1 from rfl]; omega) rfl rfl rfl ?_
      refine TL.bin .i64 v_1 (gt s1 x1) rfl rfl rfl rfl (v := .bool (v_1 == (gt s1 x1))) rfl ?_
      refine TL.done ?_
      refine TC.cond (b := (v_1 == (gt s1 x1))) rfl (fun c3 => ?_) (fun c4 => ?_)
      · refine TC.seq ?_
        refine TC.region ?_
        refine TL.move rfl rfl (v := .int .i64 x1) rfl ?_
        refine TL.assign rfl rfl (v := .int .i64 x1) rfl ?_
        refine TL.done ?_
        exact TC.retF (Fin.loop Far.ret (Fin.body (fin1 (.inr rfl) rfl (.tmp rfl) [] rfl ⟨rfl, rfl⟩)))
      · refine TC.skip ?_
        refine TC.region ?_
        refine TL.bin .i64 x1 1 rfl rfl rfl rfl (v := .int .i64 (w64 (x1 + 1))) rfl ?_
        refine TL.move rfl rfl (v := .int .i64 (w64 (x1 + 1))) rfl ?_
        refine TL.done ?_
        exact TC.next ((w64 (x1 + 1))) (()) ⟨rfl, rfl, rfl, rfl, trivial⟩ [] rfl
    · exact TC.brk (x1) (()) ⟨rfl, rfl, rfl, rfl, trivial⟩ [] rfl
  · rintro x1 _
    refine TC.seq ?_
    refine TC.region ?_
    refine TL.assign rfl rfl (v := .int .i64 (-1)) rfl ?_
    refine TL.done ?_
    exact TC.retF (Fin.body (fin1 (.inr rfl) rfl (.tmp rfl) [] rfl ⟨rfl, rfl⟩))

end Go.Proofs.Ytgljkechjkllgaa.G

/- slices.Contains[[]int64,int64], as a pure function. -/
set_option linter.unusedVariables false
namespace Go.Proofs.Ytgljkechjkllgaa.G
open Go Go.Sx Go.Proofs

def slices_Contains_int64_int64.f (s1 : List Int) (v_1 : Int) : Option Bool := (G.slices_Index_int64_int64.f s1 v_1).bind (fun r_1 => some (decide (r_1 ≥ 0)))

def slices_Contains_int64_int64.R (r : Bool) (v : Value) (L : List Asn) : Prop := v = .bool r ∧ L = []

set_option maxRecDepth 100000 in
set_option maxHeartbeats 4000000 in
theorem slices_Contains_int64_int64.calls (w : World) (s2 : SV) (s1 : List Int) (v_1 : Int) (h1 : Reads Ei (hp w) s2 s1) :
    ∀ r, slices_Contains_int64_int64.f s1 v_1 = some r → Calls Try.prog 100 #[SV.v s2, .int .i64 v_1] w (Ret w (slices_Contains_int64_int64.R r)) := by

  refine calls_T (n := 9) (Γ := [(0, SV.v s2), (1, .int .i64 v_1)]) (R := slices_Contains_int64_int64.R) Try.func100 rfl rfl (Nat.le_of_ble_eq_true rfl) ⟨rfl, rfl, trivial⟩ ?_
  unfold slices_Contains_int64_int64.f
  refine TC.seq ?_
  refine TC.region ?_
  refine TL.assign rfl rfl (v := .bool false) rfl ?_
  refine TL.done ?_
  refine TC.seq ?_
  refine TC.region ?_
  refine TL.move rfl rfl (v := SV.v s2) rfl ?_
  refine TL.move rfl rfl (v := .int .i64 v_1) rfl ?_
  refine TL.call (R := G.slices_Index_int64_int64.R) Try.call109 rfl rfl rfl (fun w hS => G.slices_Index_int64_int64.calls w s2 s1 v_1 ((Rd.old h1) w hS)) ?_
  rintro r_1 _ _ ⟨rfl, rfl⟩
  refine TL.bin .i64 r_1 0 rfl rfl rfl rfl (v := .bool (decide (r_1 ≥ 0))) rfl ?_
  refine TL.assign rfl rfl (v := .bool (decide (r_1 ≥ 0))) rfl ?_
  refine TL.done ?_
  exact TC.retF (Fin.body (fin1 (.inr rfl) rfl (.tmp rfl) [] rfl ⟨rfl, rfl⟩))

end Go.Proofs.Ytgljkechjkllgaa.G

/- impl.isPrime, as a pure function. -/
set_option linter.unusedVariables false
namespace Go.Proofs.Ytgljkechjkllgaa.G
open Go Go.Sx Go.Proofs

def impl_isPrime.f (p1 : Int) : Option Bool := (G.slices_Contains_int64_int64.f ([2, 3, 5, 7, 11, 13] : List Int) p1).bind (fun r_1 => some r_1)

def impl_isPrime.R (r : Bool) (v : Value) (L : List Asn) : Prop := v = .bool r ∧ L = []

set_option maxRecDepth 100000 in
set_option maxHeartbeats 4000000 in
theorem impl_isPrime.calls (w : World) (p1 : Int) :
    ∀ r, impl_isPrime.f p1 = some r → Calls Try.prog 71 #[.int .i64 p1] w (Ret w (impl_isPrime.R r)) := by

  refine calls_T (n := 6) (Γ := [(0, .int .i64 p1)]) (R := impl_isPrime.R) Try.func71 rfl rfl (Nat.le_of_ble_eq_true rfl) ⟨rfl, trivial⟩ ?_
  unfold impl_isPrime.f
  refine TC.seq ?_
  refine TC.region ?_
  refine TL.assign rfl rfl (v := .bool false) rfl ?_
  refine TL.done ?_
  refine TC.seq ?_
  refine TC.region ?_
  refine TL.blit Ei ([2, 3, 5, 7, 11, 13] : List Int) Try.underlying44 Try.sizeOf2 Try.zeroValue2 rfl rfl rfl [(0, .int .i64 2), (1, .int .i64 3), (2, .int .i64 5), (3, .int .i64 7), (4, .int .i64 11), (5, .int .i64 13)] rfl ⟨rfl, rfl, rfl, rfl, rfl, rfl, rfl, rfl, rfl, rfl, rfl, rfl, trivial⟩ rfl rfl fun s1 => ?_
  refine TL.move rfl rfl (v := .int .i64 p1) rfl ?_
  refine TL.call (R := G.slices_Contains_int64_int64.R) Try.call100 rfl rfl rfl (fun w hS => G.slices_Contains_int64_int64.calls w s1 ([2, 3, 5, 7, 11, 13] : List Int) p1 ((Rd.row 0 rfl) w hS)) ?_
  rintro r_1 _ _ ⟨rfl, rfl⟩
  refine TL.assign rfl rfl (v := .bool r_1) rfl ?_
  refine TL.done ?_
  exact TC.retF (Fin.body (fin1 (.inr rfl) rfl (.tmp rfl) [] rfl ⟨rfl, rfl⟩))

end Go.Proofs.Ytgljkechjkllgaa.G

/- slices.IndexFunc[[]int64,int64], as a pure function. -/
set_option linter.unusedVariables false
namespace Go.Proofs.Ytgljkechjkllgaa.G
open Go Go.Sx Go.Proofs

def slices_IndexFunc_int64_int64.b0 (s1 : List Int) (f2 : Int → Option Bool) : Int → Option (LR Int Int) := fun x1 => (bif (decide (x1 < (s1.length : Int))) then chk x1 s1.length ((f2 (gt s1 x1)).bind (fun r_1 => (bif r_1 then some (.ret (x1)) else some (.next (w64 (x1 + 1)))))) else some (.brk x1))

def slices_IndexFunc_int64_int64.f (s1 : List Int) (f2 : Int → Option Bool) : Option Int := (loop (slices_IndexFunc_int64_int64.b0 s1 f2) 0).bind (ln (fun x1 => some (-1)))

def slices_IndexFunc_int64_int64.R (r : Int) (v : Value) (L : List Asn) : Prop := v = .int .i64 r ∧ L = []

set_option maxRecDepth 100000 in
set_option maxHeartbeats 4000000 in
theorem slices_IndexFunc_int64_int64.calls (w : World) (s2 : SV) (s1 : List Int) (f1 : Nat) (fst1 : List Value) (cap1 : List Value) (f2 : Int → Option Bool) (h1 : Reads Ei (hp w) s2 s1) (hc1 : ∀ (args_ : Array Value) (w_ : World), (callFunc f1 args_).run Try.prog w_ = .ok (.enter f1 args_) w_) (hf1 : ∀ w_, Hle (hp w) (hp w_) → ∀ (x0_ : Int), ∀ r_, f2 x0_ = some r_ → Calls Try.prog f1 (fst1 ++ ([.int .i64 x0_] : List Value) ++ cap1).toArray w_ (Ret w_ (fun (v_ : Value) (L_ : List Asn) => v_ = .bool r_ ∧ L_ = []))) :
    ∀ r, slices_IndexFunc_int64_int64.f s1 f2 = some r → Calls Try.prog 101 #[SV.v s2, .func (.func f1) fst1.toArray cap1.toArray] w (Ret w (slices_IndexFunc_int64_int64.R r)) := by

  refine calls_T (n := 19) (Γ := [(0, SV.v s2), (1, .func (.func f1) fst1.toArray cap1.toArray)]) (R := slices_IndexFunc_int64_int64.R) Try.func101 rfl rfl (Nat.le_of_ble_eq_true rfl) ⟨rfl, rfl, trivial⟩ ?_
  unfold slices_IndexFunc_int64_int64.f
  refine TC.seq ?_
  refine TC.region ?_
  refine TL.assign rfl rfl (v := .int .i64 0) rfl ?_
  refine TL.done ?_
  refine TC.seq ?_
  refine TC.seq ?_
  refine TC.region ?_
  refine TL.move rfl rfl (v := SV.v s2) rfl ?_
  refine TL.len (Rd.old h1) Try.underlying44 rfl rfl rfl ?_
  refine TL.move rfl rfl (v := .int .i64 0) rfl ?_
  refine TL.done ?_
  refine TC.loopK (σ := Int) (γ := Unit) (Γ' := (fun x1 _ => [(0, SV.v s2), (1, .func (.func f1) fst1.toArray cap1.toArray), (7, .int .i64 (s1.length : Int)), (8, .int .i64 x1)])) (L' := (fun x1 _ => [])) (Γb := (fun x1 _ => [(0, SV.v s2), (1, .func (.func f1) fst1.toArray cap1.toArray), (7, .int .i64 (s1.length : Int)), (8, .int .i64 x1)])) (Lb := (fun x1 _ => [])) (0) (()) ⟨rfl, rfl, rfl, rfl, trivial⟩ [] rfl ?_ ?_
  · rintro x1 _
    refine TC.seq ?_
    refine TC.region ?_
    refine TL.bin .i64 x1 (s1.length : Int) rfl rfl rfl rfl (v := .bool (decide (x1 < (s1.length : Int)))) rfl ?_
    refine TL.done ?_
    refine TC.seq ?_
    refine TC.cond (b := (decide (x1 < (s1.length : Int)))) rfl (fun c1 => ?_) (fun c2 => ?_)
    · refine TC.skip ?_
      refine TC.seq ?_
      refine TC.block (NoEx.loop rfl NoEx.body) ?_
      refine TC.seq ?_
      refine TC.region ?_
      refine TL.move rfl rfl (v := .int .i64 x1) rfl ?_
      refine TL.assign rfl rfl (v := .int .i64 x1) rfl ?_
      refine TL.done ?_
      refine TC.seq ?_
      refine TC.region ?_
      refine TL.move rfl rfl (v := .func (.func f1) fst1.toArray cap1.toArray) rfl ?_
      refine TL.move rfl rfl (v := SV.v s2) rfl ?_
      refine TL.move rfl rfl (v := .int .i64 x1) rfl ?_
      refine TL.chk fun h2 => ?_
      refine TL.ixs x1 x1.toNat (Rd.old h1) h2 Try.underlying44 Try.sizeOf2 rfl rfl rfl rfl (by omega) ?_
      refine TL.loadE (Rd.old h1) Try.isAgg2 x1.toNat 0 (gt_spec h2) (v := .int .i64 (gt s1 x1)) rfl (by simp only [show Ei.sz = 1 from rfl]; omega) rfl rfl rfl ?_
      refine TL.callv (R := (fun r_ => (fun (v_ : Value) (L_ : List Asn) => v_ = .bool r_ ∧ L_ = []))) (vs := [.int .i64 (gt s1 x1)]) hc1 rfl rfl rfl rfl (fun w hS => hf1 w hS.iw (gt s1 x1)) ?_
      rintro r_1 _ _ ⟨rfl, rfl⟩
      refine TL.done ?_
      refine TC.cond (b := r_1) rfl (fun c3 => ?_) (fun c4 => ?_)
      · refine TC.seq ?_
        refine TC.region ?_
        refine TL.move rfl rfl (v := .int .i64 x1) rfl ?_
        refine TL.assign rfl rfl (v := .int .i64 x1) rfl ?_
        refine TL.done ?_
        exact TC.retF (Fin.loop Far.ret (Fin.body (fin1 (.inr rfl) rfl (.tmp rfl) [] rfl ⟨rfl, rfl⟩)))
      · refine TC.skip ?_
        refine TC.region ?_
        refine TL.bin .i64 x1 1 rfl rfl rfl rfl (v := .int .i64 (w64 (x1 + 1))) rfl ?_
        refine TL.move rfl rfl (v := .int .i64 (w64 (x1 + 1))) rfl ?_
        refine TL.done ?_
        exact TC.next ((w64 (x1 + 1))) (()) ⟨rfl, rfl, rfl, rfl, trivial⟩ [] rfl
    · exact TC.brk (x1) (()) ⟨rfl, rfl, rfl, rfl, trivial⟩ [] rfl
  · rintro x1 _
    refine TC.seq ?_
    refine TC.region ?_
    refine TL.assign rfl rfl (v := .int .i64 (-1)) rfl ?_
    refine TL.done ?_
    exact TC.retF (Fin.body (fin1 (.inr rfl) rfl (.tmp rfl) [] rfl ⟨rfl, rfl⟩))

end Go.Proofs.Ytgljkechjkllgaa.G

/- slices.ContainsFunc[[]int64,int64], as a pure function. -/
set_option linter.unusedVariables false
namespace Go.Proofs.Ytgljkechjkllgaa.G
open Go Go.Sx Go.Proofs

def slices_ContainsFunc_int64_int64.f (s1 : List Int) (f2 : Int → Option Bool) : Option Bool := (G.slices_IndexFunc_int64_int64.f s1 f2).bind (fun r_1 => some (decide (r_1 ≥ 0)))

def slices_ContainsFunc_int64_int64.R (r : Bool) (v : Value) (L : List Asn) : Prop := v = .bool r ∧ L = []

set_option maxRecDepth 100000 in
set_option maxHeartbeats 4000000 in
theorem slices_ContainsFunc_int64_int64.calls (w : World) (s2 : SV) (s1 : List Int) (f1 : Nat) (fst1 : List Value) (cap1 : List Value) (f2 : Int → Option Bool) (h1 : Reads Ei (hp w) s2 s1) (hc1 : ∀ (args_ : Array Value) (w_ : World), (callFunc f1 args_).run Try.prog w_ = .ok (.enter f1 args_) w_) (hf1 : ∀ w_, Hle (hp w) (hp w_) → ∀ (x0_ : Int), ∀ r_, f2 x0_ = some r_ → Calls Try.prog f1 (fst1 ++ ([.int .i64 x0_] : List Value) ++ cap1).toArray w_ (Ret w_ (fun (v_ : Value) (L_ : List Asn) => v_ = .bool r_ ∧ L_ = []))) :
    ∀ r, slices_ContainsFunc_int64_int64.f s1 f2 = some r → Calls Try.prog 72 #[SV.v s2, .func (.func f1) fst1.toArray cap1.toArray] w (Ret w (slices_ContainsFunc_int64_int64.R r)) := by

  refine calls_T (n := 9) (Γ := [(0, SV.v s2), (1, .func (.func f1) fst1.toArray cap1.toArray)]) (R := slices_ContainsFunc_int64_int64.R) Try.func72 rfl rfl (Nat.le_of_ble_eq_true rfl) ⟨rfl, rfl, trivial⟩ ?_
  unfold slices_ContainsFunc_int64_int64.f
  refine TC.seq ?_
  refine TC.region ?_
  refine TL.assign rfl rfl (v := .bool false) rfl ?_
  refine TL.done ?_
  refine TC.seq ?_
  refine TC.region ?_
  refine TL.move rfl rfl (v := SV.v s2) rfl ?_
  refine TL.move rfl rfl (v := .func (.func f1) fst1.toArray cap1.toArray) rfl ?_
  refine TL.call (R := G.slices_IndexFunc_int64_int64.R) Try.call101 rfl rfl rfl (fun w hS => G.slices_IndexFunc_int64_int64.calls w s2 s1 f1 fst1 cap1 f2 ((Rd.old h1) w hS) hc1 (fun w_ hle_ => hf1 w_ (hS.iw.trans hle_))) ?_
  rintro r_1 _ _ ⟨rfl, rfl⟩
  refine TL.bin .i64 r_1 0 rfl rfl rfl rfl (v := .bool (decide (r_1 ≥ 0))) rfl ?_
  refine TL.assign rfl rfl (v := .bool (decide (r_1 ≥ 0))) rfl ?_
  refine TL.done ?_
  exact TC.retF (Fin.body (fin1 (.inr rfl) rfl (.tmp rfl) [] rfl ⟨rfl, rfl⟩))

end Go.Proofs.Ytgljkechjkllgaa.G

/- impl.ProductOfRoots$1, as a pure function. -/
set_option linter.unusedVariables false
namespace Go.Proofs.Ytgljkechjkllgaa.G
open Go Go.Sx Go.Proofs

def impl_ProductOfRoots_1.f (r_1 : Int) (c1 : Int) : Option Bool := (G.impl_in.f r_1 0 (w64 (c1 - 1))).bind (fun r_2 => some (!r_2))

def impl_ProductOfRoots_1.R (r : Bool) (v : Value) (L : List Asn) : Prop := v = .bool r ∧ L = []

set_option maxRecDepth 100000 in
set_option maxHeartbeats 4000000 in
theorem impl_ProductOfRoots_1.calls (w : World) (r_1 : Int) (b_1 : Nat) (c1 : Int) (h1 : At (hp w) b_1 [.one (.int .i64 c1)]) :
    ∀ r, impl_ProductOfRoots_1.f r_1 c1 = some r → Calls Try.prog 73 #[.int .i64 r_1, bp b_1 0] w (Ret w (impl_ProductOfRoots_1.R r)) := by

  refine calls_T (n := 9) (Γ := [(0, .int .i64 r_1), (1, bp b_1 0)]) (R := impl_ProductOfRoots_1.R) Try.func73 rfl rfl (Nat.le_of_ble_eq_true rfl) ⟨rfl, rfl, trivial⟩ ?_
  unfold impl_ProductOfRoots_1.f
  refine TC.seq ?_
  refine TC.region ?_
  refine TL.assign rfl rfl (v := .bool false) rfl ?_
  refine TL.done ?_
  refine TC.seq ?_
  refine TC.region ?_
  refine TL.move rfl rfl (v := .int .i64 r_1) rfl ?_
  refine TL.load1 0 (Src.at h1) Try.isAgg2 rfl rfl rfl rfl rfl ?_
  refine TL.bin .i64 c1 1 rfl rfl rfl rfl (v := .int .i64 (w64 (c1 - 1))) rfl ?_
  refine TL.call (R := G.impl_in.R) Try.call56 rfl rfl rfl (fun w hS => G.impl_in.calls w r_1 0 (w64 (c1 - 1))) ?_
  rintro r_2 _ _ ⟨rfl, rfl⟩
  refine TL.not r_2 rfl rfl rfl ?_
  refine TL.assign rfl rfl (v := .bool (!r_2)) rfl ?_
  refine TL.done ?_
  exact TC.retF (Fin.body (fin1 (.inr rfl) rfl (.tmp rfl) [] rfl ⟨rfl, rfl⟩))

end Go.Proofs.Ytgljkechjkllgaa.G
