/- Functions of the program, as pure functions. -/
import Derived.Test.YtiiljfpbcanphaaSy2
import Derived.Test.YtiiljfpbcanphaaProg
/- spec.l01In, as a pure function. -/
set_option linter.unusedVariables false
namespace Go.Proofs.Ytiiljfpbcanphaa.G
open Go Go.Sx Go.Proofs

def spec_l01In.f (n_1 : Int) (low1 : Int) (high1 : Int) : Option Bool := some ((decide (n_1 ≥ low1)) && (decide (n_1 ≤ high1)))

def spec_l01In.R (r : Bool) (v : Value) (L : List Asn) : Prop := v = .bool r ∧ L = []

set_option maxRecDepth 100000 in
set_option maxHeartbeats 4000000 in
theorem spec_l01In.calls (w : World) (n_1 : Int) (low1 : Int) (high1 : Int) :
    ∀ r, spec_l01In.f n_1 low1 high1 = some r → Calls Try.prog 69 #[.int .i64 n_1, .int .i64 low1, .int .i64 high1] w (Ret w (spec_l01In.R r)) := by

  refine calls_T (n := 15) (Γ := [(0, .int .i64 n_1), (1, .int .i64 low1), (2, .int .i64 high1)]) (R := spec_l01In.R) Try.func69 rfl rfl (Nat.le_of_ble_eq_true rfl) ⟨rfl, rfl, rfl, trivial⟩ ?_
  unfold spec_l01In.f
  refine TC.seq ?_
  refine TC.region ?_
  refine TL.assign rfl rfl (v := .bool false) rfl ?_
  refine TL.done ?_
  refine TC.seq ?_
  refine TC.region ?_
  refine TL.move rfl rfl (v := .int .i64 n_1) rfl ?_
  refine TL.move rfl rfl (v := .int .i64 low1) rfl ?_
  refine TL.bin .i64 n_1 low1 rfl rfl rfl rfl (v := .bool (decide (n_1 ≥ low1))) rfl ?_
  refine TL.move rfl rfl (v := .bool (decide (n_1 ≥ low1))) rfl ?_
  refine TL.cutU 4 [(14, .bool ((decide (n_1 ≥ low1)) && (decide (n_1 ≤ high1)))), (0, .int .i64 n_1), (1, .int .i64 low1), (2, .int .i64 high1), (6, .bool false), (7, .int .i64 n_1), (8, .int .i64 low1), (9, .bool (decide (n_1 ≥ low1))), (10, .bool (decide (n_1 ≥ low1)))] [] ?_ ?_
  · refine TL.cases (t := 10) (b := (decide (n_1 ≥ low1))) rfl (fun c1 => ?_) (fun c2 => ?_)
    · refine TL.move rfl rfl (v := .int .i64 n_1) rfl ?_
      refine TL.move rfl rfl (v := .int .i64 high1) rfl ?_
      refine TL.bin .i64 n_1 high1 rfl rfl rfl rfl (v := .bool (decide (n_1 ≤ high1))) rfl ?_
      refine TL.pick rfl rfl (b := true) rfl (r := .bool (decide (n_1 ≤ high1))) rfl ?_
      refine TL.done ?_
      exact TC.nrm () () ⟨(by rw [c1]; rfl), rfl, rfl, rfl, rfl, rfl, rfl, rfl, (by rw [c1]; rfl), trivial⟩ [] (by kernel_rfl)
    · refine TL.skip rfl rfl (by decide) ?_
      refine TL.skip rfl rfl (by decide) ?_
      refine TL.skip rfl rfl (by decide) ?_
      refine TL.pick rfl rfl (b := false) rfl (r := .bool false) rfl ?_
      refine TL.done ?_
      exact TC.nrm () () ⟨(by rw [c2]; rfl), rfl, rfl, rfl, rfl, rfl, rfl, rfl, (by rw [c2]; rfl), trivial⟩ [] (by kernel_rfl)
  · refine TL.assign rfl rfl (v := .bool ((decide (n_1 ≥ low1)) && (decide (n_1 ≤ high1)))) rfl ?_
    refine TL.done ?_
    exact TC.retF (Fin.body (fin1 (.inr rfl) rfl (.tmp rfl) [] rfl ⟨rfl, rfl⟩))

end Go.Proofs.Ytiiljfpbcanphaa.G

/- spec.l01Prime, as a pure function. -/
set_option linter.unusedVariables false
namespace Go.Proofs.Ytiiljfpbcanphaa.G
open Go Go.Sx Go.Proofs

def spec_l01Prime.f (p1 : Int) : Option Bool := some ((((((p1 == 2) || (p1 == 3)) || (p1 == 5)) || (p1 == 7)) || (p1 == 11)) || (p1 == 13))

def spec_l01Prime.R (r : Bool) (v : Value) (L : List Asn) : Prop := v = .bool r ∧ L = []

set_option maxRecDepth 100000 in
set_option maxHeartbeats 4000000 in
theorem spec_l01Prime.calls (w : World) (p1 : Int) :
    ∀ r, spec_l01Prime.f p1 = some r → Calls Try.prog 84 #[.int .i64 p1] w (Ret w (spec_l01Prime.R r)) := by

  refine calls_T (n := 25) (Γ := [(0, .int .i64 p1)]) (R := spec_l01Prime.R) Try.func84 rfl rfl (Nat.le_of_ble_eq_true rfl) ⟨rfl, trivial⟩ ?_
  unfold spec_l01Prime.f
  refine TC.seq ?_
  refine TC.region ?_
  refine TL.assign rfl rfl (v := .bool false) rfl ?_
  refine TL.done ?_
  refine TC.seq ?_
  refine TC.region ?_
  refine TL.move rfl rfl (v := .int .i64 p1) rfl ?_
  refine TL.bin .i64 p1 2 rfl rfl rfl rfl (v := .bool (p1 == 2)) rfl ?_
  refine TL.move rfl rfl (v := .bool (p1 == 2)) rfl ?_
  refine TL.cutU 3 [(8, .bool ((p1 == 2) || (p1 == 3))), (0, .int .i64 p1), (2, .bool false), (3, .int .i64 p1), (4, .bool (p1 == 2)), (5, .bool (p1 == 2))] [] ?_ ?_
  · refine TL.cases (t := 5) (b := (p1 == 2)) rfl (fun c1 => ?_) (fun c2 => ?_)
    · refine TL.skip rfl rfl (by decide) ?_
      refine TL.skip rfl rfl (by decide) ?_
      refine TL.pick rfl rfl (b := true) rfl (r := .bool true) rfl ?_
      refine TL.done ?_
      exact TC.nrm () () ⟨(by rw [c1]; rfl), rfl, rfl, rfl, rfl, (by rw [c1]; rfl), trivial⟩ [] (by kernel_rfl)
    · refine TL.move rfl rfl (v := .int .i64 p1) rfl ?_
      refine TL.bin .i64 p1 3 rfl rfl rfl rfl (v := .bool (p1 == 3)) rfl ?_
      refine TL.pick rfl rfl (b := false) rfl (r := .bool (p1 == 3)) rfl ?_
      refine TL.done ?_
      exact TC.nrm () () ⟨(by rw [c2]; rfl), rfl, rfl, rfl, rfl, (by rw [c2]; rfl), trivial⟩ [] (by kernel_rfl)
  · refine TL.move rfl rfl (v := .bool ((p1 == 2) || (p1 == 3))) rfl ?_
    refine TL.cutU 3 [(12, .bool (((p1 == 2) || (p1 == 3)) || (p1 == 5))), (0, .int .i64 p1), (2, .bool false), (3, .int .i64 p1), (4, .bool (p1 == 2)), (5, .bool (p1 == 2)), (8, .bool ((p1 == 2) || (p1 == 3))), (9, .bool ((p1 == 2) || (p1 == 3)))] [] ?_ ?_
    · refine TL.cases (t := 9) (b := ((p1 == 2) || (p1 == 3))) rfl (fun c3 => ?_) (fun c4 => ?_)
      · refine TL.skip rfl rfl (by decide) ?_
        refine TL.skip rfl rfl (by decide) ?_
        refine TL.pick rfl rfl (b := true) rfl (r := .bool true) rfl ?_
        refine TL.done ?_
        exact TC.nrm () () ⟨(by rw [c3]; rfl), rfl, rfl, rfl, rfl, rfl, rfl, (by rw [c3]; rfl), trivial⟩ [] (by kernel_rfl)
      · refine TL.move rfl rfl (v := .int .i64 p1) rfl ?_
        refine TL.bin .i64 p1 5 rfl rfl rfl rfl (v := .bool (p1 == 5)) rfl ?_
        refine TL.pick rfl rfl (b := false) rfl (r := .bool (p1 == 5)) rfl ?_
        refine TL.done ?_
        exact TC.nrm () () ⟨(by rw [c4]; rfl), rfl, rfl, rfl, rfl, rfl, rfl, (by rw [c4]; rfl), trivial⟩ [] (by kernel_rfl)
    · refine TL.move rfl rfl (v := .bool (((p1 == 2) || (p1 == 3)) || (p1 == 5))) rfl ?_
      refine TL.cutU 3 [(16, .bool ((((p1 == 2) || (p1 == 3)) || (p1 == 5)) || (p1 == 7))), (0, .int .i64 p1), (2, .bool false), (3, .int .i64 p1), (4, .bool (p1 == 2)), (5, .bool (p1 == 2)), (8, .bool ((p1 == 2) || (p1 == 3))), (9, .bool ((p1 == 2) || (p1 == 3))), (12, .bool (((p1 == 2) || (p1 == 3)) || (p1 == 5))), (13, .bool (((p1 == 2) || (p1 == 3)) || (p1 == 5)))] [] ?_ ?_
      · refine TL.cases (t := 13) (b := (((p1 == 2) || (p1 == 3)) || (p1 == 5))) rfl (fun c5 => ?_) (fun c6 => ?_)
        · refine TL.skip rfl rfl (by decide) ?_
          refine TL.skip rfl rfl (by decide) ?_
          refine TL.pick rfl rfl (b := true) rfl (r := .bool true) rfl ?_
          refine TL.done ?_
          exact TC.nrm () () ⟨(by rw [c5]; rfl), rfl, rfl, rfl, rfl, rfl, rfl, rfl, rfl, (by rw [c5]; rfl), trivial⟩ [] (by kernel_rfl)
        · refine TL.move rfl rfl (v := .int .i64 p1) rfl ?_
          refine TL.bin .i64 p1 7 rfl rfl rfl rfl (v := .bool (p1 == 7)) rfl ?_
          refine TL.pick rfl rfl (b := false) rfl (r := .bool (p1 == 7)) rfl ?_
          refine TL.done ?_
          exact TC.nrm () () ⟨(by rw [c6]; rfl), rfl, rfl, rfl, rfl, rfl, rfl, rfl, rfl, (by rw [c6]; rfl), trivial⟩ [] (by kernel_rfl)
      · refine TL.move rfl rfl (v := .bool ((((p1 == 2) || (p1 == 3)) || (p1 == 5)) || (p1 == 7))) rfl ?_
        refine TL.cutU 3 [(20, .bool (((((p1 == 2) || (p1 == 3)) || (p1 == 5)) || (p1 == 7)) || (p1 == 11))), (0, .int .i64 p1), (2, .bool false), (3, .int .i64 p1), (4, .bool (p1 == 2)), (5, .bool (p1 == 2)), (8, .bool ((p1 == 2) || (p1 == 3))), (9, .bool ((p1 == 2) || (p1 == 3))), (12, .bool (((p1 == 2) || (p1 == 3)) || (p1 == 5))), (13, .bool (((p1 == 2) || (p1 == 3)) || (p1 == 5))), (16, .bool ((((p1 == 2) || (p1 == 3)) || (p1 == 5)) || (p1 == 7))), (17, .bool ((((p1 == 2) || (p1 == 3)) || (p1 == 5)) || (p1 == 7)))] [] ?_ ?_
        · refine TL.cases (t := 17) (b := ((((p1 == 2) || (p1 == 3)) || (p1 == 5)) || (p1 == 7))) rfl (fun c7 => ?_) (fun c8 => ?_)
          · refine TL.skip rfl rfl (by decide) ?_
            refine TL.skip rfl rfl (by decide) ?_
            refine TL.pick rfl rfl (b := true) rfl (r := .bool true) rfl ?_
            refine TL.done ?_
            exact TC.nrm () () ⟨(by rw [c7]; rfl), rfl, rfl, rfl, rfl, rfl, rfl, rfl, rfl, rfl, rfl, (by rw [c7]; rfl), trivial⟩ [] (by kernel_rfl)
          · refine TL.move rfl rfl (v := .int .i64 p1) rfl ?_
            refine TL.bin .i64 p1 11 rfl rfl rfl rfl (v := .bool (p1 == 11)) rfl ?_
            refine TL.pick rfl rfl (b := false) rfl (r := .bool (p1 == 11)) rfl ?_
            refine TL.done ?_
            exact TC.nrm () () ⟨(by rw [c8]; rfl), rfl, rfl, rfl, rfl, rfl, rfl, rfl, rfl, rfl, rfl, (by rw [c8]; rfl), trivial⟩ [] (by kernel_rfl)
        · refine TL.move rfl rfl (v := .bool (((((p1 == 2) || (p1 == 3)) || (p1 == 5)) || (p1 == 7)) || (p1 == 11))) rfl ?_
          refine TL.cutU 3 [(24, .bool ((((((p1 == 2) || (p1 == 3)) || (p1 == 5)) || (p1 == 7)) || (p1 == 11)) || (p1 == 13))), (0, .int .i64 p1), (2, .bool false), (3, .int .i64 p1), (4, .bool (p1 == 2)), (5, .bool (p1 == 2)), (8, .bool ((p1 == 2) || (p1 == 3))), (9, .bool ((p1 == 2) || (p1 == 3))), (12, .bool (((p1 == 2) || (p1 == 3)) || (p1 == 5))), (13, .bool (((p1 == 2) || (p1 == 3)) || (p1 == 5))), (16, .bool ((((p1 == 2) || (p1 == 3)) || (p1 == 5)) || (p1 == 7))), (17, .bool ((((p1 == 2) || (p1 == 3)) || (p1 == 5)) || (p1 == 7))), (20, .bool (((((p1 == 2) || (p1 == 3)) || (p1 == 5)) || (p1 == 7)) || (p1 == 11))), (21, .bool (((((p1 == 2) || (p1 == 3)) || (p1 == 5)) || (p1 == 7)) || (p1 == 11)))] [] ?_ ?_
          · refine TL.cases (t := 21) (b := (((((p1 == 2) || (p1 == 3)) || (p1 == 5)) || (p1 == 7)) || (p1 == 11))) rfl (fun c9 => ?_) (fun c10 => ?_)
            · refine TL.skip rfl rfl (by decide) ?_
              refine TL.skip rfl rfl (by decide) ?_
              refine TL.pick rfl rfl (b := true) rfl (r := .bool true) rfl ?_
              refine TL.done ?_
              exact TC.nrm () () ⟨(by rw [c9]; rfl), rfl, rfl, rfl, rfl, rfl, rfl, rfl, rfl, rfl, rfl, rfl, rfl, (by rw [c9]; rfl), trivial⟩ [] (by kernel_rfl)
            · refine TL.move rfl rfl (v := .int .i64 p1) rfl ?_
              refine TL.bin .i64 p1 13 rfl rfl rfl rfl (v := .bool (p1 == 13)) rfl ?_
              refine TL.pick rfl rfl (b := false) rfl (r := .bool (p1 == 13)) rfl ?_
              refine TL.done ?_
              exact TC.nrm () () ⟨(by rw [c10]; rfl), rfl, rfl, rfl, rfl, rfl, rfl, rfl, rfl, rfl, rfl, rfl, rfl, (by rw [c10]; rfl), trivial⟩ [] (by kernel_rfl)
          · refine TL.assign rfl rfl (v := .bool ((((((p1 == 2) || (p1 == 3)) || (p1 == 5)) || (p1 == 7)) || (p1 == 11)) || (p1 == 13))) rfl ?_
            refine TL.done ?_
            exact TC.retF (Fin.body (fin1 (.inr rfl) rfl (.tmp rfl) [] rfl ⟨rfl, rfl⟩))

end Go.Proofs.Ytiiljfpbcanphaa.G

/- spec.l01Small, as a pure function. -/
set_option linter.unusedVariables false
namespace Go.Proofs.Ytiiljfpbcanphaa.G
open Go Go.Sx Go.Proofs

def spec_l01Small.b0 (v_1 : Nat → UInt8) (p1 : Int) (n_1 : Int) : Int → Option (LR Int Bool) := fun i1 => (bif (decide (i1 < 6)) then chk i1 6 ((bif ((decide (((v_1 i1.toNat).toNat : Int) ≥ p1)) || ((decide (i1 ≥ n_1)) && (((v_1 i1.toNat).toNat : Int) != ((0 : UInt8).toNat : Int)))) then some (.ret (false)) else some (.next (w64 (i1 + 1))))) else some (.brk i1))

def spec_l01Small.f (p1 : Int) (n_1 : Int) (v_1 : Nat → UInt8) : Option Bool := (loop (spec_l01Small.b0 v_1 p1 n_1) 0).bind (ln (fun i1 => some true))

def spec_l01Small.R (r : Bool) (v : Value) (L : List Asn) : Prop := v = .bool r ∧ L = []

set_option maxRecDepth 100000 in
set_option maxHeartbeats 4000000 in
theorem spec_l01Small.calls (w : World) (p1 : Int) (n_1 : Int) (v_1 : Nat → UInt8) :
    ∀ r, spec_l01Small.f p1 n_1 v_1 = some r → Calls Try.prog 180 #[.int .i64 p1, .int .i64 n_1, sval [.arr 6 (enf u8v v_1)]] w (Ret w (spec_l01Small.R r)) := by

  refine calls_T (n := 29) (Γ := [(0, .int .i64 p1), (1, .int .i64 n_1), (2, sval [.arr 6 (enf u8v v_1)])]) (R := spec_l01Small.R) Try.func180 rfl rfl (Nat.le_of_ble_eq_true rfl) ⟨rfl, rfl, rfl, trivial⟩ ?_
  unfold spec_l01Small.f
  refine TC.seq ?_
  refine TC.region ?_
  refine TL.box [.arr 6 (enf u8v v_1)] rfl rfl rfl rfl fun b_1 => ?_
  refine TL.assign rfl rfl (v := .bool false) rfl ?_
  refine TL.done ?_
  refine TC.seq ?_
  refine TC.seq ?_
  refine TC.region ?_
  refine TL.assign rfl rfl (v := .int .i64 0) rfl ?_
  refine TL.done ?_
  refine TC.loopK (σ := Int) (γ := Unit) (Γ' := (fun i1 _ => [(0, .int .i64 p1), (1, .int .i64 n_1), (5, bp b_1 0), (7, .int .i64 i1)])) (L' := (fun i1 _ => [box b_1 41 [.arr 6 (enf u8v v_1)]])) (Γb := (fun i1 _ => [(0, .int .i64 p1), (1, .int .i64 n_1), (5, bp b_1 0), (7, .int .i64 i1)])) (Lb := (fun i1 _ => [box b_1 41 [.arr 6 (enf u8v v_1)]])) (0) (()) ⟨rfl, rfl, rfl, rfl, trivial⟩ [0] rfl ?_ ?_
  · rintro i1 _
    refine TC.seq ?_
    refine TC.seq ?_
    refine TC.region ?_
    refine TL.move rfl rfl (v := .int .i64 i1) rfl ?_
    refine TL.bin .i64 i1 6 rfl rfl rfl rfl (v := .bool (decide (i1 < 6))) rfl ?_
    refine TL.done ?_
    refine TC.cond (b := (decide (i1 < 6))) rfl (fun c1 => ?_) (fun c2 => ?_)
    · refine TC.skip ?_
      refine TC.seq ?_
      refine TC.block (NoEx.loop rfl NoEx.body) ?_
      refine TC.seq ?_
      refine TC.region ?_
      refine TL.move rfl rfl (v := .int .i64 i1) rfl ?_
      refine TL.chk fun h1 => ?_
      refine TL.ixa i1 i1.toNat h1 Try.underlying41 Try.sizeOf5 rfl rfl rfl rfl (by omega) ?_
      refine TL.loadA i1.toNat 0 (Src.box 0 rfl) Try.isAgg5 rfl (by omega) (v := u8v (v_1 i1.toNat)) rfl (st := 0) rfl (by omega) rfl rfl rfl ?_
      refine TL.conv .u8 .i64 ((v_1 i1.toNat).toNat : Int) _ rfl rfl rfl Try.underlying5 Try.underlying2 (v := .int .i64 ((v_1 i1.toNat).toNat : Int)) (conv_u8_i64 _) ?_
      refine TL.move rfl rfl (v := .int .i64 p1) rfl ?_
      refine TL.bin .i64 ((v_1 i1.toNat).toNat : Int) p1 rfl rfl rfl rfl (v := .bool (decide (((v_1 i1.toNat).toNat : Int) ≥ p1))) rfl ?_
      refine TL.move rfl rfl (v := .bool (decide (((v_1 i1.toNat).toNat : Int) ≥ p1))) rfl ?_
      refine TL.cutU 10 [(28, .bool ((decide (((v_1 i1.toNat).toNat : Int) ≥ p1)) || ((decide (i1 ≥ n_1)) && (((v_1 i1.toNat).toNat : Int) != ((0 : UInt8).toNat : Int))))), (0, .int .i64 p1), (1, .int .i64 n_1), (5, bp b_1 0), (7, .int .i64 i1), (8, .int .i64 i1), (9, .bool (decide (i1 < 6))), (12, .int .i64 i1), (13, bp b_1 i1.toNat), (14, u8v (v_1 i1.toNat)), (15, .int .i64 ((v_1 i1.toNat).toNat : Int)), (16, .int .i64 p1), (17, .bool (decide (((v_1 i1.toNat).toNat : Int) ≥ p1))), (18, .bool (decide (((v_1 i1.toNat).toNat : Int) ≥ p1)))] [box b_1 41 [.arr 6 (enf u8v v_1)]] ?_ ?_
      · refine TL.cases (t := 18) (b := (decide (((v_1 i1.toNat).toNat : Int) ≥ p1))) rfl (fun c3 => ?_) (fun c4 => ?_)
        · refine TL.skip rfl rfl (by decide) ?_
          refine TL.skip rfl rfl (by decide) ?_
          refine TL.skip rfl rfl (by decide) ?_
          refine TL.skip rfl rfl (by decide) ?_
          refine TL.skip rfl rfl (by decide) ?_
          refine TL.skip rfl rfl (by decide) ?_
          refine TL.skip rfl rfl (by decide) ?_
          refine TL.skip rfl rfl (by decide) ?_
          refine TL.skip rfl rfl (by decide) ?_
          refine TL.pick rfl rfl (b := true) rfl (r := .bool true) rfl ?_
          refine TL.done ?_
          exact TC.nrm () () ⟨(by rw [c3]; rfl), rfl, rfl, rfl, rfl, rfl, rfl, rfl, rfl, rfl, rfl, rfl, rfl, (by rw [c3]; rfl), trivial⟩ [0] (by kernel_rfl)
        · refine TL.move rfl rfl (v := .int .i64 i1) rfl ?_
          refine TL.move rfl rfl (v := .int .i64 n_1) rfl ?_
          refine TL.bin .i64 i1 n_1 rfl rfl rfl rfl (v := .bool (decide (i1 ≥ n_1))) rfl ?_
          refine TL.move rfl rfl (v := .bool (decide (i1 ≥ n_1))) rfl ?_
          refine TL.cutU 5 [(27, .bool ((decide (i1 ≥ n_1)) && (((v_1 i1.toNat).toNat : Int) != ((0 : UInt8).toNat : Int)))), (0, .int .i64 p1), (1, .int .i64 n_1), (5, bp b_1 0), (7, .int .i64 i1), (8, .int .i64 i1), (9, .bool (decide (i1 < 6))), (12, .int .i64 i1), (13, bp b_1 i1.toNat), (14, u8v (v_1 i1.toNat)), (15, .int .i64 ((v_1 i1.toNat).toNat : Int)), (16, .int .i64 p1), (17, .bool (decide (((v_1 i1.toNat).toNat : Int) ≥ p1))), (18, .bool false), (19, .int .i64 i1), (20, .int .i64 n_1), (21, .bool (decide (i1 ≥ n_1))), (22, .bool (decide (i1 ≥ n_1)))] [box b_1 41 [.arr 6 (enf u8v v_1)]] ?_ ?_
          · refine TL.cases (t := 22) (b := (decide (i1 ≥ n_1))) rfl (fun c5 => ?_) (fun c6 => ?_)
            · refine TL.move rfl rfl (v := .int .i64 i1) rfl ?_
              refine TL.ixa i1 i1.toNat h1 Try.underlying41 Try.sizeOf5 rfl rfl rfl rfl (by omega) ?_
              refine TL.loadA i1.toNat 0 (Src.box 0 rfl) Try.isAgg5 rfl (by omega) (v := u8v (v_1 i1.toNat)) rfl (st := 0) rfl (by omega) rfl rfl rfl ?_
              refine TL.bin .u8 ((v_1 i1.toNat).toNat : Int) ((0 : UInt8).toNat : Int) rfl rfl rfl rfl (v := .bool (((v_1 i1.toNat).toNat : Int) != ((0 : UInt8).toNat : Int))) rfl ?_
              refine TL.pick rfl rfl (b := true) rfl (r := .bool (((v_1 i1.toNat).toNat : Int) != ((0 : UInt8).toNat : Int))) rfl ?_
              refine TL.done ?_
              exact TC.nrm () () ⟨(by rw [c5]; rfl), rfl, rfl, rfl, rfl, rfl, rfl, rfl, rfl, rfl, rfl, rfl, rfl, rfl, rfl, rfl, rfl, (by rw [c5]; rfl), trivial⟩ [0] (by kernel_rfl)
            · refine TL.skip rfl rfl (by decide) ?_
              refine TL.skip rfl rfl (by decide) ?_
              refine TL.skip rfl rfl (by decide) ?_
              refine TL.skip rfl rfl (by decide) ?_
              refine TL.pick rfl rfl (b := false) rfl (r := .bool false) rfl ?_
              refine TL.done ?_
              exact TC.nrm () () ⟨(by rw [c6]; rfl), rfl, rfl, rfl, rfl, rfl, rfl, rfl, rfl, rfl, rfl, rfl, rfl, rfl, rfl, rfl, rfl, (by rw [c6]; rfl), trivial⟩ [0] (by kernel_rfl)
          · refine TL.pick rfl rfl (b := false) rfl (r := .bool ((decide (i1 ≥ n_1)) && (((v_1 i1.toNat).toNat : Int) != ((0 : UInt8).toNat : Int)))) rfl ?_
            refine TL.done ?_
            exact TC.nrm () () ⟨(by rw [c4]; rfl), rfl, rfl, rfl, rfl, rfl, rfl, rfl, rfl, rfl, rfl, rfl, rfl, (by rw [c4]; rfl), trivial⟩ [0] (by kernel_rfl)
      · refine TL.done ?_
        refine TC.cond (b := ((decide (((v_1 i1.toNat).toNat : Int) ≥ p1)) || ((decide (i1 ≥ n_1)) && (((v_1 i1.toNat).toNat : Int) != ((0 : UInt8).toNat : Int))))) rfl (fun c7 => ?_) (fun c8 => ?_)
        · refine TC.seq ?_
          refine TC.region ?_
          refine TL.assign rfl rfl (v := .bool false) rfl ?_
          refine TL.done ?_
          exact TC.retF (Fin.loop Far.ret (Fin.body (fin1 (.inr rfl) rfl (.tmp rfl) [] rfl ⟨rfl, rfl⟩)))
        · refine TC.skip ?_
          refine TC.region ?_
          refine TL.move rfl rfl (v := .int .i64 i1) rfl ?_
          refine TL.bin .i64 i1 1 rfl rfl rfl rfl (v := .int .i64 (w64 (i1 + 1))) rfl ?_
          refine TL.assign rfl rfl (v := .int .i64 (w64 (i1 + 1))) rfl ?_
          refine TL.done ?_
          exact TC.next ((w64 (i1 + 1))) (()) ⟨rfl, rfl, rfl, rfl, trivial⟩ [0] rfl
    · exact TC.brk (i1) (()) ⟨rfl, rfl, rfl, rfl, trivial⟩ [0] rfl
  · rintro i1 _
    refine TC.seq ?_
    refine TC.region ?_
    refine TL.assign rfl rfl (v := .bool true) rfl ?_
    refine TL.done ?_
    exact TC.retF (Fin.body (fin1 (.inr rfl) rfl (.tmp rfl) [] rfl ⟨rfl, rfl⟩))

end Go.Proofs.Ytiiljfpbcanphaa.G

/- spec.l01Shape, as a pure function. -/
set_option linter.unusedVariables false
namespace Go.Proofs.Ytiiljfpbcanphaa.G
open Go Go.Sx Go.Proofs

def spec_l01Shape.b0 (i1 : Int) (a_2 : Int) (a_1 : Int) (a_3 : Nat → UInt8) : Int → Option (LR Int (LR Int Bool)) := fun j1 => (bif (decide (j1 < 6)) then ((bif ((decide (i1 ≥ a_2)) || (decide (j1 ≥ a_2))) then some 0 else some a_2)).bind (fun n_1 => chk i1 6 (chk j1 6 ((G.spec_l01Small.f a_1 n_1 (sub a_3 (i1.toNat * 36 + j1.toNat * 6))).bind (fun r_4 => (bif (!r_4) then some (.ret (.ret (false))) else some (.next (w64 (j1 + 1)))))))) else some (.brk j1))

def spec_l01Shape.b1 (a_2 : Int) (a_1 : Int) (a_3 : Nat → UInt8) : Int → Option (LR Int Bool) := fun i1 => (bif (decide (i1 < 6)) then (loop (spec_l01Shape.b0 i1 a_2 a_1 a_3) 0).bind (ln (fun j1 => some (.next (w64 (i1 + 1))))) else some (.brk i1))

def spec_l01Shape.f (a_1 : Int) (a_2 : Int) (a_3 : Nat → UInt8) (a_4 : Nat → UInt8) : Option Bool := (G.spec_l01Prime.f a_1).bind (fun r_1 => (bif (!r_1) then some true else (G.spec_l01In.f a_2 1 6).bind (fun r_2 => some (!r_2))).bind (fun b_2 => (bif b_2 then some true else (G.spec_l01Small.f a_1 a_2 a_4).bind (fun r_3 => some (!r_3))).bind (fun b_3 => (bif b_3 then some false else (loop (spec_l01Shape.b1 a_2 a_1 a_3) 0).bind (ln (fun i1 => some true))))))

def spec_l01Shape.R (r : Bool) (v : Value) (L : List Asn) : Prop := v = .bool r ∧ L = []

set_option maxRecDepth 100000 in
set_option maxHeartbeats 4000000 in
theorem spec_l01Shape.calls (w : World) (a_1 : Int) (a_2 : Int) (a_3 : Nat → UInt8) (a_4 : Nat → UInt8) :
    ∀ r, spec_l01Shape.f a_1 a_2 a_3 a_4 = some r → Calls Try.prog 153 #[sval [.one (.int .i64 a_1), .one (.int .i64 a_2), .arr 216 (enf u8v a_3), .arr 6 (enf u8v a_4)]] w (Ret w (spec_l01Shape.R r)) := by

  refine calls_T (n := 55) (Γ := [(0, sval [.one (.int .i64 a_1), .one (.int .i64 a_2), .arr 216 (enf u8v a_3), .arr 6 (enf u8v a_4)])]) (R := spec_l01Shape.R) Try.func153 rfl rfl (Nat.le_of_ble_eq_true rfl) ⟨rfl, trivial⟩ ?_
  unfold spec_l01Shape.f
  refine TC.seq ?_
  refine TC.region ?_
  refine TL.box [.one (.int .i64 a_1), .one (.int .i64 a_2), .arr 216 (enf u8v a_3), .arr 6 (enf u8v a_4)] rfl rfl rfl rfl fun b_1 => ?_
  refine TL.assign rfl rfl (v := .bool false) rfl ?_
  refine TL.done ?_
  refine TC.seq ?_
  refine TC.seq ?_
  refine TC.region ?_
  refine TL.fa Try.underlying43 rfl Try.sizeOf2 rfl 0 rfl rfl rfl rfl ?_
  refine TL.load1 0 (Src.box 0 rfl) Try.isAgg2 rfl rfl rfl rfl rfl ?_
  refine TL.call (R := G.spec_l01Prime.R) Try.call84 rfl rfl rfl (fun w hS => G.spec_l01Prime.calls w a_1) ?_
  rintro r_1 _ _ ⟨rfl, rfl⟩
  refine TL.not r_1 rfl rfl rfl ?_
  refine TL.move rfl rfl (v := .bool (!r_1)) rfl ?_
  refine TL.cutJ (σ := Bool) (γ := Unit) (Γ' := fun b_2 _ => [(15, .bool b_2), (0, sval [.one (.int .i64 a_1), .one (.int .i64 a_2), .arr 216 (enf u8v a_3), .arr 6 (enf u8v a_4)]), (1, bp b_1 0), (2, .bool false), (6, bp b_1 0), (7, .int .i64 a_1), (8, .bool r_1), (9, .bool (!r_1)), (10, .bool (!r_1))]) (L' := fun _ _ => [box b_1 43 [.one (.int .i64 a_1), .one (.int .i64 a_2), .arr 216 (enf u8v a_3), .arr 6 (enf u8v a_4)]]) 5 ?_ ?_
  · refine TL.ifb (t := 10) (b := (!r_1)) rfl (fun c1 => ?_) (fun c2 => ?_)
    · refine TL.skip rfl rfl (by decide) ?_
      refine TL.skip rfl rfl (by decide) ?_
      refine TL.skip rfl rfl (by decide) ?_
      refine TL.skip rfl rfl (by decide) ?_
      refine TL.pick rfl rfl (b := true) rfl (r := .bool true) rfl ?_
      refine TL.done ?_
      exact TC.nrm (true) () ⟨rfl, rfl, rfl, rfl, rfl, rfl, rfl, rfl, (by rw [c1]; rfl), trivial⟩ [0] (by kernel_rfl)
    · refine TL.fa Try.underlying43 rfl Try.sizeOf2 rfl 1 rfl rfl rfl rfl ?_
      refine TL.load1 1 (Src.box 0 rfl) Try.isAgg2 rfl rfl rfl rfl rfl ?_
      refine TL.call (R := G.spec_l01In.R) Try.call69 rfl rfl rfl (fun w hS => G.spec_l01In.calls w a_2 1 6) ?_
      rintro r_2 _ _ ⟨rfl, rfl⟩
      refine TL.not r_2 rfl rfl rfl ?_
      refine TL.pick rfl rfl (b := false) rfl (r := .bool (!r_2)) rfl ?_
      refine TL.done ?_
      exact TC.nrm ((!r_2)) () ⟨rfl, rfl, rfl, rfl, rfl, rfl, rfl, rfl, (by rw [c2]; rfl), trivial⟩ [0] (by kernel_rfl)
  · rintro b_2 _
    refine TL.move rfl rfl (v := .bool b_2) rfl ?_
    refine TL.cutJ (σ := Bool) (γ := Unit) (Γ' := fun b_3 _ => [(25, .bool b_3), (0, sval [.one (.int .i64 a_1), .one (.int .i64 a_2), .arr 216 (enf u8v a_3), .arr 6 (enf u8v a_4)]), (1, bp b_1 0), (2, .bool false), (6, bp b_1 0), (7, .int .i64 a_1), (8, .bool r_1), (9, .bool (!r_1)), (10, .bool (!r_1)), (15, .bool b_2), (16, .bool b_2)]) (L' := fun _ _ => [box b_1 43 [.one (.int .i64 a_1), .one (.int .i64 a_2), .arr 216 (enf u8v a_3), .arr 6 (enf u8v a_4)]]) 9 ?_ ?_
    · refine TL.ifb (t := 16) (b := b_2) rfl (fun c3 => ?_) (fun c4 => ?_)
      · refine TL.skip rfl rfl (by decide) ?_
        refine TL.skip rfl rfl (by decide) ?_
        refine TL.skip rfl rfl (by decide) ?_
        refine TL.skip rfl rfl (by decide) ?_
        refine TL.skip rfl rfl (by decide) ?_
        refine TL.skip rfl rfl (by decide) ?_
        refine TL.skip rfl rfl (by decide) ?_
        refine TL.skip rfl rfl (by decide) ?_
        refine TL.pick rfl rfl (b := true) rfl (r := .bool true) rfl ?_
        refine TL.done ?_
        exact TC.nrm (true) () ⟨rfl, rfl, rfl, rfl, rfl, rfl, rfl, rfl, rfl, rfl, (by rw [c3]; rfl), trivial⟩ [0] (by kernel_rfl)
      · refine TL.fa Try.underlying43 rfl Try.sizeOf2 rfl 0 rfl rfl rfl rfl ?_
        refine TL.load1 0 (Src.box 0 rfl) Try.isAgg2 rfl rfl rfl rfl rfl ?_
        refine TL.fa Try.underlying43 rfl Try.sizeOf2 rfl 1 rfl rfl rfl rfl ?_
        refine TL.load1 1 (Src.box 0 rfl) Try.isAgg2 rfl rfl rfl rfl rfl ?_
        refine TL.fa Try.underlying43 rfl Try.sizeOf41 rfl 218 rfl rfl rfl rfl ?_
        refine TL.loadM 3 1 (Src.box 0 rfl) Try.isAgg41 Try.sizeOf41 (mid := [.arr 6 (enf u8v a_4)]) rfl rfl rfl rfl rfl rfl ?_
        refine TL.call (R := G.spec_l01Small.R) Try.call180 rfl rfl rfl (fun w hS => G.spec_l01Small.calls w a_1 a_2 a_4) ?_
        rintro r_3 _ _ ⟨rfl, rfl⟩
        refine TL.not r_3 rfl rfl rfl ?_
        refine TL.pick rfl rfl (b := false) rfl (r := .bool (!r_3)) rfl ?_
        refine TL.done ?_
        exact TC.nrm ((!r_3)) () ⟨rfl, rfl, rfl, rfl, rfl, rfl, rfl, rfl, rfl, rfl, (by rw [c4]; rfl), trivial⟩ [0] (by kernel_rfl)
    · rintro b_3 _
      refine TL.done ?_
      refine TC.cond (b := b_3) rfl (fun c5 => ?_) (fun c6 => ?_)
      · refine TC.seq ?_
        refine TC.region ?_
        refine TL.assign rfl rfl (v := .bool false) rfl ?_
        refine TL.done ?_
        exact TC.retF (Fin.body (fin1 (.inr rfl) rfl (.tmp rfl) [] rfl ⟨rfl, rfl⟩))
      · refine TC.skip ?_
        refine TC.seq ?_
        refine TC.seq ?_
        refine TC.region ?_
        refine TL.assign rfl rfl (v := .int .i64 0) rfl ?_
        refine TL.done ?_
        refine TC.loopK (σ := Int) (γ := Unit) (Γ' := (fun i1 _ => [(1, bp b_1 0), (3, .int .i64 i1)])) (L' := (fun i1 _ => [box b_1 43 [.one (.int .i64 a_1), .one (.int .i64 a_2), .arr 216 (enf u8v a_3), .arr 6 (enf u8v a_4)]])) (Γb := (fun i1 _ => [(1, bp b_1 0), (3, .int .i64 i1)])) (Lb := (fun i1 _ => [box b_1 43 [.one (.int .i64 a_1), .one (.int .i64 a_2), .arr 216 (enf u8v a_3), .arr 6 (enf u8v a_4)]])) (0) (()) ⟨rfl, rfl, trivial⟩ [0] rfl ?_ ?_
        · rintro i1 _
          refine TC.seq ?_
          refine TC.seq ?_
          refine TC.region ?_
          refine TL.move rfl rfl (v := .int .i64 i1) rfl ?_
          refine TL.bin .i64 i1 6 rfl rfl rfl rfl (v := .bool (decide (i1 < 6))) rfl ?_
          refine TL.done ?_
          refine TC.cond (b := (decide (i1 < 6))) rfl (fun c7 => ?_) (fun c8 => ?_)
          · refine TC.skip ?_
            refine TC.seq ?_
            refine TC.block (NoEx.loop rfl NoEx.body) ?_
            refine TC.seq ?_
            refine TC.region ?_
            refine TL.assign rfl rfl (v := .int .i64 0) rfl ?_
            refine TL.done ?_
            refine TC.loopK (σ := Int) (γ := Unit) (Γ' := (fun j1 _ => [(1, bp b_1 0), (3, .int .i64 i1), (4, .int .i64 j1)])) (L' := (fun j1 _ => [box b_1 43 [.one (.int .i64 a_1), .one (.int .i64 a_2), .arr 216 (enf u8v a_3), .arr 6 (enf u8v a_4)]])) (Γb := (fun j1 _ => [(1, bp b_1 0), (3, .int .i64 i1), (4, .int .i64 j1)])) (Lb := (fun j1 _ => [box b_1 43 [.one (.int .i64 a_1), .one (.int .i64 a_2), .arr 216 (enf u8v a_3), .arr 6 (enf u8v a_4)]])) (0) (()) ⟨rfl, rfl, rfl, trivial⟩ [0] rfl ?_ ?_
            · rintro j1 _
              refine TC.seq ?_
              refine TC.seq ?_
              refine TC.region ?_
              refine TL.move rfl rfl (v := .int .i64 j1) rfl ?_
              refine TL.bin .i64 j1 6 rfl rfl rfl rfl (v := .bool (decide (j1 < 6))) rfl ?_
              refine TL.done ?_
              refine TC.cond (b := (decide (j1 < 6))) rfl (fun c9 => ?_) (fun c10 => ?_)
              · refine TC.skip ?_
                refine TC.seq ?_
                refine TC.block (NoEx.loop rfl (NoEx.loop rfl NoEx.body)) ?_
                refine TC.seq ?_
                refine TC.region ?_
                refine TL.fa Try.underlying43 rfl Try.sizeOf2 rfl 1 rfl rfl rfl rfl ?_
                refine TL.load1 1 (Src.box 0 rfl) Try.isAgg2 rfl rfl rfl rfl rfl ?_
                refine TL.assign rfl rfl (v := .int .i64 a_2) rfl ?_
                refine TL.done ?_
                refine TC.seq ?_
                refine TC.seq ?_
                refine TC.region ?_
                refine TL.move rfl rfl (v := .int .i64 i1) rfl ?_
                refine TL.move rfl rfl (v := .int .i64 a_2) rfl ?_
                refine TL.bin .i64 i1 a_2 rfl rfl rfl rfl (v := .bool (decide (i1 ≥ a_2))) rfl ?_
                refine TL.move rfl rfl (v := .bool (decide (i1 ≥ a_2))) rfl ?_
                refine TL.cutU 4 [(43, .bool ((decide (i1 ≥ a_2)) || (decide (j1 ≥ a_2)))), (1, bp b_1 0), (3, .int .i64 i1), (4, .int .i64 j1), (30, .int .i64 j1), (31, .bool (decide (j1 < 6))), (34, bp b_1 1), (35, .int .i64 a_2), (5, .int .i64 a_2), (36, .int .i64 i1), (37, .int .i64 a_2), (38, .bool (decide (i1 ≥ a_2))), (39, .bool (decide (i1 ≥ a_2)))] [box b_1 43 [.one (.int .i64 a_1), .one (.int .i64 a_2), .arr 216 (enf u8v a_3), .arr 6 (enf u8v a_4)]] ?_ ?_
                · refine TL.cases (t := 39) (b := (decide (i1 ≥ a_2))) rfl (fun c11 => ?_) (fun c12 => ?_)
                  · refine TL.skip rfl rfl (by decide) ?_
                    refine TL.skip rfl rfl (by decide) ?_
                    refine TL.skip rfl rfl (by decide) ?_
                    refine TL.pick rfl rfl (b := true) rfl (r := .bool true) rfl ?_
                    refine TL.done ?_
                    exact TC.nrm () () ⟨(by rw [c11]; rfl), rfl, rfl, rfl, rfl, rfl, rfl, rfl, rfl, rfl, rfl, rfl, (by rw [c11]; rfl), trivial⟩ [0] (by kernel_rfl)
                  · refine TL.move rfl rfl (v := .int .i64 j1) rfl ?_
                    refine TL.move rfl rfl (v := .int .i64 a_2) rfl ?_
                    refine TL.bin .i64 j1 a_2 rfl rfl rfl rfl (v := .bool (decide (j1 ≥ a_2))) rfl ?_
                    refine TL.pick rfl rfl (b := false) rfl (r := .bool (decide (j1 ≥ a_2))) rfl ?_
                    refine TL.done ?_
                    exact TC.nrm () () ⟨(by rw [c12]; rfl), rfl, rfl, rfl, rfl, rfl, rfl, rfl, rfl, rfl, rfl, rfl, (by rw [c12]; rfl), trivial⟩ [0] (by kernel_rfl)
                · refine TL.done ?_
                  refine TC.join1 (σ := Int) (γ := Unit) (Γ' := (fun n_1 _ => [(1, bp b_1 0), (3, .int .i64 i1), (4, .int .i64 j1), (5, .int .i64 n_1)])) (L' := (fun n_1 _ => [box b_1 43 [.one (.int .i64 a_1), .one (.int .i64 a_2), .arr 216 (enf u8v a_3), .arr 6 (enf u8v a_4)]])) ?_ ?_
                  · refine TC.cond (b := ((decide (i1 ≥ a_2)) || (decide (j1 ≥ a_2)))) rfl (fun c13 => ?_) (fun c14 => ?_)
                    · refine TC.region ?_
                      refine TL.assign rfl rfl (v := .int .i64 0) rfl ?_
                      refine TL.done ?_
                      exact TC.nrm (0) (()) ⟨rfl, rfl, rfl, rfl, trivial⟩ [0] rfl
                    · refine TC.skip ?_
                      exact TC.nrm (a_2) (()) ⟨rfl, rfl, rfl, rfl, trivial⟩ [0] rfl
                  · rintro n_1 _
                    refine TC.seq ?_
                    refine TC.wk (Γ' := [(1, bp b_1 0), (3, .int .i64 i1), (4, .int .i64 j1), (5, .int .i64 n_1)]) ⟨rfl, rfl, rfl, rfl, trivial⟩ ?_
                    refine TC.chk fun h1 => ?_
                    refine TC.chk fun h2 => ?_
                    refine TC.bindE fun r_4 hr1 => ?_
                    refine TC.draw [bp b_1 0, .int .i64 a_1, .int .i64 n_1, .int .i64 i1, .int .i64 j1, bp b_1 2, bp b_1 (2 + i1.toNat * 36), bp b_1 (2 + (i1.toNat * 36 + j1.toNat * 6)), sval [.arr 6 (enf u8v (sub a_3 (i1.toNat * 36 + j1.toNat * 6)))], .bool r_4, .bool (!r_4)] 11 [box b_1 43 [.one (.int .i64 a_1), .one (.int .i64 a_2), .arr 216 (enf u8v a_3), .arr 6 (enf u8v a_4)]] (by kernel_rfl) rfl rfl rfl rfl ?_ ?_
                    · refine ⟨?_, ?_, ?_, ?_, ?_, ?_, ?_, ?_, ?_, ?_, ?_, trivial⟩
                      · refine TL.fa Try.underlying43 rfl Try.sizeOf2 rfl 0 rfl rfl rfl rfl ?_
                        refine TL.done ?_
                        exact TC.nrm () () ⟨rfl, trivial⟩ [0] (by kernel_rfl)
                      · refine TL.load1 0 (Src.box 0 rfl) Try.isAgg2 rfl rfl rfl rfl rfl ?_
                        refine TL.done ?_
                        exact TC.nrm () () ⟨rfl, trivial⟩ [0] (by kernel_rfl)
                      · refine TL.move rfl rfl (v := .int .i64 n_1) rfl ?_
                        refine TL.done ?_
                        exact TC.nrm () () ⟨rfl, trivial⟩ [0] (by kernel_rfl)
                      · refine TL.move rfl rfl (v := .int .i64 i1) rfl ?_
                        refine TL.done ?_
                        exact TC.nrm () () ⟨rfl, trivial⟩ [0] (by kernel_rfl)
                      · refine TL.move rfl rfl (v := .int .i64 j1) rfl ?_
                        refine TL.done ?_
                        exact TC.nrm () () ⟨rfl, trivial⟩ [0] (by kernel_rfl)
                      · refine TL.fa Try.underlying43 rfl Try.sizeOf40 rfl 2 rfl rfl rfl rfl ?_
                        refine TL.done ?_
                        exact TC.nrm () () ⟨rfl, trivial⟩ [0] (by kernel_rfl)
                      · refine TL.ixa i1 (2 + i1.toNat * 36) h1 Try.underlying40 Try.sizeOf39 rfl rfl rfl rfl (by omega) ?_
                        refine TL.done ?_
                        exact TC.nrm () () ⟨rfl, trivial⟩ [0] (by kernel_rfl)
                      · refine TL.ixa j1 (2 + (i1.toNat * 36 + j1.toNat * 6)) h2 Try.underlying39 Try.sizeOf38 rfl rfl rfl rfl (by omega) ?_
                        refine TL.done ?_
                        exact TC.nrm () () ⟨rfl, trivial⟩ [0] (by kernel_rfl)
                      · refine TL.loadS (i1.toNat * 36 + j1.toNat * 6) 2 (Src.box 0 rfl) Try.isAgg38 Try.sizeOf38 rfl (by omega) (v := sval [.arr 6 (enf u8v (sub a_3 (i1.toNat * 36 + j1.toNat * 6)))]) rfl (st := 2) rfl (by omega) rfl rfl rfl ?_
                        refine TL.done ?_
                        exact TC.nrm () () ⟨rfl, trivial⟩ [0] (by kernel_rfl)
                      · refine TL.callH (R := G.spec_l01Small.R) hr1 Try.call180 rfl rfl rfl (fun w hS => G.spec_l01Small.calls w a_1 n_1 (sub a_3 (i1.toNat * 36 + j1.toNat * 6))) ?_
                        rintro _ _ ⟨rfl, rfl⟩
                        refine TL.done ?_
                        exact TC.nrm () () ⟨rfl, trivial⟩ [0] (by kernel_rfl)
                      · refine TL.not r_4 rfl rfl rfl ?_
                        refine TL.done ?_
                        exact TC.nrm () () ⟨rfl, trivial⟩ [0] (by kernel_rfl)
                    · refine TC.cond (b := (!r_4)) rfl (fun c15 => ?_) (fun c16 => ?_)
                      · refine TC.seq ?_
                        refine TC.region ?_
                        refine TL.assign rfl rfl (v := .bool false) rfl ?_
                        refine TL.done ?_
                        exact TC.retF (Fin.loop Far.ret (Fin.loop Far.ret (Fin.body (fin1 (.inr rfl) rfl (.tmp rfl) [] rfl ⟨rfl, rfl⟩))))
                      · refine TC.skip ?_
                        refine TC.region ?_
                        refine TL.move rfl rfl (v := .int .i64 j1) rfl ?_
                        refine TL.bin .i64 j1 1 rfl rfl rfl rfl (v := .int .i64 (w64 (j1 + 1))) rfl ?_
                        refine TL.assign rfl rfl (v := .int .i64 (w64 (j1 + 1))) rfl ?_
                        refine TL.done ?_
                        exact TC.next ((w64 (j1 + 1))) (()) ⟨rfl, rfl, rfl, trivial⟩ [0] rfl
              · exact TC.brk (j1) (()) ⟨rfl, rfl, rfl, trivial⟩ [0] rfl
            · rintro j1 _
              refine TC.region ?_
              refine TL.move rfl rfl (v := .int .i64 i1) rfl ?_
              refine TL.bin .i64 i1 1 rfl rfl rfl rfl (v := .int .i64 (w64 (i1 + 1))) rfl ?_
              refine TL.assign rfl rfl (v := .int .i64 (w64 (i1 + 1))) rfl ?_
              refine TL.done ?_
              exact TC.next ((w64 (i1 + 1))) (()) ⟨rfl, rfl, trivial⟩ [0] rfl
          · exact TC.brk (i1) (()) ⟨rfl, rfl, trivial⟩ [0] rfl
        · rintro i1 _
          refine TC.seq ?_
          refine TC.region ?_
          refine TL.assign rfl rfl (v := .bool true) rfl ?_
          refine TL.done ?_
          exact TC.retF (Fin.body (fin1 (.inr rfl) rfl (.tmp rfl) [] rfl ⟨rfl, rfl⟩))

end Go.Proofs.Ytiiljfpbcanphaa.G

/- spec.l01Times, as a pure function. -/
set_option linter.unusedVariables false
namespace Go.Proofs.Ytiiljfpbcanphaa.G
open Go Go.Sx Go.Proofs

def spec_l01Times.b0 (a_2 : Int) (i1 : Int) (k_1 : Int) (u1 : Nat → UInt8) (v_1 : Nat → UInt8) (a_3 : Nat → UInt8) : Int × Int → Option (LB (Int × Int)) := fun p => match p with | (sum2, j1) => (bif (decide (j1 < a_2)) then chk i1 6 (chk j1 6 (chk k_1 6 (some (.next ((w64 (sum2 + (w64 ((w64 (((u1 i1.toNat).toNat : Int) * ((v_1 j1.toNat).toNat : Int))) * ((a_3 (i1.toNat * 36 + j1.toNat * 6 + k_1.toNat)).toNat : Int))))), (w64 (j1 + 1))))))) else some (.brk (sum2, j1)))

def spec_l01Times.b1 (a_2 : Int) (k_1 : Int) (u1 : Nat → UInt8) (v_1 : Nat → UInt8) (a_3 : Nat → UInt8) : Int × Int → Option (LB (Int × Int)) := fun p => match p with | (sum1, i1) => (bif (decide (i1 < a_2)) then (loop1 (spec_l01Times.b0 a_2 i1 k_1 u1 v_1 a_3) (sum1, 0)).bind (fun p => match p with | (sum2, j1) => some (.next (sum2, (w64 (i1 + 1))))) else some (.brk (sum1, i1)))

def spec_l01Times.b2 (a_2 : Int) (u1 : Nat → UInt8) (v_1 : Nat → UInt8) (a_3 : Nat → UInt8) (a_1 : Int) : (Nat → UInt8) × Int → Option (LB ((Nat → UInt8) × Int)) := fun p => match p with | (out1, k_1) => (bif (decide (k_1 < a_2)) then (loop1 (spec_l01Times.b1 a_2 k_1 u1 v_1 a_3) (0, 0)).bind (fun p => match p with | (sum1, i1) => nz a_1 (chk k_1 6 (some (.next ((upd out1 k_1.toNat (UInt8.ofInt (Int.tmod sum1 a_1))), (w64 (k_1 + 1))))))) else some (.brk (out1, k_1)))

def spec_l01Times.f (a_1 : Int) (a_2 : Int) (a_3 : Nat → UInt8) (a_4 : Nat → UInt8) (u1 : Nat → UInt8) (v_1 : Nat → UInt8) : Option (Nat → UInt8) := (loop1 (spec_l01Times.b2 a_2 u1 v_1 a_3 a_1) ((fun _ => (0 : UInt8)), 0)).bind (fun p => match p with | (out1, k_1) => some out1)

def spec_l01Times.R (r : Nat → UInt8) (v : Value) (L : List Asn) : Prop := v = sval [.arr 6 (enf u8v r)] ∧ L = []

set_option maxRecDepth 100000 in
set_option maxHeartbeats 4000000 in
theorem spec_l01Times.calls (w : World) (a_1 : Int) (a_2 : Int) (a_3 : Nat → UInt8) (a_4 : Nat → UInt8) (u1 : Nat → UInt8) (v_1 : Nat → UInt8) :
    ∀ r, spec_l01Times.f a_1 a_2 a_3 a_4 u1 v_1 = some r → Calls Try.prog 154 #[sval [.one (.int .i64 a_1), .one (.int .i64 a_2), .arr 216 (enf u8v a_3), .arr 6 (enf u8v a_4)], sval [.arr 6 (enf u8v u1)], sval [.arr 6 (enf u8v v_1)]] w (Ret w (spec_l01Times.R r)) := by

  refine calls_T (n := 60) (Γ := [(0, sval [.one (.int .i64 a_1), .one (.int .i64 a_2), .arr 216 (enf u8v a_3), .arr 6 (enf u8v a_4)]), (1, sval [.arr 6 (enf u8v u1)]), (2, sval [.arr 6 (enf u8v v_1)])]) (R := spec_l01Times.R) Try.func154 rfl rfl (Nat.le_of_ble_eq_true rfl) ⟨rfl, rfl, rfl, trivial⟩ ?_
  unfold spec_l01Times.f
  refine TC.seq ?_
  refine TC.region ?_
  refine TL.box [.one (.int .i64 a_1), .one (.int .i64 a_2), .arr 216 (enf u8v a_3), .arr 6 (enf u8v a_4)] rfl rfl rfl rfl fun b_1 => ?_
  refine TL.box [.arr 6 (enf u8v u1)] rfl rfl rfl rfl fun b_2 => ?_
  refine TL.box [.arr 6 (enf u8v v_1)] rfl rfl rfl rfl fun b_3 => ?_
  refine TL.alloc [.arr 6 (enf u8v (fun _ => (0 : UInt8)))] rfl rfl Try.zeroValue41 rfl fun b_4 => ?_
  refine TL.done ?_
  refine TC.seq ?_
  refine TC.region ?_
  refine TL.buildA (segs0 := [.arr 6 (enf u8v (fun _ => (0 : UInt8)))]) (segs := [.arr 6 (enf u8v (fun _ => (0 : UInt8)))]) Try.underlying41 Try.sizeOf5 Try.zeroValue41 rfl [] rfl rfl rfl rfl ?_
  refine TL.alloc [.arr 6 (enf u8v (fun _ => (0 : UInt8)))] rfl rfl Try.zeroValue41 rfl fun b_5 => ?_
  refine TL.stM (news := [.arr 6 (enf u8v (fun _ => (0 : UInt8)))]) 0 0 1 rfl Try.sizeOf41 (ones_arr (fun _ => rfl) ones_nil) rfl rfl rfl rfl rfl rfl ?_
  refine TL.done ?_
  refine TC.seq ?_
  refine TC.seq ?_
  refine TC.region ?_
  refine TL.assign rfl rfl (v := .int .i64 0) rfl ?_
  refine TL.done ?_
  refine TC.loop1 (σ := (Nat → UInt8) × Int) (γ := Unit) (Γ' := (fun p q => match p, q with | (out1, k_1), _ => [(3, bp b_1 0), (4, bp b_2 0), (5, bp b_3 0), (6, bp b_4 0), (7, bp b_5 0), (8, .int .i64 k_1)])) (L' := (fun p q => match p, q with | (out1, k_1), _ => [box b_1 43 [.one (.int .i64 a_1), .one (.int .i64 a_2), .arr 216 (enf u8v a_3), .arr 6 (enf u8v a_4)], box b_2 41 [.arr 6 (enf u8v u1)], box b_3 41 [.arr 6 (enf u8v v_1)], box b_4 41 [.arr 6 (enf u8v (fun _ => (0 : UInt8)))], box b_5 41 [.arr 6 (enf u8v out1)]])) (Γb := (fun p q => match p, q with | (out1, k_1), _ => [(3, bp b_1 0), (4, bp b_2 0), (5, bp b_3 0), (6, bp b_4 0), (7, bp b_5 0), (8, .int .i64 k_1)])) (Lb := (fun p q => match p, q with | (out1, k_1), _ => [box b_1 43 [.one (.int .i64 a_1), .one (.int .i64 a_2), .arr 216 (enf u8v a_3), .arr 6 (enf u8v a_4)], box b_2 41 [.arr 6 (enf u8v u1)], box b_3 41 [.arr 6 (enf u8v v_1)], box b_4 41 [.arr 6 (enf u8v (fun _ => (0 : UInt8)))], box b_5 41 [.arr 6 (enf u8v out1)]])) (((fun _ => (0 : UInt8)), 0)) (()) ⟨rfl, rfl, rfl, rfl, rfl, rfl, trivial⟩ [4, 3, 2, 1, 0] rfl ?_ ?_
  · rintro ⟨out1, k_1⟩ _
    refine TC.seq ?_
    refine TC.seq ?_
    refine TC.region ?_
    refine TL.move rfl rfl (v := .int .i64 k_1) rfl ?_
    refine TL.fa Try.underlying43 rfl Try.sizeOf2 rfl 1 rfl rfl rfl rfl ?_
    refine TL.load1 1 (Src.box 0 rfl) Try.isAgg2 rfl rfl rfl rfl rfl ?_
    refine TL.bin .i64 k_1 a_2 rfl rfl rfl rfl (v := .bool (decide (k_1 < a_2))) rfl ?_
    refine TL.done ?_
    refine TC.cond (b := (decide (k_1 < a_2))) rfl (fun c1 => ?_) (fun c2 => ?_)
    · refine TC.skip ?_
      refine TC.seq ?_
      refine TC.block (NoEx.loop1 rfl) ?_
      refine TC.seq ?_
      refine TC.region ?_
      refine TL.assign rfl rfl (v := .int .i64 0) rfl ?_
      refine TL.done ?_
      refine TC.seq ?_
      refine TC.seq ?_
      refine TC.region ?_
      refine TL.assign rfl rfl (v := .int .i64 0) rfl ?_
      refine TL.done ?_
      refine TC.loop1 (σ := Int × Int) (γ := Unit) (Γ' := (fun p q => match p, q with | (sum1, i1), _ => [(3, bp b_1 0), (4, bp b_2 0), (5, bp b_3 0), (6, bp b_4 0), (7, bp b_5 0), (8, .int .i64 k_1), (9, .int .i64 sum1), (10, .int .i64 i1)])) (L' := (fun p q => match p, q with | (sum1, i1), _ => [box b_1 43 [.one (.int .i64 a_1), .one (.int .i64 a_2), .arr 216 (enf u8v a_3), .arr 6 (enf u8v a_4)], box b_2 41 [.arr 6 (enf u8v u1)], box b_3 41 [.arr 6 (enf u8v v_1)], box b_4 41 [.arr 6 (enf u8v (fun _ => (0 : UInt8)))], box b_5 41 [.arr 6 (enf u8v out1)]])) (Γb := (fun p q => match p, q with | (sum1, i1), _ => [(3, bp b_1 0), (4, bp b_2 0), (5, bp b_3 0), (6, bp b_4 0), (7, bp b_5 0), (8, .int .i64 k_1), (9, .int .i64 sum1), (10, .int .i64 i1)])) (Lb := (fun p q => match p, q with | (sum1, i1), _ => [box b_1 43 [.one (.int .i64 a_1), .one (.int .i64 a_2), .arr 216 (enf u8v a_3), .arr 6 (enf u8v a_4)], box b_2 41 [.arr 6 (enf u8v u1)], box b_3 41 [.arr 6 (enf u8v v_1)], box b_4 41 [.arr 6 (enf u8v (fun _ => (0 : UInt8)))], box b_5 41 [.arr 6 (enf u8v out1)]])) ((0, 0)) (()) ⟨rfl, rfl, rfl, rfl, rfl, rfl, rfl, rfl, trivial⟩ [0, 0, 0, 0, 0] rfl ?_ ?_
      · rintro ⟨sum1, i1⟩ _
        refine TC.seq ?_
        refine TC.seq ?_
        refine TC.region ?_
        refine TL.move rfl rfl (v := .int .i64 i1) rfl ?_
        refine TL.fa Try.underlying43 rfl Try.sizeOf2 rfl 1 rfl rfl rfl rfl ?_
        refine TL.load1 1 (Src.box 0 rfl) Try.isAgg2 rfl rfl rfl rfl rfl ?_
        refine TL.bin .i64 i1 a_2 rfl rfl rfl rfl (v := .bool (decide (i1 < a_2))) rfl ?_
        refine TL.done ?_
        refine TC.cond (b := (decide (i1 < a_2))) rfl (fun c3 => ?_) (fun c4 => ?_)
        · refine TC.skip ?_
          refine TC.seq ?_
          refine TC.block (NoEx.loop1 rfl) ?_
          refine TC.seq ?_
          refine TC.region ?_
          refine TL.assign rfl rfl (v := .int .i64 0) rfl ?_
          refine TL.done ?_
          refine TC.loop1 (σ := Int × Int) (γ := Unit) (Γ' := (fun p q => match p, q with | (sum2, j1), _ => [(3, bp b_1 0), (4, bp b_2 0), (5, bp b_3 0), (6, bp b_4 0), (7, bp b_5 0), (8, .int .i64 k_1), (9, .int .i64 sum2), (10, .int .i64 i1), (11, .int .i64 j1)])) (L' := (fun p q => match p, q with | (sum2, j1), _ => [box b_1 43 [.one (.int .i64 a_1), .one (.int .i64 a_2), .arr 216 (enf u8v a_3), .arr 6 (enf u8v a_4)], box b_2 41 [.arr 6 (enf u8v u1)], box b_3 41 [.arr 6 (enf u8v v_1)], box b_4 41 [.arr 6 (enf u8v (fun _ => (0 : UInt8)))], box b_5 41 [.arr 6 (enf u8v out1)]])) (Γb := (fun p q => match p, q with | (sum2, j1), _ => [(3, bp b_1 0), (4, bp b_2 0), (5, bp b_3 0), (6, bp b_4 0), (7, bp b_5 0), (8, .int .i64 k_1), (9, .int .i64 sum2), (10, .int .i64 i1), (11, .int .i64 j1)])) (Lb := (fun p q => match p, q with | (sum2, j1), _ => [box b_1 43 [.one (.int .i64 a_1), .one (.int .i64 a_2), .arr 216 (enf u8v a_3), .arr 6 (enf u8v a_4)], box b_2 41 [.arr 6 (enf u8v u1)], box b_3 41 [.arr 6 (enf u8v v_1)], box b_4 41 [.arr 6 (enf u8v (fun _ => (0 : UInt8)))], box b_5 41 [.arr 6 (enf u8v out1)]])) ((sum1, 0)) (()) ⟨rfl, rfl, rfl, rfl, rfl, rfl, rfl, rfl, rfl, trivial⟩ [0, 0, 0, 0, 0] rfl ?_ ?_
          · rintro ⟨sum2, j1⟩ _
            refine TC.seq ?_
            refine TC.seq ?_
            refine TC.region ?_
            refine TL.move rfl rfl (v := .int .i64 j1) rfl ?_
            refine TL.fa Try.underlying43 rfl Try.sizeOf2 rfl 1 rfl rfl rfl rfl ?_
            refine TL.load1 1 (Src.box 0 rfl) Try.isAgg2 rfl rfl rfl rfl rfl ?_
            refine TL.bin .i64 j1 a_2 rfl rfl rfl rfl (v := .bool (decide (j1 < a_2))) rfl ?_
            refine TL.done ?_
            refine TC.cond (b := (decide (j1 < a_2))) rfl (fun c5 => ?_) (fun c6 => ?_)
            · refine TC.skip ?_
              refine TC.seq ?_
              refine TC.block (NoEx.loop1 rfl) ?_
              refine TC.wk (Γ' := [(3, bp b_1 0), (4, bp b_2 0), (5, bp b_3 0), (6, bp b_4 0), (7, bp b_5 0), (8, .int .i64 k_1), (10, .int .i64 i1), (11, .int .i64 j1), (25, .int .i64 j1), (26, bp b_1 1), (27, .int .i64 a_2), (28, .bool (decide (j1 < a_2))), (9, .int .i64 sum2)]) ⟨rfl, rfl, rfl, rfl, rfl, rfl, rfl, rfl, rfl, rfl, rfl, rfl, rfl, trivial⟩ ?_
              refine TC.chk fun h1 => ?_
              refine TC.chk fun h2 => ?_
              refine TC.chk fun h3 => ?_
              refine TC.drawG [(3, bp b_1 0), (4, bp b_2 0), (5, bp b_3 0), (6, bp b_4 0), (7, bp b_5 0), (8, .int .i64 k_1), (10, .int .i64 i1), (11, .int .i64 j1), (25, .int .i64 j1), (26, bp b_1 1), (27, .int .i64 a_2), (28, .bool (decide (j1 < a_2)))] [(9, .int .i64 sum2, 21)] ⟨rfl, rfl, rfl, rfl, rfl, rfl, rfl, rfl, rfl, rfl, rfl, rfl, trivial⟩ ⟨rfl, trivial⟩ (fun l_ g1 => [box b_1 43 [.one (.int .i64 a_1), .one (.int .i64 a_2), .arr 216 (enf u8v a_3), .arr 6 (enf u8v a_4)], box b_2 41 [.arr 6 (enf u8v u1)], box b_3 41 [.arr 6 (enf u8v v_1)], box b_4 41 [.arr 6 (enf u8v (fun _ => (0 : UInt8)))], box b_5 41 [.arr 6 (enf u8v out1)]]) (fun g1 => [.int .i64 sum2, .int .i64 i1, bp b_2 i1.toNat, u8v (u1 i1.toNat), .int .i64 ((u1 i1.toNat).toNat : Int), .int .i64 j1, bp b_3 j1.toNat, u8v (v_1 j1.toNat), .int .i64 ((v_1 j1.toNat).toNat : Int), .int .i64 (w64 (((u1 i1.toNat).toNat : Int) * ((v_1 j1.toNat).toNat : Int))), .int .i64 i1, .int .i64 j1, .int .i64 k_1, bp b_1 2, bp b_1 (2 + i1.toNat * 36), bp b_1 (2 + (i1.toNat * 36 + j1.toNat * 6)), bp b_1 (2 + (i1.toNat * 36 + j1.toNat * 6 + k_1.toNat)), u8v (a_3 (i1.toNat * 36 + j1.toNat * 6 + k_1.toNat)), .int .i64 ((a_3 (i1.toNat * 36 + j1.toNat * 6 + k_1.toNat)).toNat : Int), .int .i64 (w64 ((w64 (((u1 i1.toNat).toNat : Int) * ((v_1 j1.toNat).toNat : Int))) * ((a_3 (i1.toNat * 36 + j1.toNat * 6 + k_1.toNat)).toNat : Int))), .int .i64 (w64 (sum2 + (w64 ((w64 (((u1 i1.toNat).toNat : Int) * ((v_1 j1.toNat).toNat : Int))) * ((a_3 (i1.toNat * 36 + j1.toNat * 6 + k_1.toNat)).toNat : Int))))), .int .i64 (w64 (sum2 + (w64 ((w64 (((u1 i1.toNat).toNat : Int) * ((v_1 j1.toNat).toNat : Int))) * ((a_3 (i1.toNat * 36 + j1.toNat * 6 + k_1.toNat)).toNat : Int)))))]) [[], [], [1], [1, 2], [1, 2, 3], [], [5], [5, 6], [5, 6, 7], [1, 2, 3, 4, 5, 6, 7, 8], [], [], [], [], [10, 13], [10, 11, 13, 14], [10, 11, 12, 13, 14, 15], [10, 11, 12, 13, 14, 15, 16], [10, 11, 12, 13, 14, 15, 16, 17], [1, 2, 3, 4, 5, 6, 7, 8, 9, 10, 11, 12, 13, 14, 15, 16, 17, 18], [0, 1, 2, 3, 4, 5, 6, 7, 8, 9, 10, 11, 12, 13, 14, 15, 16, 17, 18, 19], [0, 1, 2, 3, 4, 5, 6, 7, 8, 9, 10, 11, 12, 13, 14, 15, 16, 17, 18, 19, 20]] [[some false, none, none, none, none, none, none, none, none, none, none, none, none, none, none, none, none, none, none, none, some false, some false], [none, some false, some false, some false, some false, none, none, none, none, some false, none, none, none, none, none, none, none, none, none, some false, some false, some false], [none, some true, some false, some false, some false, none, none, none, none, some false, none, none, none, none, none, none, none, none, none, some false, some false, some false], [none, some true, some true, some false, some false, none, none, none, none, some false, none, none, none, none, none, none, none, none, none, some false, some false, some false], [none, some true, some true, some true, some false, none, none, none, none, some false, none, none, none, none, none, none, none, none, none, some false, some false, some false], [none, none, none, none, none, some false, some false, some false, some false, some false, none, none, none, none, none, none, none, none, none, some false, some false, some false], [none, none, none, none, none, some true, some false, some false, some false, some false, none, none, none, none, none, none, none, none, none, some false, some false, some false], [none, none, none, none, none, some true, some true, some false, some false, some false, none, none, none, none, none, none, none, none, none, some false, some false, some false], [none, none, none, none, none, some true, some true, some true, some false, some false, none, none, none, none, none, none, none, none, none, some false, some false, some false], [none, some true, some true, some true, some true, some true, some true, some true, some true, some false, none, none, none, none, none, none, none, none, none, some false, some false, some false], [none, none, none, none, none, none, none, none, none, none, some false, none, none, none, some false, some false, some false, some false, some false, some false, some false, some false], [none, none, none, none, none, none, none, none, none, none, none, some false, none, none, none, some false, some false, some false, some false, some false, some false, some false], [none, none, none, none, none, none, none, none, none, none, none, none, some false, none, none, none, some false, some false, some false, some false, some false, some false], [none, none, none, none, none, none, none, none, none, none, none, none, none, some false, some false, some false, some false, some false, some false, some false, some false, some false], [none, none, none, none, none, none, none, none, none, none, some true, none, none, some true, some false, some false, some false, some false, some false, some false, some false, some false], [none, none, none, none, none, none, none, none, none, none, some true, some true, none, some true, some true, some false, some false, some false, some false, some false, some false, some false], [none, none, none, none, none, none, none, none, none, none, some true, some true, some true, some true, some true, some true, some false, some false, some false, some false, some false, some false], [none, none, none, none, none, none, none, none, none, none, some true, some true, some true, some true, some true, some true, some true, some false, some false, some false, some false, some false], [none, none, none, none, none, none, none, none, none, none, some true, some true, some true, some true, some true, some true, some true, some true, some false, some false, some false, some false], [none, some true, some true, some true, some true, some true, some true, some true, some true, some true, some true, some true, some true, some true, some true, some true, some true, some true, some true, some false, some false, some false], [some true, some true, some true, some true, some true, some true, some true, some true, some true, some true, some true, some true, some true, some true, some true, some true, some true, some true, some true, some true, some false, some false], [some true, some true, some true, some true, some true, some true, some true, some true, some true, some true, some true, some true, some true, some true, some true, some true, some true, some true, some true, some true, some true, some false]] (by kernel_rfl) (fun _ => rfl) rfl rfl rfl rfl rfl (fun _ _ => ⟨⟨⟨⟨⟨⟨⟨⟨⟨⟨⟨⟨⟨⟨⟨⟨⟨⟨⟨⟨⟨⟨trivial, rfl⟩, rfl⟩, rfl⟩, rfl⟩, rfl⟩, rfl⟩, rfl⟩, rfl⟩, rfl⟩, rfl⟩, rfl⟩, rfl⟩, rfl⟩, rfl⟩, rfl⟩, rfl⟩, rfl⟩, rfl⟩, rfl⟩, rfl⟩, rfl⟩, rfl⟩) 0 [0, 0, 0, 0, 0] (fun _ => by kernel_rfl) ?_ ?_
              · refine ⟨rfl, ?_, rfl, ?_, rfl, ?_, rfl, ?_, rfl, ?_, rfl, ?_, rfl, ?_, rfl, ?_, rfl, ?_, rfl, ?_, rfl, ?_, rfl, ?_, rfl, ?_, rfl, ?_, rfl, ?_, rfl, ?_, rfl, ?_, rfl, ?_, rfl, ?_, rfl, ?_, rfl, ?_, rfl, ?_, trivial⟩
                · intro b1_ b2_ b3_ b4_ b5_ b6_ b7_ b8_ b9_ b10_ b11_ b12_ b13_ b14_ b15_ b16_ b17_ b18_ b19_ g1
                  refine TL.move rfl rfl (v := .int .i64 sum2) rfl ?_
                  refine TL.done ?_
                  exact TC.nrm () [] ⟨rfl, trivial⟩ [0, 0, 0, 0, 0] (by kernel_rfl)
                · intro b0_ b5_ b6_ b7_ b8_ b10_ b11_ b12_ b13_ b14_ b15_ b16_ b17_ b18_ g1
                  refine TL.move rfl rfl (v := .int .i64 i1) rfl ?_
                  refine TL.done ?_
                  exact TC.nrm () [] ⟨rfl, trivial⟩ [0, 0, 0, 0, 0] (by kernel_rfl)
                · intro b0_ b5_ b6_ b7_ b8_ b10_ b11_ b12_ b13_ b14_ b15_ b16_ b17_ b18_ g1
                  refine TL.asL [box b_1 43 [.one (.int .i64 a_1), .one (.int .i64 a_2), .arr 216 (enf u8v a_3), .arr 6 (enf u8v a_4)], box b_2 41 [.arr 6 (enf u8v u1)], box b_3 41 [.arr 6 (enf u8v v_1)], box b_4 41 [.arr 6 (enf u8v (fun _ => (0 : UInt8)))], box b_5 41 [.arr 6 (enf u8v out1)]] (by kernel_rfl) ?_
                  refine TL.ixa i1 i1.toNat h1 Try.underlying41 Try.sizeOf5 rfl rfl rfl rfl (by omega) ?_
                  refine TL.done ?_
                  exact TC.nrm () [] ⟨rfl, trivial⟩ [0, 0, 0, 0, 0] (by kernel_rfl)
                · intro b0_ b5_ b6_ b7_ b8_ b10_ b11_ b12_ b13_ b14_ b15_ b16_ b17_ b18_ g1
                  refine TL.asL [box b_1 43 [.one (.int .i64 a_1), .one (.int .i64 a_2), .arr 216 (enf u8v a_3), .arr 6 (enf u8v a_4)], box b_2 41 [.arr 6 (enf u8v u1)], box b_3 41 [.arr 6 (enf u8v v_1)], box b_4 41 [.arr 6 (enf u8v (fun _ => (0 : UInt8)))], box b_5 41 [.arr 6 (enf u8v out1)]] (by kernel_rfl) ?_
                  refine TL.loadA i1.toNat 0 (Src.box 1 rfl) Try.isAgg5 rfl (by omega) (v := u8v (u1 i1.toNat)) rfl (st := 0) rfl (by omega) rfl rfl rfl ?_
                  refine TL.done ?_
                  exact TC.nrm () [] ⟨rfl, trivial⟩ [0, 0, 0, 0, 0] (by kernel_rfl)
                · intro b0_ b5_ b6_ b7_ b8_ b10_ b11_ b12_ b13_ b14_ b15_ b16_ b17_ b18_ g1
                  refine TL.conv .u8 .i64 ((u1 i1.toNat).toNat : Int) _ rfl rfl rfl Try.underlying5 Try.underlying2 (v := .int .i64 ((u1 i1.toNat).toNat : Int)) (conv_u8_i64 _) ?_
                  refine TL.done ?_
                  exact TC.nrm () [] ⟨rfl, trivial⟩ [0, 0, 0, 0, 0] (by kernel_rfl)
                · intro b0_ b1_ b2_ b3_ b4_ b10_ b11_ b12_ b13_ b14_ b15_ b16_ b17_ b18_ g1
                  refine TL.move rfl rfl (v := .int .i64 j1) rfl ?_
                  refine TL.done ?_
                  exact TC.nrm () [] ⟨rfl, trivial⟩ [0, 0, 0, 0, 0] (by kernel_rfl)
                · intro b0_ b1_ b2_ b3_ b4_ b10_ b11_ b12_ b13_ b14_ b15_ b16_ b17_ b18_ g1
                  refine TL.asL [box b_1 43 [.one (.int .i64 a_1), .one (.int .i64 a_2), .arr 216 (enf u8v a_3), .arr 6 (enf u8v a_4)], box b_2 41 [.arr 6 (enf u8v u1)], box b_3 41 [.arr 6 (enf u8v v_1)], box b_4 41 [.arr 6 (enf u8v (fun _ => (0 : UInt8)))], box b_5 41 [.arr 6 (enf u8v out1)]] (by kernel_rfl) ?_
                  refine TL.ixa j1 j1.toNat h2 Try.underlying41 Try.sizeOf5 rfl rfl rfl rfl (by omega) ?_
                  refine TL.done ?_
                  exact TC.nrm () [] ⟨rfl, trivial⟩ [0, 0, 0, 0, 0] (by kernel_rfl)
                · intro b0_ b1_ b2_ b3_ b4_ b10_ b11_ b12_ b13_ b14_ b15_ b16_ b17_ b18_ g1
                  refine TL.asL [box b_1 43 [.one (.int .i64 a_1), .one (.int .i64 a_2), .arr 216 (enf u8v a_3), .arr 6 (enf u8v a_4)], box b_2 41 [.arr 6 (enf u8v u1)], box b_3 41 [.arr 6 (enf u8v v_1)], box b_4 41 [.arr 6 (enf u8v (fun _ => (0 : UInt8)))], box b_5 41 [.arr 6 (enf u8v out1)]] (by kernel_rfl) ?_
                  refine TL.loadA j1.toNat 0 (Src.box 2 rfl) Try.isAgg5 rfl (by omega) (v := u8v (v_1 j1.toNat)) rfl (st := 0) rfl (by omega) rfl rfl rfl ?_
                  refine TL.done ?_
                  exact TC.nrm () [] ⟨rfl, trivial⟩ [0, 0, 0, 0, 0] (by kernel_rfl)
                · intro b0_ b1_ b2_ b3_ b4_ b10_ b11_ b12_ b13_ b14_ b15_ b16_ b17_ b18_ g1
                  refine TL.conv .u8 .i64 ((v_1 j1.toNat).toNat : Int) _ rfl rfl rfl Try.underlying5 Try.underlying2 (v := .int .i64 ((v_1 j1.toNat).toNat : Int)) (conv_u8_i64 _) ?_
                  refine TL.done ?_
                  exact TC.nrm () [] ⟨rfl, trivial⟩ [0, 0, 0, 0, 0] (by kernel_rfl)
                · intro b0_ b10_ b11_ b12_ b13_ b14_ b15_ b16_ b17_ b18_ g1
                  refine TL.bin .i64 ((u1 i1.toNat).toNat : Int) ((v_1 j1.toNat).toNat : Int) rfl rfl rfl rfl (v := .int .i64 (w64 (((u1 i1.toNat).toNat : Int) * ((v_1 j1.toNat).toNat : Int)))) rfl ?_
                  refine TL.done ?_
                  exact TC.nrm () [] ⟨rfl, trivial⟩ [0, 0, 0, 0, 0] (by kernel_rfl)
                · intro b0_ b1_ b2_ b3_ b4_ b5_ b6_ b7_ b8_ b9_ b11_ b12_ b13_ g1
                  refine TL.move rfl rfl (v := .int .i64 i1) rfl ?_
                  refine TL.done ?_
                  exact TC.nrm () [] ⟨rfl, trivial⟩ [0, 0, 0, 0, 0] (by kernel_rfl)
                · intro b0_ b1_ b2_ b3_ b4_ b5_ b6_ b7_ b8_ b9_ b10_ b12_ b13_ b14_ g1
                  refine TL.move rfl rfl (v := .int .i64 j1) rfl ?_
                  refine TL.done ?_
                  exact TC.nrm () [] ⟨rfl, trivial⟩ [0, 0, 0, 0, 0] (by kernel_rfl)
                · intro b0_ b1_ b2_ b3_ b4_ b5_ b6_ b7_ b8_ b9_ b10_ b11_ b13_ b14_ b15_ g1
                  refine TL.move rfl rfl (v := .int .i64 k_1) rfl ?_
                  refine TL.done ?_
                  exact TC.nrm () [] ⟨rfl, trivial⟩ [0, 0, 0, 0, 0] (by kernel_rfl)
                · intro b0_ b1_ b2_ b3_ b4_ b5_ b6_ b7_ b8_ b9_ b10_ b11_ b12_ g1
                  refine TL.asL [box b_1 43 [.one (.int .i64 a_1), .one (.int .i64 a_2), .arr 216 (enf u8v a_3), .arr 6 (enf u8v a_4)], box b_2 41 [.arr 6 (enf u8v u1)], box b_3 41 [.arr 6 (enf u8v v_1)], box b_4 41 [.arr 6 (enf u8v (fun _ => (0 : UInt8)))], box b_5 41 [.arr 6 (enf u8v out1)]] (by kernel_rfl) ?_
                  refine TL.fa Try.underlying43 rfl Try.sizeOf40 rfl 2 rfl rfl rfl rfl ?_
                  refine TL.done ?_
                  exact TC.nrm () [] ⟨rfl, trivial⟩ [0, 0, 0, 0, 0] (by kernel_rfl)
                · intro b0_ b1_ b2_ b3_ b4_ b5_ b6_ b7_ b8_ b9_ b11_ b12_ g1
                  refine TL.asL [box b_1 43 [.one (.int .i64 a_1), .one (.int .i64 a_2), .arr 216 (enf u8v a_3), .arr 6 (enf u8v a_4)], box b_2 41 [.arr 6 (enf u8v u1)], box b_3 41 [.arr 6 (enf u8v v_1)], box b_4 41 [.arr 6 (enf u8v (fun _ => (0 : UInt8)))], box b_5 41 [.arr 6 (enf u8v out1)]] (by kernel_rfl) ?_
                  refine TL.ixa i1 (2 + i1.toNat * 36) h1 Try.underlying40 Try.sizeOf39 rfl rfl rfl rfl (by omega) ?_
                  refine TL.done ?_
                  exact TC.nrm () [] ⟨rfl, trivial⟩ [0, 0, 0, 0, 0] (by kernel_rfl)
                · intro b0_ b1_ b2_ b3_ b4_ b5_ b6_ b7_ b8_ b9_ b12_ g1
                  refine TL.asL [box b_1 43 [.one (.int .i64 a_1), .one (.int .i64 a_2), .arr 216 (enf u8v a_3), .arr 6 (enf u8v a_4)], box b_2 41 [.arr 6 (enf u8v u1)], box b_3 41 [.arr 6 (enf u8v v_1)], box b_4 41 [.arr 6 (enf u8v (fun _ => (0 : UInt8)))], box b_5 41 [.arr 6 (enf u8v out1)]] (by kernel_rfl) ?_
                  refine TL.ixa j1 (2 + (i1.toNat * 36 + j1.toNat * 6)) h2 Try.underlying39 Try.sizeOf38 rfl rfl rfl rfl (by omega) ?_
                  refine TL.done ?_
                  exact TC.nrm () [] ⟨rfl, trivial⟩ [0, 0, 0, 0, 0] (by kernel_rfl)
                · intro b0_ b1_ b2_ b3_ b4_ b5_ b6_ b7_ b8_ b9_ g1
                  refine TL.asL [box b_1 43 [.one (.int .i64 a_1), .one (.int .i64 a_2), .arr 216 (enf u8v a_3), .arr 6 (enf u8v a_4)], box b_2 41 [.arr 6 (enf u8v u1)], box b_3 41 [.arr 6 (enf u8v v_1)], box b_4 41 [.arr 6 (enf u8v (fun _ => (0 : UInt8)))], box b_5 41 [.arr 6 (enf u8v out1)]] (by kernel_rfl) ?_
                  refine TL.ixa k_1 (2 + (i1.toNat * 36 + j1.toNat * 6 + k_1.toNat)) h3 Try.underlying38 Try.sizeOf5 rfl rfl rfl rfl (by omega) ?_
                  refine TL.done ?_
                  exact TC.nrm () [] ⟨rfl, trivial⟩ [0, 0, 0, 0, 0] (by kernel_rfl)
                · intro b0_ b1_ b2_ b3_ b4_ b5_ b6_ b7_ b8_ b9_ g1
                  refine TL.asL [box b_1 43 [.one (.int .i64 a_1), .one (.int .i64 a_2), .arr 216 (enf u8v a_3), .arr 6 (enf u8v a_4)], box b_2 41 [.arr 6 (enf u8v u1)], box b_3 41 [.arr 6 (enf u8v v_1)], box b_4 41 [.arr 6 (enf u8v (fun _ => (0 : UInt8)))], box b_5 41 [.arr 6 (enf u8v out1)]] (by kernel_rfl) ?_
                  refine TL.loadA (i1.toNat * 36 + j1.toNat * 6 + k_1.toNat) 2 (Src.box 0 rfl) Try.isAgg5 rfl (by omega) (v := u8v (a_3 (i1.toNat * 36 + j1.toNat * 6 + k_1.toNat))) rfl (st := 2) rfl (by omega) rfl rfl rfl ?_
                  refine TL.done ?_
                  exact TC.nrm () [] ⟨rfl, trivial⟩ [0, 0, 0, 0, 0] (by kernel_rfl)
                · intro b0_ b1_ b2_ b3_ b4_ b5_ b6_ b7_ b8_ b9_ g1
                  refine TL.conv .u8 .i64 ((a_3 (i1.toNat * 36 + j1.toNat * 6 + k_1.toNat)).toNat : Int) _ rfl rfl rfl Try.underlying5 Try.underlying2 (v := .int .i64 ((a_3 (i1.toNat * 36 + j1.toNat * 6 + k_1.toNat)).toNat : Int)) (conv_u8_i64 _) ?_
                  refine TL.done ?_
                  exact TC.nrm () [] ⟨rfl, trivial⟩ [0, 0, 0, 0, 0] (by kernel_rfl)
                · intro b0_ g1
                  refine TL.bin .i64 (w64 (((u1 i1.toNat).toNat : Int) * ((v_1 j1.toNat).toNat : Int))) ((a_3 (i1.toNat * 36 + j1.toNat * 6 + k_1.toNat)).toNat : Int) rfl rfl rfl rfl (v := .int .i64 (w64 ((w64 (((u1 i1.toNat).toNat : Int) * ((v_1 j1.toNat).toNat : Int))) * ((a_3 (i1.toNat * 36 + j1.toNat * 6 + k_1.toNat)).toNat : Int)))) rfl ?_
                  refine TL.done ?_
                  exact TC.nrm () [] ⟨rfl, trivial⟩ [0, 0, 0, 0, 0] (by kernel_rfl)
                · intro g1
                  refine TL.bin .i64 sum2 (w64 ((w64 (((u1 i1.toNat).toNat : Int) * ((v_1 j1.toNat).toNat : Int))) * ((a_3 (i1.toNat * 36 + j1.toNat * 6 + k_1.toNat)).toNat : Int))) rfl rfl rfl rfl (v := .int .i64 (w64 (sum2 + (w64 ((w64 (((u1 i1.toNat).toNat : Int) * ((v_1 j1.toNat).toNat : Int))) * ((a_3 (i1.toNat * 36 + j1.toNat * 6 + k_1.toNat)).toNat : Int)))))) rfl ?_
                  refine TL.done ?_
                  exact TC.nrm () [] ⟨rfl, trivial⟩ [0, 0, 0, 0, 0] (by kernel_rfl)
                · intro g1
                  refine TL.assign rfl rfl (v := .int .i64 (w64 (sum2 + (w64 ((w64 (((u1 i1.toNat).toNat : Int) * ((v_1 j1.toNat).toNat : Int))) * ((a_3 (i1.toNat * 36 + j1.toNat * 6 + k_1.toNat)).toNat : Int)))))) rfl ?_
                  refine TL.done ?_
                  exact TC.nrm () [] ⟨rfl, trivial⟩ [0, 0, 0, 0, 0] (by kernel_rfl)
              · intro g1
                refine TC.asL [box b_1 43 [.one (.int .i64 a_1), .one (.int .i64 a_2), .arr 216 (enf u8v a_3), .arr 6 (enf u8v a_4)], box b_2 41 [.arr 6 (enf u8v u1)], box b_3 41 [.arr 6 (enf u8v v_1)], box b_4 41 [.arr 6 (enf u8v (fun _ => (0 : UInt8)))], box b_5 41 [.arr 6 (enf u8v out1)]] (by kernel_rfl) ?_
                refine TC.region ?_
                refine TL.move rfl rfl (v := .int .i64 j1) rfl ?_
                refine TL.bin .i64 j1 1 rfl rfl rfl rfl (v := .int .i64 (w64 (j1 + 1))) rfl ?_
                refine TL.assign rfl rfl (v := .int .i64 (w64 (j1 + 1))) rfl ?_
                refine TL.done ?_
                exact TC.next1 (((w64 (sum2 + (w64 ((w64 (((u1 i1.toNat).toNat : Int) * ((v_1 j1.toNat).toNat : Int))) * ((a_3 (i1.toNat * 36 + j1.toNat * 6 + k_1.toNat)).toNat : Int))))), (w64 (j1 + 1)))) (()) ⟨rfl, rfl, rfl, rfl, rfl, rfl, rfl, rfl, rfl, trivial⟩ [0, 0, 0, 0, 0] rfl
            · exact TC.brk1 ((sum2, j1)) (()) ⟨rfl, rfl, rfl, rfl, rfl, rfl, rfl, rfl, rfl, trivial⟩ [0, 0, 0, 0, 0] rfl
          · rintro ⟨sum2, j1⟩ _
            refine TC.region ?_
            refine TL.move rfl rfl (v := .int .i64 i1) rfl ?_
            refine TL.bin .i64 i1 1 rfl rfl rfl rfl (v := .int .i64 (w64 (i1 + 1))) rfl ?_
            refine TL.assign rfl rfl (v := .int .i64 (w64 (i1 + 1))) rfl ?_
            refine TL.done ?_
            exact TC.next1 ((sum2, (w64 (i1 + 1)))) (()) ⟨rfl, rfl, rfl, rfl, rfl, rfl, rfl, rfl, trivial⟩ [0, 0, 0, 0, 0] rfl
        · exact TC.brk1 ((sum1, i1)) (()) ⟨rfl, rfl, rfl, rfl, rfl, rfl, rfl, rfl, trivial⟩ [0, 0, 0, 0, 0] rfl
      · rintro ⟨sum1, i1⟩ _
        refine TC.region ?_
        refine TL.move rfl rfl (v := .int .i64 k_1) rfl ?_
        refine TL.move rfl rfl (v := .int .i64 sum1) rfl ?_
        refine TL.fa Try.underlying43 rfl Try.sizeOf2 rfl 0 rfl rfl rfl rfl ?_
        refine TL.load1 0 (Src.box 0 rfl) Try.isAgg2 rfl rfl rfl rfl rfl ?_
        refine TL.nz fun z1 => ?_
        refine TL.rem .i64 sum1 a_1 z1 rfl rfl rfl rfl ?_
        refine TL.conv .i64 .u8 (Int.tmod sum1 a_1) _ rfl rfl rfl Try.underlying2 Try.underlying5 (v := u8v (UInt8.ofInt (Int.tmod sum1 a_1))) (conv_i64_u8 _) ?_
        refine TL.chk fun h4 => ?_
        refine TL.ixa k_1 k_1.toNat h4 Try.underlying41 Try.sizeOf5 rfl rfl rfl rfl (by omega) ?_
        refine TL.stA (e := u8v) (z := (UInt8.ofInt (Int.tmod sum1 a_1))) 4 0 k_1.toNat rfl Try.sizeOf5 rfl (by omega) (s := 0) rfl (by omega) rfl rfl rfl rfl rfl ?_
        refine TL.done ?_
        refine TC.region ?_
        refine TL.move rfl rfl (v := .int .i64 k_1) rfl ?_
        refine TL.bin .i64 k_1 1 rfl rfl rfl rfl (v := .int .i64 (w64 (k_1 + 1))) rfl ?_
        refine TL.assign rfl rfl (v := .int .i64 (w64 (k_1 + 1))) rfl ?_
        refine TL.done ?_
        exact TC.next1 (((upd out1 k_1.toNat (UInt8.ofInt (Int.tmod sum1 a_1))), (w64 (k_1 + 1)))) (()) ⟨rfl, rfl, rfl, rfl, rfl, rfl, trivial⟩ [0, 0, 0, 0, 0] rfl
    · exact TC.brk1 ((out1, k_1)) (()) ⟨rfl, rfl, rfl, rfl, rfl, rfl, trivial⟩ [0, 0, 0, 0, 0] rfl
  · rintro ⟨out1, k_1⟩ _
    refine TC.seq ?_
    refine TC.region ?_
    refine TL.loadM 0 1 (Src.box 4 rfl) Try.isAgg41 Try.sizeOf41 (mid := [.arr 6 (enf u8v out1)]) rfl rfl rfl rfl rfl rfl ?_
    refine TL.stM (news := [.arr 6 (enf u8v out1)]) 3 0 1 rfl Try.sizeOf41 (ones_arr (fun _ => rfl) ones_nil) rfl rfl rfl rfl rfl rfl ?_
    refine TL.done ?_
    exact TC.retF (Fin.body (fin1 (.inr rfl) rfl (.cellN rfl (Src.box 3 rfl) Try.isAgg41 Try.sizeOf41 rfl) [] rfl ⟨rfl, rfl⟩))

end Go.Proofs.Ytiiljfpbcanphaa.G

/- spec.l01Basis, as a pure function. -/
set_option linter.unusedVariables false
namespace Go.Proofs.Ytiiljfpbcanphaa.G
open Go Go.Sx Go.Proofs

def spec_l01Basis.f (i1 : Int) : Option (Nat → UInt8) := chk i1 6 (some (upd (fun _ => (0 : UInt8)) i1.toNat (1 : UInt8)))

def spec_l01Basis.R (r : Nat → UInt8) (v : Value) (L : List Asn) : Prop := v = sval [.arr 6 (enf u8v r)] ∧ L = []

set_option maxRecDepth 100000 in
set_option maxHeartbeats 4000000 in
theorem spec_l01Basis.calls (w : World) (i1 : Int) :
    ∀ r, spec_l01Basis.f i1 = some r → Calls Try.prog 155 #[.int .i64 i1] w (Ret w (spec_l01Basis.R r)) := by

  refine calls_T (n := 8) (Γ := [(0, .int .i64 i1)]) (R := spec_l01Basis.R) Try.func155 rfl rfl (Nat.le_of_ble_eq_true rfl) ⟨rfl, trivial⟩ ?_
  unfold spec_l01Basis.f
  refine TC.seq ?_
  refine TC.region ?_
  refine TL.alloc [.arr 6 (enf u8v (fun _ => (0 : UInt8)))] rfl rfl Try.zeroValue41 rfl fun b_1 => ?_
  refine TL.done ?_
  refine TC.seq ?_
  refine TC.region ?_
  refine TL.buildA (segs0 := [.arr 6 (enf u8v (fun _ => (0 : UInt8)))]) (segs := [.arr 6 (enf u8v (fun _ => (0 : UInt8)))]) Try.underlying41 Try.sizeOf5 Try.zeroValue41 rfl [] rfl rfl rfl rfl ?_
  refine TL.alloc [.arr 6 (enf u8v (fun _ => (0 : UInt8)))] rfl rfl Try.zeroValue41 rfl fun b_2 => ?_
  refine TL.stM (news := [.arr 6 (enf u8v (fun _ => (0 : UInt8)))]) 0 0 1 rfl Try.sizeOf41 (ones_arr (fun _ => rfl) ones_nil) rfl rfl rfl rfl rfl rfl ?_
  refine TL.done ?_
  refine TC.seq ?_
  refine TC.region ?_
  refine TL.move rfl rfl (v := .int .i64 i1) rfl ?_
  refine TL.chk fun h1 => ?_
  refine TL.ixa i1 i1.toNat h1 Try.underlying41 Try.sizeOf5 rfl rfl rfl rfl (by omega) ?_
  refine TL.stA (e := u8v) (z := (1 : UInt8)) 0 0 i1.toNat rfl Try.sizeOf5 rfl (by omega) (s := 0) rfl (by omega) rfl rfl rfl rfl rfl ?_
  refine TL.done ?_
  refine TC.seq ?_
  refine TC.region ?_
  refine TL.loadM 0 1 (Src.box 0 rfl) Try.isAgg41 Try.sizeOf41 (mid := [.arr 6 (enf u8v (upd (fun _ => (0 : UInt8)) i1.toNat (1 : UInt8)))]) rfl rfl rfl rfl rfl rfl ?_
  refine TL.stM (news := [.arr 6 (enf u8v (upd (fun _ => (0 : UInt8)) i1.toNat (1 : UInt8)))]) 1 0 1 rfl Try.sizeOf41 (ones_arr (fun _ => rfl) ones_nil) rfl rfl rfl rfl rfl rfl ?_
  refine TL.done ?_
  exact TC.retF (Fin.body (fin1 (.inr rfl) rfl (.cellN rfl (Src.box 1 rfl) Try.isAgg41 Try.sizeOf41 rfl) [] rfl ⟨rfl, rfl⟩))

end Go.Proofs.Ytiiljfpbcanphaa.G

/- spec.l01Mod, as a pure function. -/
set_option linter.unusedVariables false
namespace Go.Proofs.Ytiiljfpbcanphaa.G
open Go Go.Sx Go.Proofs

def spec_l01Mod.f (p1 : Int) (x1 : Int) : Option Int := nz p1 (some (Int.tmod (w64 ((Int.tmod x1 p1) + p1)) p1))

def spec_l01Mod.R (r : Int) (v : Value) (L : List Asn) : Prop := v = .int .i64 r ∧ L = []

set_option maxRecDepth 100000 in
set_option maxHeartbeats 4000000 in
theorem spec_l01Mod.calls (w : World) (p1 : Int) (x1 : Int) :
    ∀ r, spec_l01Mod.f p1 x1 = some r → Calls Try.prog 142 #[.int .i64 p1, .int .i64 x1] w (Ret w (spec_l01Mod.R r)) := by

  refine calls_T (n := 12) (Γ := [(0, .int .i64 p1), (1, .int .i64 x1)]) (R := spec_l01Mod.R) Try.func142 rfl rfl (Nat.le_of_ble_eq_true rfl) ⟨rfl, rfl, trivial⟩ ?_
  unfold spec_l01Mod.f
  refine TC.seq ?_
  refine TC.region ?_
  refine TL.assign rfl rfl (v := .int .i64 0) rfl ?_
  refine TL.done ?_
  refine TC.seq ?_
  refine TC.region ?_
  refine TL.move rfl rfl (v := .int .i64 x1) rfl ?_
  refine TL.move rfl rfl (v := .int .i64 p1) rfl ?_
  refine TL.nz fun z1 => ?_
  refine TL.rem .i64 x1 p1 z1 rfl rfl rfl rfl ?_
  refine TL.move rfl rfl (v := .int .i64 p1) rfl ?_
  refine TL.bin .i64 (Int.tmod x1 p1) p1 rfl rfl rfl rfl (v := .int .i64 (w64 ((Int.tmod x1 p1) + p1))) rfl ?_
  refine TL.move rfl rfl (v := .int .i64 p1) rfl ?_
  refine TL.rem .i64 (w64 ((Int.tmod x1 p1) + p1)) p1 z1 rfl rfl rfl rfl ?_
  refine TL.assign rfl rfl (v := .int .i64 (Int.tmod (w64 ((Int.tmod x1 p1) + p1)) p1)) rfl ?_
  refine TL.done ?_
  exact TC.retF (Fin.body (fin1 (.inr rfl) rfl (.tmp rfl) [] rfl ⟨rfl, rfl⟩))

end Go.Proofs.Ytiiljfpbcanphaa.G

/- spec.l01Inverse, as a pure function. -/
set_option linter.unusedVariables false
namespace Go.Proofs.Ytiiljfpbcanphaa.G
open Go Go.Sx Go.Proofs

def spec_l01Inverse.b0 (p1 : Int) (x1 : Int) : Int → Option (LR Int Int) := fun k_1 => (bif (decide (k_1 < p1)) then (G.spec_l01Mod.f p1 x1).bind (fun r_1 => nz p1 ((bif ((Int.tmod (w64 (k_1 * r_1)) p1) == 1) then some (.ret (k_1)) else some (.next (w64 (k_1 + 1)))))) else some (.brk k_1))

def spec_l01Inverse.f (p1 : Int) (x1 : Int) : Option Int := (loop (spec_l01Inverse.b0 p1 x1) 1).bind (ln (fun k_1 => some 0))

def spec_l01Inverse.R (r : Int) (v : Value) (L : List Asn) : Prop := v = .int .i64 r ∧ L = []

set_option maxRecDepth 100000 in
set_option maxHeartbeats 4000000 in
theorem spec_l01Inverse.calls (w : World) (p1 : Int) (x1 : Int) :
    ∀ r, spec_l01Inverse.f p1 x1 = some r → Calls Try.prog 76 #[.int .i64 p1, .int .i64 x1] w (Ret w (spec_l01Inverse.R r)) := by

  refine calls_T (n := 20) (Γ := [(0, .int .i64 p1), (1, .int .i64 x1)]) (R := spec_l01Inverse.R) Try.func76 rfl rfl (Nat.le_of_ble_eq_true rfl) ⟨rfl, rfl, trivial⟩ ?_
  unfold spec_l01Inverse.f
  refine TC.seq ?_
  refine TC.region ?_
  refine TL.assign rfl rfl (v := .int .i64 0) rfl ?_
  refine TL.done ?_
  refine TC.seq ?_
  refine TC.seq ?_
  refine TC.region ?_
  refine TL.assign rfl rfl (v := .int .i64 1) rfl ?_
  refine TL.done ?_
  refine TC.loopK (σ := Int) (γ := Unit) (Γ' := (fun k_1 _ => [(0, .int .i64 p1), (1, .int .i64 x1), (5, .int .i64 k_1)])) (L' := (fun k_1 _ => [])) (Γb := (fun k_1 _ => [(0, .int .i64 p1), (1, .int .i64 x1), (5, .int .i64 k_1)])) (Lb := (fun k_1 _ => [])) (1) (()) ⟨rfl, rfl, rfl, trivial⟩ [] rfl ?_ ?_
  · rintro k_1 _
    refine TC.seq ?_
    refine TC.seq ?_
    refine TC.region ?_
    refine TL.move rfl rfl (v := .int .i64 k_1) rfl ?_
    refine TL.move rfl rfl (v := .int .i64 p1) rfl ?_
    refine TL.bin .i64 k_1 p1 rfl rfl rfl rfl (v := .bool (decide (k_1 < p1))) rfl ?_
    refine TL.done ?_
    refine TC.cond (b := (decide (k_1 < p1))) rfl (fun c1 => ?_) (fun c2 => ?_)
    · refine TC.skip ?_
      refine TC.seq ?_
      refine TC.block (NoEx.loop rfl NoEx.body) ?_
      refine TC.seq ?_
      refine TC.region ?_
      refine TL.move rfl rfl (v := .int .i64 k_1) rfl ?_
      refine TL.move rfl rfl (v := .int .i64 p1) rfl ?_
      refine TL.move rfl rfl (v := .int .i64 x1) rfl ?_
      refine TL.call (R := G.spec_l01Mod.R) Try.call142 rfl rfl rfl (fun w hS => G.spec_l01Mod.calls w p1 x1) ?_
      rintro r_1 _ _ ⟨rfl, rfl⟩
      refine TL.bin .i64 k_1 r_1 rfl rfl rfl rfl (v := .int .i64 (w64 (k_1 * r_1))) rfl ?_
      refine TL.move rfl rfl (v := .int .i64 p1) rfl ?_
      refine TL.nz fun z1 => ?_
      refine TL.rem .i64 (w64 (k_1 * r_1)) p1 z1 rfl rfl rfl rfl ?_
      refine TL.bin .i64 (Int.tmod (w64 (k_1 * r_1)) p1) 1 rfl rfl rfl rfl (v := .bool ((Int.tmod (w64 (k_1 * r_1)) p1) == 1)) rfl ?_
      refine TL.done ?_
      refine TC.cond (b := ((Int.tmod (w64 (k_1 * r_1)) p1) == 1)) rfl (fun c3 => ?_) (fun c4 => ?_)
      · refine TC.seq ?_
        refine TC.region ?_
        refine TL.move rfl rfl (v := .int .i64 k_1) rfl ?_
        refine TL.assign rfl rfl (v := .int .i64 k_1) rfl ?_
        refine TL.done ?_
        exact TC.retF (Fin.loop Far.ret (Fin.body (fin1 (.inr rfl) rfl (.tmp rfl) [] rfl ⟨rfl, rfl⟩)))
      · refine TC.skip ?_
        refine TC.region ?_
        refine TL.move rfl rfl (v := .int .i64 k_1) rfl ?_
        refine TL.bin .i64 k_1 1 rfl rfl rfl rfl (v := .int .i64 (w64 (k_1 + 1))) rfl ?_
        refine TL.assign rfl rfl (v := .int .i64 (w64 (k_1 + 1))) rfl ?_
        refine TL.done ?_
        exact TC.next ((w64 (k_1 + 1))) (()) ⟨rfl, rfl, rfl, trivial⟩ [] rfl
    · exact TC.brk (k_1) (()) ⟨rfl, rfl, rfl, trivial⟩ [] rfl
  · rintro k_1 _
    refine TC.seq ?_
    refine TC.region ?_
    refine TL.assign rfl rfl (v := .int .i64 0) rfl ?_
    refine TL.done ?_
    exact TC.retF (Fin.body (fin1 (.inr rfl) rfl (.tmp rfl) [] rfl ⟨rfl, rfl⟩))

end Go.Proofs.Ytiiljfpbcanphaa.G

/- spec.l01Own, as a pure function. -/
set_option linter.unusedVariables false
namespace Go.Proofs.Ytiiljfpbcanphaa.G
open Go Go.Sx Go.Proofs

def spec_l01Own.f (list_1 : List Int) : Option (List Int) := small (([] : List Int).length + list_1.length) (some (([] : List Int) ++ list_1))

def spec_l01Own.R (r : List Int) (v : Value) (L : List Asn) : Prop := ∃ (s0 : SV), v = SV.v s0 ∧ L = [row Ei 2 s0 r]

set_option maxRecDepth 100000 in
set_option maxHeartbeats 4000000 in
theorem spec_l01Own.calls (w : World) (s1 : SV) (list_1 : List Int) (h1 : Reads Ei (hp w) s1 list_1) :
    ∀ r, spec_l01Own.f list_1 = some r → Calls Try.prog 165 #[SV.v s1] w (Ret w (spec_l01Own.R r)) := by

  refine calls_T (n := 6) (Γ := [(0, SV.v s1)]) (R := spec_l01Own.R) Try.func165 rfl rfl (Nat.le_of_ble_eq_true rfl) ⟨rfl, trivial⟩ ?_
  unfold spec_l01Own.f
  refine TC.seq ?_
  refine TC.region ?_
  refine TL.assign rfl rfl (v := SV.v ⟨none, 0, 0⟩) rfl ?_
  refine TL.done ?_
  refine TC.seq ?_
  refine TC.region ?_
  refine TL.bslice0 Ei Try.underlying22 Try.sizeOf2 rfl rfl fun s2 => ?_
  refine TL.move rfl rfl (v := SV.v s1) rfl ?_
  refine TL.small fun h2 => ?_
  refine TL.append 0 rfl (Rd.old h1) Try.underlying22 (info_of Try.type2) (zv := (Try.t2.zero.getD (.bool false))) rfl rfl rfl (by decide) h2 rfl rfl rfl rfl fun s3 => ?_
  refine TL.assign rfl rfl (v := SV.v s3) rfl ?_
  refine TL.done ?_
  exact TC.retF (Fin.body (fin1 (.inr rfl) rfl (.tmp rfl) [0] rfl ⟨s3, rfl, rfl⟩))

end Go.Proofs.Ytiiljfpbcanphaa.G

/- spec.l01Lead, as a pure function. -/
set_option linter.unusedVariables false
namespace Go.Proofs.Ytiiljfpbcanphaa.G
open Go Go.Sx Go.Proofs

def spec_l01Lead.b0 (row_1 : List Int) : Int → Option (LR Int Int) := fun i1 => (bif (decide (i1 < (row_1.length : Int))) then chk i1 row_1.length ((bif ((gt row_1 i1) != 0) then some (.ret (i1)) else some (.next (w64 (i1 + 1))))) else some (.brk i1))

def spec_l01Lead.f (row_1 : List Int) : Option Int := (loop (spec_l01Lead.b0 row_1) 0).bind (ln (fun i1 => some (-1)))

def spec_l01Lead.R (r : Int) (v : Value) (L : List Asn) : Prop := v = .int .i64 r ∧ L = []

set_option maxRecDepth 100000 in
set_option maxHeartbeats 4000000 in
theorem spec_l01Lead.calls (w : World) (s1 : SV) (row_1 : List Int) (h1 : Reads Ei (hp w) s1 row_1) :
    ∀ r, spec_l01Lead.f row_1 = some r → Calls Try.prog 192 #[SV.v s1] w (Ret w (spec_l01Lead.R r)) := by

  refine calls_T (n := 16) (Γ := [(0, SV.v s1)]) (R := spec_l01Lead.R) Try.func192 rfl rfl (Nat.le_of_ble_eq_true rfl) ⟨rfl, trivial⟩ ?_
  unfold spec_l01Lead.f
  refine TC.seq ?_
  refine TC.region ?_
  refine TL.assign rfl rfl (v := .int .i64 0) rfl ?_
  refine TL.done ?_
  refine TC.seq ?_
  refine TC.seq ?_
  refine TC.region ?_
  refine TL.assign rfl rfl (v := .int .i64 0) rfl ?_
  refine TL.done ?_
  refine TC.loopK (σ := Int) (γ := Unit) (Γ' := (fun i1 _ => [(0, SV.v s1), (3, .int .i64 i1)])) (L' := (fun i1 _ => [])) (Γb := (fun i1 _ => [(0, SV.v s1), (3, .int .i64 i1)])) (Lb := (fun i1 _ => [])) (0) (()) ⟨rfl, rfl, trivial⟩ [] rfl ?_ ?_
  · rintro i1 _
    refine TC.seq ?_
    refine TC.seq ?_
    refine TC.region ?_
    refine TL.move rfl rfl (v := .int .i64 i1) rfl ?_
    refine TL.move rfl rfl (v := SV.v s1) rfl ?_
    refine TL.len (Rd.old h1) Try.underlying22 rfl rfl rfl ?_
    refine TL.bin .i64 i1 (row_1.length : Int) rfl rfl rfl rfl (v := .bool (decide (i1 < (row_1.length : Int)))) rfl ?_
    refine TL.done ?_
    refine TC.cond (b := (decide (i1 < (row_1.length : Int)))) rfl (fun c1 => ?_) (fun c2 => ?_)
    · refine TC.skip ?_
      refine TC.seq ?_
      refine TC.block (NoEx.loop rfl NoEx.body) ?_
      refine TC.seq ?_
      refine TC.region ?_
      refine TL.move rfl rfl (v := SV.v s1) rfl ?_
      refine TL.move rfl rfl (v := .int .i64 i1) rfl ?_
      refine TL.chk fun h2 => ?_
      refine TL.ixs i1 i1.toNat (Rd.old h1) h2 Try.underlying22 Try.sizeOf2 rfl rfl rfl rfl (by omega) ?_
      refine TL.loadE (Rd.old h1) Try.isAgg2 i1.toNat 0 (gt_spec h2) (v := .int .i64 (gt row_1 i1)) rfl (by simp only [show Ei.sz = 1 from rfl] <;> omega) rfl rfl rfl ?_
      refine TL.bin .i64 (gt row_1 i1) 0 rfl rfl rfl rfl (v := .bool ((gt row_1 i1) != 0)) rfl ?_
      refine TL.done ?_
      refine TC.cond (b := ((gt row_1 i1) != 0)) rfl (fun c3 => ?_) (fun c4 => ?_)
      · refine TC.seq ?_
        refine TC.region ?_
        refine TL.move rfl rfl (v := .int .i64 i1) rfl ?_
        refine TL.assign rfl rfl (v := .int .i64 i1) rfl ?_
        refine TL.done ?_
        exact TC.retF (Fin.loop Far.ret (Fin.body (fin1 (.inr rfl) rfl (.tmp rfl) [] rfl ⟨rfl, rfl⟩)))
      · refine TC.skip ?_
        refine TC.region ?_
        refine TL.move rfl rfl (v := .int .i64 i1) rfl ?_
        refine TL.bin .i64 i1 1 rfl rfl rfl rfl (v := .int .i64 (w64 (i1 + 1))) rfl ?_
        refine TL.assign rfl rfl (v := .int .i64 (w64 (i1 + 1))) rfl ?_
        refine TL.done ?_
        exact TC.next ((w64 (i1 + 1))) (()) ⟨rfl, rfl, trivial⟩ [] rfl
    · exact TC.brk (i1) (()) ⟨rfl, rfl, trivial⟩ [] rfl
  · rintro i1 _
    refine TC.seq ?_
    refine TC.region ?_
    refine TL.assign rfl rfl (v := .int .i64 (-1)) rfl ?_
    refine TL.done ?_
    exact TC.retF (Fin.body (fin1 (.inr rfl) rfl (.tmp rfl) [] rfl ⟨rfl, rfl⟩))

end Go.Proofs.Ytiiljfpbcanphaa.G

/- spec.l01Less, as a pure function. -/
set_option linter.unusedVariables false
namespace Go.Proofs.Ytiiljfpbcanphaa.G
open Go Go.Sx Go.Proofs

def spec_l01Less.b0 (row_1 : List Int) (other1 : List Int) (p1 : Int) (k_1 : Int) : (List Int) × Int → Option (LB ((List Int) × Int)) := fun p => match p with | (out1, i1) => (bif (decide (i1 < (row_1.length : Int))) then chk i1 row_1.length (chk i1 other1.length ((G.spec_l01Mod.f p1 (w64 ((gt row_1 i1) - (w64 (k_1 * (gt other1 i1)))))).bind (fun r_1 => small (out1.length + ([r_1] : List Int).length) (some (.next ((out1 ++ ([r_1] : List Int)), (w64 (i1 + 1)))))))) else some (.brk (out1, i1)))

def spec_l01Less.f (p1 : Int) (row_1 : List Int) (other1 : List Int) (k_1 : Int) : Option (List Int) := (loop1 (spec_l01Less.b0 row_1 other1 p1 k_1) (([] : List Int), 0)).bind (fun p => match p with | (out1, i1) => some out1)

def spec_l01Less.R (r : List Int) (v : Value) (L : List Asn) : Prop := ∃ (s0 : SV), v = SV.v s0 ∧ L = [row Ei 2 s0 r]

set_option maxRecDepth 100000 in
set_option maxHeartbeats 4000000 in
theorem spec_l01Less.calls (w : World) (p1 : Int) (s1 : SV) (row_1 : List Int) (s2 : SV) (other1 : List Int) (k_1 : Int) (h1 : Reads Ei (hp w) s1 row_1) (h2 : Reads Ei (hp w) s2 other1) :
    ∀ r, spec_l01Less.f p1 row_1 other1 k_1 = some r → Calls Try.prog 195 #[.int .i64 p1, SV.v s1, SV.v s2, .int .i64 k_1] w (Ret w (spec_l01Less.R r)) := by

  refine calls_T (n := 35) (Γ := [(0, .int .i64 p1), (1, SV.v s1), (2, SV.v s2), (3, .int .i64 k_1)]) (R := spec_l01Less.R) Try.func195 rfl rfl (Nat.le_of_ble_eq_true rfl) ⟨rfl, rfl, rfl, rfl, trivial⟩ ?_
  unfold spec_l01Less.f
  refine TC.seq ?_
  refine TC.region ?_
  refine TL.assign rfl rfl (v := SV.v ⟨none, 0, 0⟩) rfl ?_
  refine TL.done ?_
  refine TC.seq ?_
  refine TC.region ?_
  refine TL.bslice0 Ei Try.underlying22 Try.sizeOf2 rfl rfl fun s3 => ?_
  refine TL.assign rfl rfl (v := SV.v s3) rfl ?_
  refine TL.done ?_
  refine TC.seq ?_
  refine TC.seq ?_
  refine TC.region ?_
  refine TL.assign rfl rfl (v := .int .i64 0) rfl ?_
  refine TL.done ?_
  refine TC.loop1 (σ := (List Int) × Int) (γ := SV) (Γ' := (fun p q => match p, q with | (out1, i1), s4 => [(0, .int .i64 p1), (1, SV.v s1), (2, SV.v s2), (3, .int .i64 k_1), (9, SV.v s4), (10, .int .i64 i1)])) (L' := (fun p q => match p, q with | (out1, i1), s4 => [row Ei 2 s4 out1])) (Γb := (fun p q => match p, q with | (out1, i1), s4 => [(0, .int .i64 p1), (1, SV.v s1), (2, SV.v s2), (3, .int .i64 k_1), (9, SV.v s4), (10, .int .i64 i1)])) (Lb := (fun p q => match p, q with | (out1, i1), s4 => [row Ei 2 s4 out1])) ((([] : List Int), 0)) (s3) ⟨rfl, rfl, rfl, rfl, rfl, rfl, trivial⟩ [0] rfl ?_ ?_
  · rintro ⟨out1, i1⟩ s4
    refine TC.seq ?_
    refine TC.seq ?_
    refine TC.region ?_
    refine TL.move rfl rfl (v := .int .i64 i1) rfl ?_
    refine TL.move rfl rfl (v := SV.v s1) rfl ?_
    refine TL.len (Rd.old h1) Try.underlying22 rfl rfl rfl ?_
    refine TL.bin .i64 i1 (row_1.length : Int) rfl rfl rfl rfl (v := .bool (decide (i1 < (row_1.length : Int)))) rfl ?_
    refine TL.done ?_
    refine TC.cond (b := (decide (i1 < (row_1.length : Int)))) rfl (fun c1 => ?_) (fun c2 => ?_)
    · refine TC.skip ?_
      refine TC.seq ?_
      refine TC.block (NoEx.loop1 rfl) ?_
      refine TC.wk (Γ' := [(0, .int .i64 p1), (1, SV.v s1), (2, SV.v s2), (3, .int .i64 k_1), (10, .int .i64 i1), (12, .int .i64 i1), (13, SV.v s1), (14, .int .i64 (row_1.length : Int)), (15, .bool (decide (i1 < (row_1.length : Int)))), (9, SV.v s4)]) ⟨rfl, rfl, rfl, rfl, rfl, rfl, rfl, rfl, rfl, rfl, trivial⟩ ?_
      refine TC.chk fun h3 => ?_
      refine TC.chk fun h4 => ?_
      refine TC.bindE ?_
      rintro r_1 hr1
      refine TC.small fun h5 => ?_
      refine TC.drawG [(0, .int .i64 p1), (1, SV.v s1), (2, SV.v s2), (3, .int .i64 k_1), (10, .int .i64 i1), (12, .int .i64 i1), (13, SV.v s1), (14, .int .i64 (row_1.length : Int)), (15, .bool (decide (i1 < (row_1.length : Int))))] [(9, SV.v s4, 16)] ⟨rfl, rfl, rfl, rfl, rfl, rfl, rfl, rfl, rfl, trivial⟩ ⟨rfl, trivial⟩ (fun l_ g1 => [(bif nb l_ 15 then row Ei 2 (gs (g1 120)) (out1 ++ ([r_1] : List Int)) else row Ei 2 s4 out1), (bif nb l_ 14 then row Ei 2 (gs (g1 112)) ([r_1] : List Int) else emp)]) (fun g1 => [SV.v s4, .int .i64 p1, SV.v s1, .int .i64 i1, ep s1 i1.toNat, .int .i64 (gt row_1 i1), .int .i64 k_1, SV.v s2, .int .i64 i1, ep s2 i1.toNat, .int .i64 (gt other1 i1), .int .i64 (w64 (k_1 * (gt other1 i1))), .int .i64 (w64 ((gt row_1 i1) - (w64 (k_1 * (gt other1 i1))))), .int .i64 r_1, SV.v (gs (g1 112)), SV.v (gs (g1 120)), SV.v (gs (g1 120))]) [[], [], [], [], [2, 3], [2, 3, 4], [], [], [], [7, 8], [7, 8, 9], [6, 7, 8, 9, 10], [2, 3, 4, 5, 6, 7, 8, 9, 10, 11], [1, 2, 3, 4, 5, 6, 7, 8, 9, 10, 11, 12], [1, 2, 3, 4, 5, 6, 7, 8, 9, 10, 11, 12, 13], [0, 1, 2, 3, 4, 5, 6, 7, 8, 9, 10, 11, 12, 13, 14], [0, 1, 2, 3, 4, 5, 6, 7, 8, 9, 10, 11, 12, 13, 14, 15]] [[some false, none, none, none, none, none, none, none, none, none, none, none, none, none, none, some false, some false], [none, some false, none, none, none, none, none, none, none, none, none, none, none, some false, some false, some false, some false], [none, none, some false, none, some false, some false, none, none, none, none, none, none, some false, some false, some false, some false, some false], [none, none, none, some false, some false, some false, none, none, none, none, none, none, some false, some false, some false, some false, some false], [none, none, some true, some true, some false, some false, none, none, none, none, none, none, some false, some false, some false, some false, some false], [none, none, some true, some true, some true, some false, none, none, none, none, none, none, some false, some false, some false, some false, some false], [none, none, none, none, none, none, some false, none, none, none, none, some false, some false, some false, some false, some false, some false], [none, none, none, none, none, none, none, some false, none, some false, some false, some false, some false, some false, some false, some false, some false], [none, none, none, none, none, none, none, none, some false, some false, some false, some false, some false, some false, some false, some false, some false], [none, none, none, none, none, none, none, some true, some true, some false, some false, some false, some false, some false, some false, some false, some false], [none, none, none, none, none, none, none, some true, some true, some true, some false, some false, some false, some false, some false, some false, some false], [none, none, none, none, none, none, some true, some true, some true, some true, some true, some false, some false, some false, some false, some false, some false], [none, none, some true, some true, some true, some true, some true, some true, some true, some true, some true, some true, some false, some false, some false, some false, some false], [none, some true, some true, some true, some true, some true, some true, some true, some true, some true, some true, some true, some true, some false, some false, some false, some false], [none, some true, some true, some true, some true, some true, some true, some true, some true, some true, some true, some true, some true, some true, some false, some false, some false], [some true, some true, some true, some true, some true, some true, some true, some true, some true, some true, some true, some true, some true, some true, some true, some false, some false], [some true, some true, some true, some true, some true, some true, some true, some true, some true, some true, some true, some true, some true, some true, some true, some true, some false]] (by kernel_rfl) (fun _ => rfl) rfl rfl rfl rfl rfl (fun _ _ => ⟨⟨⟨⟨⟨⟨⟨⟨⟨⟨⟨⟨⟨⟨⟨⟨⟨trivial, rfl⟩, rfl⟩, rfl⟩, rfl⟩, rfl⟩, rfl⟩, rfl⟩, rfl⟩, rfl⟩, rfl⟩, rfl⟩, rfl⟩, rfl⟩, rfl⟩, rfl⟩, rfl⟩, rfl⟩) 1 [1, 0] (fun _ => by kernel_rfl) ?_ ?_
      · refine ⟨rfl, ?_, rfl, ?_, rfl, ?_, rfl, ?_, rfl, ?_, rfl, ?_, rfl, ?_, rfl, ?_, rfl, ?_, rfl, ?_, rfl, ?_, rfl, ?_, rfl, ?_, rfl, ?_, rfl, ?_, rfl, ?_, rfl, ?_, trivial⟩
        · intro b1_ b2_ b3_ b4_ b5_ b6_ b7_ b8_ b9_ b10_ b11_ b12_ b13_ b14_ g1
          refine TL.move rfl rfl (v := SV.v s4) rfl ?_
          refine TL.done ?_
          exact TC.nrm () [] ⟨rfl, trivial⟩ [0, 0] (by kernel_rfl)
        · intro b0_ b2_ b3_ b4_ b5_ b6_ b7_ b8_ b9_ b10_ b11_ b12_ g1
          refine TL.move rfl rfl (v := .int .i64 p1) rfl ?_
          refine TL.done ?_
          exact TC.nrm () [] ⟨rfl, trivial⟩ [0, 0] (by kernel_rfl)
        · intro b0_ b1_ b3_ b6_ b7_ b8_ b9_ b10_ b11_ g1
          refine TL.move rfl rfl (v := SV.v s1) rfl ?_
          refine TL.done ?_
          exact TC.nrm () [] ⟨rfl, trivial⟩ [0, 0] (by kernel_rfl)
        · intro b0_ b1_ b2_ b6_ b7_ b8_ b9_ b10_ b11_ g1
          refine TL.move rfl rfl (v := .int .i64 i1) rfl ?_
          refine TL.done ?_
          exact TC.nrm () [] ⟨rfl, trivial⟩ [0, 0] (by kernel_rfl)
        · intro b0_ b1_ b6_ b7_ b8_ b9_ b10_ b11_ g1
          refine TL.asL [row Ei 2 s4 out1, emp] (by kernel_rfl) ?_
          refine TL.ixs i1 i1.toNat (Rd.old h1) h3 Try.underlying22 Try.sizeOf2 rfl rfl rfl rfl (by omega) ?_
          refine TL.done ?_
          exact TC.nrm () [] ⟨rfl, trivial⟩ [0, 0] (by kernel_rfl)
        · intro b0_ b1_ b6_ b7_ b8_ b9_ b10_ b11_ g1
          refine TL.asL [row Ei 2 s4 out1, emp] (by kernel_rfl) ?_
          refine TL.loadE (Rd.old h1) Try.isAgg2 i1.toNat 0 (gt_spec h3) (v := .int .i64 (gt row_1 i1)) rfl (by simp only [show Ei.sz = 1 from rfl] <;> omega) rfl rfl rfl ?_
          refine TL.done ?_
          exact TC.nrm () [] ⟨rfl, trivial⟩ [0, 0] (by kernel_rfl)
        · intro b0_ b1_ b2_ b3_ b4_ b5_ b7_ b8_ b9_ b10_ g1
          refine TL.move rfl rfl (v := .int .i64 k_1) rfl ?_
          refine TL.done ?_
          exact TC.nrm () [] ⟨rfl, trivial⟩ [0, 0] (by kernel_rfl)
        · intro b0_ b1_ b2_ b3_ b4_ b5_ b6_ b8_ g1
          refine TL.move rfl rfl (v := SV.v s2) rfl ?_
          refine TL.done ?_
          exact TC.nrm () [] ⟨rfl, trivial⟩ [0, 0] (by kernel_rfl)
        · intro b0_ b1_ b2_ b3_ b4_ b5_ b6_ b7_ g1
          refine TL.move rfl rfl (v := .int .i64 i1) rfl ?_
          refine TL.done ?_
          exact TC.nrm () [] ⟨rfl, trivial⟩ [0, 0] (by kernel_rfl)
        · intro b0_ b1_ b2_ b3_ b4_ b5_ b6_ g1
          refine TL.asL [row Ei 2 s4 out1, emp] (by kernel_rfl) ?_
          refine TL.ixs i1 i1.toNat (Rd.old h2) h4 Try.underlying22 Try.sizeOf2 rfl rfl rfl rfl (by omega) ?_
          refine TL.done ?_
          exact TC.nrm () [] ⟨rfl, trivial⟩ [0, 0] (by kernel_rfl)
        · intro b0_ b1_ b2_ b3_ b4_ b5_ b6_ g1
          refine TL.asL [row Ei 2 s4 out1, emp] (by kernel_rfl) ?_
          refine TL.loadE (Rd.old h2) Try.isAgg2 i1.toNat 0 (gt_spec h4) (v := .int .i64 (gt other1 i1)) rfl (by simp only [show Ei.sz = 1 from rfl] <;> omega) rfl rfl rfl ?_
          refine TL.done ?_
          exact TC.nrm () [] ⟨rfl, trivial⟩ [0, 0] (by kernel_rfl)
        · intro b0_ b1_ b2_ b3_ b4_ b5_ g1
          refine TL.bin .i64 k_1 (gt other1 i1) rfl rfl rfl rfl (v := .int .i64 (w64 (k_1 * (gt other1 i1)))) rfl ?_
          refine TL.done ?_
          exact TC.nrm () [] ⟨rfl, trivial⟩ [0, 0] (by kernel_rfl)
        · intro b0_ b1_ g1
          refine TL.bin .i64 (gt row_1 i1) (w64 (k_1 * (gt other1 i1))) rfl rfl rfl rfl (v := .int .i64 (w64 ((gt row_1 i1) - (w64 (k_1 * (gt other1 i1)))))) rfl ?_
          refine TL.done ?_
          exact TC.nrm () [] ⟨rfl, trivial⟩ [0, 0] (by kernel_rfl)
        · intro b0_ g1
          refine TL.asL [row Ei 2 s4 out1, emp] (by kernel_rfl) ?_
          refine TL.callH (R := G.spec_l01Mod.R) hr1 Try.call142 rfl rfl rfl (fun w hS => G.spec_l01Mod.calls w p1 (w64 ((gt row_1 i1) - (w64 (k_1 * (gt other1 i1)))))) ?_
          rintro _ _ ⟨rfl, rfl⟩
          refine TL.done ?_
          exact TC.nrm () [] ⟨rfl, trivial⟩ [0, 0] (by kernel_rfl)
        · intro b0_ g1
          refine TL.asL [row Ei 2 s4 out1, emp] (by kernel_rfl) ?_
          refine TL.blit Ei ([r_1] : List Int) Try.underlying22 Try.sizeOf2 Try.zeroValue2 rfl rfl rfl [(0, .int .i64 r_1)] rfl ⟨rfl, rfl, trivial⟩ rfl rfl fun s5 => ?_
          refine TL.done ?_
          exact TC.nrm () [[s5]] ⟨rfl, trivial⟩ [1, 0] (by kernel_rfl)
        · intro g1
          refine TL.asL [row Ei 2 s4 out1, row Ei 2 (gs (g1 112)) ([r_1] : List Int)] (by kernel_rfl) ?_
          refine TL.append 0 rfl (Rd.row 1 rfl) Try.underlying22 (info_of Try.type2) (zv := (Try.t2.zero.getD (.bool false))) rfl rfl rfl (by decide) h5 rfl rfl rfl rfl fun s6 => ?_
          refine TL.done ?_
          exact TC.nrm () [[s6]] ⟨rfl, trivial⟩ [0, 0] (by kernel_rfl)
        · intro g1
          refine TL.assign rfl rfl (v := SV.v (gs (g1 120))) rfl ?_
          refine TL.done ?_
          exact TC.nrm () [] ⟨rfl, trivial⟩ [0, 0] (by kernel_rfl)
      · intro g1
        refine TC.asL [row Ei 2 (gs (g1 120)) (out1 ++ ([r_1] : List Int)), row Ei 2 (gs (g1 112)) ([r_1] : List Int)] (by kernel_rfl) ?_
        refine TC.region ?_
        refine TL.move rfl rfl (v := .int .i64 i1) rfl ?_
        refine TL.bin .i64 i1 1 rfl rfl rfl rfl (v := .int .i64 (w64 (i1 + 1))) rfl ?_
        refine TL.assign rfl rfl (v := .int .i64 (w64 (i1 + 1))) rfl ?_
        refine TL.done ?_
        exact TC.next1 (((out1 ++ ([r_1] : List Int)), (w64 (i1 + 1)))) ((gs (g1 120))) ⟨rfl, rfl, rfl, rfl, rfl, rfl, trivial⟩ [0] rfl
    · exact TC.brk1 ((out1, i1)) (s4) ⟨rfl, rfl, rfl, rfl, rfl, rfl, trivial⟩ [0] rfl
  · rintro ⟨out1, i1⟩ s4
    refine TC.seq ?_
    refine TC.region ?_
    refine TL.move rfl rfl (v := SV.v s4) rfl ?_
    refine TL.assign rfl rfl (v := SV.v s4) rfl ?_
    refine TL.done ?_
    exact TC.retF (Fin.body (fin1 (.inr rfl) rfl (.tmp rfl) [0] rfl ⟨s4, rfl, rfl⟩))

end Go.Proofs.Ytiiljfpbcanphaa.G
