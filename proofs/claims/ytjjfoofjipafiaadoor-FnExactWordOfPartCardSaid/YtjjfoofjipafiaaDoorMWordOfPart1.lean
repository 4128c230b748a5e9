/- Functions of the program, as pure functions. -/
import Derived.Test.YtjjfoofjipafiaaDoorSy2
import Derived.Test.YtjjfoofjipafiaaDoorProg
import Derived.Shelf.Strings.OnBuilder
import Derived.Shelf.Strings.Split
import Derived.Shelf.Strings.Repeat
import Derived.WalkKit
import Derived.RangeFuncRecord
/- spec.l01In, as a pure function. -/
set_option linter.unusedVariables false
namespace Go.Proofs.YtjjfoofjipafiaaDoor.G
open Go Go.Sx Go.Proofs

def spec_l01In.f (n_1 : Int) (low1 : Int) (high1 : Int) : Option Bool := some ((decide (n_1 ≥ low1)) && (decide (n_1 ≤ high1)))

def spec_l01In.R (r : Bool) (v : Value) (L : List Asn) : Prop := v = .bool r ∧ L = []

set_option maxRecDepth 100000 in
set_option maxHeartbeats 4000000 in
theorem spec_l01In.calls (w : World) (n_1 : Int) (low1 : Int) (high1 : Int) :
    ∀ r, spec_l01In.f n_1 low1 high1 = some r → Calls Tryd.prog 6 #[.int .i64 n_1, .int .i64 low1, .int .i64 high1] w (Ret w (spec_l01In.R r)) := by

  refine calls_T (n := 15) (Γ := [(0, .int .i64 n_1), (1, .int .i64 low1), (2, .int .i64 high1)]) (R := spec_l01In.R) Tryd.func6 rfl rfl (Nat.le_of_ble_eq_true rfl) ⟨rfl, rfl, rfl, trivial⟩ ?_
  unfold spec_l01In.f
  refine TC.seq ?_
  refine TC.region ?_
  refine TL.assign rfl rfl (v := .bool false) rfl ?_
  refine TL.done ?_
  refine TC.seq ?_
  refine TC.region ?_
  refine TL.move rfl rfl (v := .int .i64 n_1) rfl ?_
  refine TL.move rfl rfl (v := .int .i64 low1) rfl ?_
  refine TL.bin .i64 n_1 low1 rfl rfl rfl rfl (v := .bool (decide (n_1 ≥ low1))) rfl ?_
  refine TL.move rfl rfl (v := .bool (decide (n_1 ≥ low1))) rfl ?_
  refine TL.cutU 4 [(14, .bool ((decide (n_1 ≥ low1)) && (decide (n_1 ≤ high1)))), (0, .int .i64 n_1), (1, .int .i64 low1), (2, .int .i64 high1), (6, .bool false), (7, .int .i64 n_1), (8, .int .i64 low1), (9, .bool (decide (n_1 ≥ low1))), (10, .bool (decide (n_1 ≥ low1)))] [] ?_ ?_
  · refine TL.cases (t := 10) (b := (decide (n_1 ≥ low1))) rfl (fun c1 => ?_) (fun c2 => ?_)
    · refine TL.move rfl rfl (v := .int .i64 n_1) rfl ?_
      refine TL.move rfl rfl (v := .int .i64 high1) rfl ?_
      refine TL.bin .i64 n_1 high1 rfl rfl rfl rfl (v := .bool (decide (n_1 ≤ high1))) rfl ?_
      refine TL.pick rfl rfl (b := true) rfl (r := .bool (decide (n_1 ≤ high1))) rfl ?_
      refine TL.done ?_
      exact TC.nrm () () ⟨(by rw [c1]; rfl), rfl, rfl, rfl, rfl, rfl, rfl, rfl, (by rw [c1]; rfl), trivial⟩ [] (by kernel_rfl)
    · refine TL.skip rfl rfl (by decide) ?_
      refine TL.skip rfl rfl (by decide) ?_
      refine TL.skip rfl rfl (by decide) ?_
      refine TL.pick rfl rfl (b := false) rfl (r := .bool false) rfl ?_
      refine TL.done ?_
      exact TC.nrm () () ⟨(by rw [c2]; rfl), rfl, rfl, rfl, rfl, rfl, rfl, rfl, (by rw [c2]; rfl), trivial⟩ [] (by kernel_rfl)
  · refine TL.assign rfl rfl (v := .bool ((decide (n_1 ≥ low1)) && (decide (n_1 ≤ high1)))) rfl ?_
    refine TL.done ?_
    exact TC.retF (Fin.body (fin1 (.inr rfl) rfl (.tmp rfl) [] rfl ⟨rfl, rfl⟩))

end Go.Proofs.YtjjfoofjipafiaaDoor.G

/- spec.l04Strands, as a pure function. -/
set_option linter.unusedVariables false
namespace Go.Proofs.YtjjfoofjipafiaaDoor.G
open Go Go.Sx Go.Proofs

def spec_l04Strands.b0 : Int × Str → Option (LB (Int × Str)) := fun p => match p with | (n_2, out1) => (bif (decide (n_2 > 0)) then small (out1.length + ([105] : Str).length) (some (.next ((w64 (n_2 - 1)), (out1 ++ ([105] : Str))))) else some (.brk (n_2, out1)))

def spec_l04Strands.f (n_1 : Int) : Option Str := (loop1 (spec_l04Strands.b0) (n_1, ([] : Str))).bind (fun p => match p with | (n_2, out1) => some out1)

def spec_l04Strands.R (r : Str) (v : Value) (L : List Asn) : Prop := v = strv r ∧ L = []

set_option maxRecDepth 100000 in
set_option maxHeartbeats 4000000 in
theorem spec_l04Strands.calls (w : World) (n_1 : Int) :
    ∀ r, spec_l04Strands.f n_1 = some r → Calls Tryd.prog 7 #[.int .i64 n_1] w (Ret w (spec_l04Strands.R r)) := by

  refine calls_T (n := 11) (Γ := [(0, .int .i64 n_1)]) (R := spec_l04Strands.R) Tryd.func7 rfl rfl (Nat.le_of_ble_eq_true rfl) ⟨rfl, trivial⟩ ?_
  unfold spec_l04Strands.f
  refine TC.seq ?_
  refine TC.region ?_
  refine TL.assign rfl rfl (v := strv ([] : Str)) rfl ?_
  refine TL.done ?_
  refine TC.seq ?_
  refine TC.region ?_
  refine TL.assign rfl rfl (v := strv ([] : Str)) rfl ?_
  refine TL.done ?_
  refine TC.seq ?_
  refine TC.loop1 (σ := Int × Str) (γ := Unit) (Γ' := (fun p q => match p, q with | (n_2, out1), _ => [(0, .int .i64 n_2), (3, strv out1)])) (L' := (fun p q => match p, q with | (n_2, out1), _ => [])) (Γb := (fun p q => match p, q with | (n_2, out1), _ => [(0, .int .i64 n_2), (3, strv out1)])) (Lb := (fun p q => match p, q with | (n_2, out1), _ => [])) ((n_1, ([] : Str))) (()) ⟨rfl, rfl, trivial⟩ [] rfl ?_ ?_
  · rintro ⟨n_2, out1⟩ _
    refine TC.seq ?_
    refine TC.seq ?_
    refine TC.region ?_
    refine TL.move rfl rfl (v := .int .i64 n_2) rfl ?_
    refine TL.bin .i64 n_2 0 rfl rfl rfl rfl (v := .bool (decide (n_2 > 0))) rfl ?_
    refine TL.done ?_
    refine TC.cond (b := (decide (n_2 > 0))) rfl (fun c1 => ?_) (fun c2 => ?_)
    · refine TC.skip ?_
      refine TC.seq ?_
      refine TC.block (NoEx.loop1 rfl) ?_
      refine TC.region ?_
      refine TL.move rfl rfl (v := strv out1) rfl ?_
      refine TL.small fun h1 => ?_
      refine TL.cat out1 ([105] : Str) h1 rfl rfl rfl rfl ?_
      refine TL.assign rfl rfl (v := strv (out1 ++ ([105] : Str))) rfl ?_
      refine TL.done ?_
      refine TC.region ?_
      refine TL.move rfl rfl (v := .int .i64 n_2) rfl ?_
      refine TL.bin .i64 n_2 1 rfl rfl rfl rfl (v := .int .i64 (w64 (n_2 - 1))) rfl ?_
      refine TL.assign rfl rfl (v := .int .i64 (w64 (n_2 - 1))) rfl ?_
      refine TL.done ?_
      exact TC.next1 (((w64 (n_2 - 1)), (out1 ++ ([105] : Str)))) (()) ⟨rfl, rfl, trivial⟩ [] rfl
    · exact TC.brk1 ((n_2, out1)) (()) ⟨rfl, rfl, trivial⟩ [] rfl
  · rintro ⟨n_2, out1⟩ _
    refine TC.seq ?_
    refine TC.region ?_
    refine TL.move rfl rfl (v := strv out1) rfl ?_
    refine TL.assign rfl rfl (v := strv out1) rfl ?_
    refine TL.done ?_
    exact TC.retF (Fin.body (fin1 (.inr rfl) rfl (.tmp rfl) [] rfl ⟨rfl, rfl⟩))

end Go.Proofs.YtjjfoofjipafiaaDoor.G

/- spec.l04Joined, as a pure function. -/
set_option linter.unusedVariables false
namespace Go.Proofs.YtjjfoofjipafiaaDoor.G
open Go Go.Sx Go.Proofs

def spec_l04Joined.b0 (list_1 : List Str) : Str × Int → Option (LB (Str × Int)) := fun p => match p with | (out1, i1) => (bif (decide (i1 < (list_1.length : Int))) then ((bif (decide (i1 > 0)) then small (out1.length + ([47] : Str).length) (some (out1 ++ ([47] : Str))) else some out1)).bind (fun out2 => chk i1 list_1.length (small (out2.length + (gt list_1 i1).length) (some (.next ((out2 ++ (gt list_1 i1)), (w64 (i1 + 1))))))) else some (.brk (out1, i1)))

def spec_l04Joined.f (list_1 : List Str) : Option Str := (loop1 (spec_l04Joined.b0 list_1) (([] : Str), 0)).bind (fun p => match p with | (out1, i1) => some out1)

def spec_l04Joined.R (r : Str) (v : Value) (L : List Asn) : Prop := v = strv r ∧ L = []

set_option maxRecDepth 100000 in
set_option maxHeartbeats 4000000 in
theorem spec_l04Joined.calls (w : World) (s1 : SV) (list_1 : List Str) (h1 : Reads Es (hp w) s1 list_1) :
    ∀ r, spec_l04Joined.f list_1 = some r → Calls Tryd.prog 8 #[SV.v s1] w (Ret w (spec_l04Joined.R r)) := by

  refine calls_T (n := 22) (Γ := [(0, SV.v s1)]) (R := spec_l04Joined.R) Tryd.func8 rfl rfl (Nat.le_of_ble_eq_true rfl) ⟨rfl, trivial⟩ ?_
  unfold spec_l04Joined.f
  refine TC.seq ?_
  refine TC.region ?_
  refine TL.assign rfl rfl (v := strv ([] : Str)) rfl ?_
  refine TL.done ?_
  refine TC.seq ?_
  refine TC.region ?_
  refine TL.assign rfl rfl (v := strv ([] : Str)) rfl ?_
  refine TL.done ?_
  refine TC.seq ?_
  refine TC.seq ?_
  refine TC.region ?_
  refine TL.assign rfl rfl (v := .int .i64 0) rfl ?_
  refine TL.done ?_
  refine TC.loop1 (σ := Str × Int) (γ := Unit) (Γ' := (fun p q => match p, q with | (out1, i1), _ => [(0, SV.v s1), (3, strv out1), (4, .int .i64 i1)])) (L' := (fun p q => match p, q with | (out1, i1), _ => [])) (Γb := (fun p q => match p, q with | (out1, i1), _ => [(0, SV.v s1), (3, strv out1), (4, .int .i64 i1)])) (Lb := (fun p q => match p, q with | (out1, i1), _ => [])) ((([] : Str), 0)) (()) ⟨rfl, rfl, rfl, trivial⟩ [] rfl ?_ ?_
  · rintro ⟨out1, i1⟩ _
    refine TC.seq ?_
    refine TC.seq ?_
    refine TC.region ?_
    refine TL.move rfl rfl (v := .int .i64 i1) rfl ?_
    refine TL.move rfl rfl (v := SV.v s1) rfl ?_
    refine TL.len (Rd.old h1) Tryd.underlying25 rfl rfl rfl ?_
    refine TL.bin .i64 i1 (list_1.length : Int) rfl rfl rfl rfl (v := .bool (decide (i1 < (list_1.length : Int)))) rfl ?_
    refine TL.done ?_
    refine TC.cond (b := (decide (i1 < (list_1.length : Int)))) rfl (fun c1 => ?_) (fun c2 => ?_)
    · refine TC.skip ?_
      refine TC.seq ?_
      refine TC.block (NoEx.loop1 rfl) ?_
      refine TC.seq ?_
      refine TC.seq ?_
      refine TC.region ?_
      refine TL.move rfl rfl (v := .int .i64 i1) rfl ?_
      refine TL.bin .i64 i1 0 rfl rfl rfl rfl (v := .bool (decide (i1 > 0))) rfl ?_
      refine TL.done ?_
      refine TC.join1 (σ := Str) (γ := Unit) (Γ' := (fun out2 _ => [(0, SV.v s1), (3, strv out2), (4, .int .i64 i1)])) (L' := (fun out2 _ => [])) ?_ ?_
      · refine TC.cond (b := (decide (i1 > 0))) rfl (fun c3 => ?_) (fun c4 => ?_)
        · refine TC.region ?_
          refine TL.move rfl rfl (v := strv out1) rfl ?_
          refine TL.small fun h2 => ?_
          refine TL.cat out1 ([47] : Str) h2 rfl rfl rfl rfl ?_
          refine TL.assign rfl rfl (v := strv (out1 ++ ([47] : Str))) rfl ?_
          refine TL.done ?_
          exact TC.nrm ((out1 ++ ([47] : Str))) (()) ⟨rfl, rfl, rfl, trivial⟩ [] rfl
        · refine TC.skip ?_
          exact TC.nrm (out1) (()) ⟨rfl, rfl, rfl, trivial⟩ [] rfl
      · rintro out2 _
        refine TC.region ?_
        refine TL.move rfl rfl (v := strv out2) rfl ?_
        refine TL.move rfl rfl (v := SV.v s1) rfl ?_
        refine TL.move rfl rfl (v := .int .i64 i1) rfl ?_
        refine TL.chk fun h3 => ?_
        refine TL.ixs i1 i1.toNat (Rd.old h1) h3 Tryd.underlying25 Tryd.sizeOf9 rfl rfl rfl rfl (by omega) ?_
        refine TL.loadE (Rd.old h1) Tryd.isAgg9 i1.toNat 0 (gt_spec h3) (v := strv (gt list_1 i1)) rfl (by simp only [show Es.sz = 1 from rfl] <;> omega) rfl rfl rfl ?_
        refine TL.small fun h4 => ?_
        refine TL.cat out2 (gt list_1 i1) h4 rfl rfl rfl rfl ?_
        refine TL.assign rfl rfl (v := strv (out2 ++ (gt list_1 i1))) rfl ?_
        refine TL.done ?_
        refine TC.region ?_
        refine TL.move rfl rfl (v := .int .i64 i1) rfl ?_
        refine TL.bin .i64 i1 1 rfl rfl rfl rfl (v := .int .i64 (w64 (i1 + 1))) rfl ?_
        refine TL.assign rfl rfl (v := .int .i64 (w64 (i1 + 1))) rfl ?_
        refine TL.done ?_
        exact TC.next1 (((out2 ++ (gt list_1 i1)), (w64 (i1 + 1)))) (()) ⟨rfl, rfl, rfl, trivial⟩ [] rfl
    · exact TC.brk1 ((out1, i1)) (()) ⟨rfl, rfl, rfl, trivial⟩ [] rfl
  · rintro ⟨out1, i1⟩ _
    refine TC.seq ?_
    refine TC.region ?_
    refine TL.move rfl rfl (v := strv out1) rfl ?_
    refine TL.assign rfl rfl (v := strv out1) rfl ?_
    refine TL.done ?_
    exact TC.retF (Fin.body (fin1 (.inr rfl) rfl (.tmp rfl) [] rfl ⟨rfl, rfl⟩))

end Go.Proofs.YtjjfoofjipafiaaDoor.G

/- spec.WordOfPart, as a pure function. -/
set_option linter.unusedVariables false
namespace Go.Proofs.YtjjfoofjipafiaaDoor.G
open Go Go.Sx Go.Proofs

def spec_WordOfPart.b0 : (List Str) × Int → Option (LB ((List Str) × Int)) := fun p => match p with | (x5, x6) => (bif (decide (x6 ≥ 2)) then (G.spec_l04Strands.f (w64 (x6 - 2))).bind (fun r_4 => small (([109] : Str).length + r_4.length) (small (x5.length + ([(([109] : Str) ++ r_4)] : List Str).length) (some (.next ((x5 ++ ([(([109] : Str) ++ r_4)] : List Str)), (w64 (x6 - 1))))))) else some (.brk (x5, x6)))

def spec_WordOfPart.b1 : Int × (List Str) → Option (LB (Int × (List Str))) := fun p => match p with | (x7, x8) => (bif (decide (x7 > 0)) then small (x8.length + ([([115] : Str), ([109] : Str)] : List Str).length) (some (.next ((w64 (x7 - 1)), (x8 ++ ([([115] : Str), ([109] : Str)] : List Str))))) else some (.brk (x7, x8)))

def spec_WordOfPart.b2 (x3 : Int) : (List Str) × Int → Option (LB ((List Str) × Int)) := fun p => match p with | (x10, x11) => (bif (decide (x11 < x3)) then (G.spec_l04Strands.f (w64 (x11 - 1))).bind (fun r_5 => small (([115] : Str).length + r_5.length) (small (x10.length + ([(([115] : Str) ++ r_5)] : List Str).length) (some (.next ((x10 ++ ([(([115] : Str) ++ r_5)] : List Str)), (w64 (x11 + 1))))))) else some (.brk (x10, x11)))

def spec_WordOfPart.f (x1 : Int) (x2 : Int) (x3 : Int) : Option (Str × Int) := (G.spec_l01In.f x1 0 20).bind (fun r_1 => (bif (!r_1) then some true else (G.spec_l01In.f x2 0 6).bind (fun r_2 => some (!r_2))).bind (fun b_1 => (bif b_1 then some true else (G.spec_l01In.f x3 0 6).bind (fun r_3 => some (!r_3))).bind (fun b_2 => (bif b_2 then some (([] : Str), 2) else ((bif (x2 == 0) then small (([] : List Str).length + ([([117] : Str)] : List Str).length) (some (([] : List Str) ++ ([([117] : Str)] : List Str))) else some ([] : List Str))).bind (fun x4 => (loop1 (spec_WordOfPart.b0) (x4, x2)).bind (fun p => match p with | (x5, x6) => (loop1 (spec_WordOfPart.b1) (x1, x5)).bind (fun p => match p with | (x7, x8) => ((bif (x3 == 0) then small (x8.length + ([([101] : Str)] : List Str).length) (some (x8 ++ ([([101] : Str)] : List Str))) else some x8)).bind (fun x9 => (loop1 (spec_WordOfPart.b2 x3) (x9, 1)).bind (fun p => match p with | (x10, x11) => ((bif ((x10.length : Int) == 0) then small (x10.length + ([([105] : Str)] : List Str).length) (some (x10 ++ ([([105] : Str)] : List Str))) else some x10)).bind (fun x12 => (G.spec_l04Joined.f x12).bind (fun r_6 => some (r_6, 0))))))))))))

def spec_WordOfPart.R (r : Str × Int) (v : Value) (L : List Asn) : Prop := v = .tuple #[strv r.1, .int .i64 r.2] ∧ L = []

set_option maxRecDepth 100000 in
set_option maxHeartbeats 4000000 in
theorem spec_WordOfPart.calls (w : World) (x1 : Int) (x2 : Int) (x3 : Int) :
    ∀ r, spec_WordOfPart.f x1 x2 x3 = some r → Calls Tryd.prog 4 #[.int .i64 x1, .int .i64 x2, .int .i64 x3] w (Ret w (spec_WordOfPart.R r)) := by

  refine calls_T (n := 74) (Γ := [(0, .int .i64 x1), (1, .int .i64 x2), (2, .int .i64 x3)]) (R := spec_WordOfPart.R) Tryd.func4 rfl rfl (Nat.le_of_ble_eq_true rfl) ⟨rfl, rfl, rfl, trivial⟩ ?_
  unfold spec_WordOfPart.f
  refine TC.seq ?_
  refine TC.region ?_
  refine TL.assign rfl rfl (v := strv ([] : Str)) rfl ?_
  refine TL.assign rfl rfl (v := .int .i64 0) rfl ?_
  refine TL.done ?_
  refine TC.seq ?_
  refine TC.seq ?_
  refine TC.region ?_
  refine TL.move rfl rfl (v := .int .i64 x1) rfl ?_
  refine TL.call (R := G.spec_l01In.R) Tryd.call6 rfl rfl rfl (fun w hS => G.spec_l01In.calls w x1 0 20) ?_
  rintro r_1 _ _ ⟨rfl, rfl⟩
  refine TL.not r_1 rfl rfl rfl ?_
  refine TL.move rfl rfl (v := .bool (!r_1)) rfl ?_
  refine TL.cutJ (σ := Bool) (γ := Unit) (Γ' := fun b_1 _ => [(18, .bool b_1), (0, .int .i64 x1), (1, .int .i64 x2), (2, .int .i64 x3), (6, strv ([] : Str)), (7, .int .i64 0), (11, .int .i64 x1), (12, .bool r_1), (13, .bool (!r_1)), (14, .bool (!r_1))]) (L' := fun _ _ => []) 4 ?_ ?_
  · refine TL.ifb (t := 14) (b := (!r_1)) rfl (fun c1 => ?_) (fun c2 => ?_)
    · refine TL.skip rfl rfl (by decide) ?_
      refine TL.skip rfl rfl (by decide) ?_
      refine TL.skip rfl rfl (by decide) ?_
      refine TL.pick rfl rfl (b := true) rfl (r := .bool true) rfl ?_
      refine TL.done ?_
      exact TC.nrm (true) () ⟨rfl, rfl, rfl, rfl, rfl, rfl, rfl, rfl, rfl, (by rw [c1]; rfl), trivial⟩ [] (by kernel_rfl)
    · refine TL.move rfl rfl (v := .int .i64 x2) rfl ?_
      refine TL.call (R := G.spec_l01In.R) Tryd.call6 rfl rfl rfl (fun w hS => G.spec_l01In.calls w x2 0 6) ?_
      rintro r_2 _ _ ⟨rfl, rfl⟩
      refine TL.not r_2 rfl rfl rfl ?_
      refine TL.pick rfl rfl (b := false) rfl (r := .bool (!r_2)) rfl ?_
      refine TL.done ?_
      exact TC.nrm ((!r_2)) () ⟨rfl, rfl, rfl, rfl, rfl, rfl, rfl, rfl, rfl, (by rw [c2]; rfl), trivial⟩ [] (by kernel_rfl)
  · rintro b_1 _
    refine TL.move rfl rfl (v := .bool b_1) rfl ?_
    refine TL.cutJ (σ := Bool) (γ := Unit) (Γ' := fun b_2 _ => [(23, .bool b_2), (0, .int .i64 x1), (1, .int .i64 x2), (2, .int .i64 x3), (6, strv ([] : Str)), (7, .int .i64 0), (11, .int .i64 x1), (12, .bool r_1), (13, .bool (!r_1)), (14, .bool (!r_1)), (18, .bool b_1), (19, .bool b_1)]) (L' := fun _ _ => []) 4 ?_ ?_
    · refine TL.ifb (t := 19) (b := b_1) rfl (fun c3 => ?_) (fun c4 => ?_)
      · refine TL.skip rfl rfl (by decide) ?_
        refine TL.skip rfl rfl (by decide) ?_
        refine TL.skip rfl rfl (by decide) ?_
        refine TL.pick rfl rfl (b := true) rfl (r := .bool true) rfl ?_
        refine TL.done ?_
        exact TC.nrm (true) () ⟨rfl, rfl, rfl, rfl, rfl, rfl, rfl, rfl, rfl, rfl, rfl, (by rw [c3]; rfl), trivial⟩ [] (by kernel_rfl)
      · refine TL.move rfl rfl (v := .int .i64 x3) rfl ?_
        refine TL.call (R := G.spec_l01In.R) Tryd.call6 rfl rfl rfl (fun w hS => G.spec_l01In.calls w x3 0 6) ?_
        rintro r_3 _ _ ⟨rfl, rfl⟩
        refine TL.not r_3 rfl rfl rfl ?_
        refine TL.pick rfl rfl (b := false) rfl (r := .bool (!r_3)) rfl ?_
        refine TL.done ?_
        exact TC.nrm ((!r_3)) () ⟨rfl, rfl, rfl, rfl, rfl, rfl, rfl, rfl, rfl, rfl, rfl, (by rw [c4]; rfl), trivial⟩ [] (by kernel_rfl)
    · rintro b_2 _
      refine TL.done ?_
      refine TC.cond (b := b_2) rfl (fun c5 => ?_) (fun c6 => ?_)
      · refine TC.seq ?_
        refine TC.region ?_
        refine TL.assign rfl rfl (v := strv ([] : Str)) rfl ?_
        refine TL.assign rfl rfl (v := .int .i64 2) rfl ?_
        refine TL.done ?_
        exact TC.retF (Fin.body (fin2 (.inr rfl) rfl (.tmp rfl) (.tmp rfl) [] rfl ⟨rfl, rfl⟩))
      · refine TC.skip ?_
        refine TC.seq ?_
        refine TC.region ?_
        refine TL.bslice0 Es Tryd.underlying25 Tryd.sizeOf9 rfl rfl fun s1 => ?_
        refine TL.assign rfl rfl (v := SV.v s1) rfl ?_
        refine TL.done ?_
        refine TC.seq ?_
        refine TC.seq ?_
        refine TC.region ?_
        refine TL.move rfl rfl (v := .int .i64 x2) rfl ?_
        refine TL.bin .i64 x2 0 rfl rfl rfl rfl (v := .bool (x2 == 0)) rfl ?_
        refine TL.done ?_
        refine TC.join1 (σ := (List Str)) (γ := SV) (Γ' := (fun x4 s2 => [(0, .int .i64 x1), (1, .int .i64 x2), (2, .int .i64 x3), (8, SV.v s2)])) (L' := (fun x4 s2 => [row Es 9 s2 x4])) ?_ ?_
        · refine TC.cond (b := (x2 == 0)) rfl (fun c7 => ?_) (fun c8 => ?_)
          · refine TC.region ?_
            refine TL.move rfl rfl (v := SV.v s1) rfl ?_
            refine TL.blit Es ([([117] : Str)] : List Str) Tryd.underlying25 Tryd.sizeOf9 Tryd.zeroValue9 rfl rfl rfl [(0, strv ([117] : Str))] rfl ⟨rfl, rfl, trivial⟩ rfl rfl fun s3 => ?_
            refine TL.small fun h1 => ?_
            refine TL.append 1 rfl (Rd.row 0 rfl) Tryd.underlying25 (info_of Tryd.type9) (zv := (Tryd.t9.zero.getD (.bool false))) rfl rfl rfl (by decide) h1 rfl rfl rfl rfl fun s4 => ?_
            refine TL.assign rfl rfl (v := SV.v s4) rfl ?_
            refine TL.done ?_
            exact TC.nrm ((([] : List Str) ++ ([([117] : Str)] : List Str))) (s4) ⟨rfl, rfl, rfl, rfl, trivial⟩ [1] rfl
          · refine TC.skip ?_
            exact TC.nrm (([] : List Str)) (s1) ⟨rfl, rfl, rfl, rfl, trivial⟩ [0] rfl
        · rintro x4 s2
          refine TC.seq ?_
          refine TC.seq ?_
          refine TC.region ?_
          refine TL.move rfl rfl (v := .int .i64 x2) rfl ?_
          refine TL.assign rfl rfl (v := .int .i64 x2) rfl ?_
          refine TL.done ?_
          refine TC.loop1 (σ := (List Str) × Int) (γ := SV) (Γ' := (fun p q => match p, q with | (x5, x6), s5 => [(0, .int .i64 x1), (2, .int .i64 x3), (8, SV.v s5), (9, .int .i64 x6)])) (L' := (fun p q => match p, q with | (x5, x6), s5 => [row Es 9 s5 x5])) (Γb := (fun p q => match p, q with | (x5, x6), s5 => [(0, .int .i64 x1), (2, .int .i64 x3), (8, SV.v s5), (9, .int .i64 x6)])) (Lb := (fun p q => match p, q with | (x5, x6), s5 => [row Es 9 s5 x5])) ((x4, x2)) (s2) ⟨rfl, rfl, rfl, rfl, trivial⟩ [0] rfl ?_ ?_
          · rintro ⟨x5, x6⟩ s5
            refine TC.seq ?_
            refine TC.seq ?_
            refine TC.region ?_
            refine TL.move rfl rfl (v := .int .i64 x6) rfl ?_
            refine TL.bin .i64 x6 2 rfl rfl rfl rfl (v := .bool (decide (x6 ≥ 2))) rfl ?_
            refine TL.done ?_
            refine TC.cond (b := (decide (x6 ≥ 2))) rfl (fun c9 => ?_) (fun c10 => ?_)
            · refine TC.skip ?_
              refine TC.seq ?_
              refine TC.block (NoEx.loop1 rfl) ?_
              refine TC.region ?_
              refine TL.move rfl rfl (v := SV.v s5) rfl ?_
              refine TL.move rfl rfl (v := .int .i64 x6) rfl ?_
              refine TL.bin .i64 x6 2 rfl rfl rfl rfl (v := .int .i64 (w64 (x6 - 2))) rfl ?_
              refine TL.call (R := G.spec_l04Strands.R) Tryd.call7 rfl rfl rfl (fun w hS => G.spec_l04Strands.calls w (w64 (x6 - 2))) ?_
              rintro r_4 _ _ ⟨rfl, rfl⟩
              refine TL.small fun h2 => ?_
              refine TL.cat ([109] : Str) r_4 h2 rfl rfl rfl rfl ?_
              refine TL.blit Es ([(([109] : Str) ++ r_4)] : List Str) Tryd.underlying25 Tryd.sizeOf9 Tryd.zeroValue9 rfl rfl rfl [(0, strv (([109] : Str) ++ r_4))] rfl ⟨rfl, rfl, trivial⟩ rfl rfl fun s6 => ?_
              refine TL.small fun h3 => ?_
              refine TL.append 1 rfl (Rd.row 0 rfl) Tryd.underlying25 (info_of Tryd.type9) (zv := (Tryd.t9.zero.getD (.bool false))) rfl rfl rfl (by decide) h3 rfl rfl rfl rfl fun s7 => ?_
              refine TL.assign rfl rfl (v := SV.v s7) rfl ?_
              refine TL.done ?_
              refine TC.region ?_
              refine TL.move rfl rfl (v := .int .i64 x6) rfl ?_
              refine TL.bin .i64 x6 1 rfl rfl rfl rfl (v := .int .i64 (w64 (x6 - 1))) rfl ?_
              refine TL.assign rfl rfl (v := .int .i64 (w64 (x6 - 1))) rfl ?_
              refine TL.done ?_
              exact TC.next1 (((x5 ++ ([(([109] : Str) ++ r_4)] : List Str)), (w64 (x6 - 1)))) (s7) ⟨rfl, rfl, rfl, rfl, trivial⟩ [1] rfl
            · exact TC.brk1 ((x5, x6)) (s5) ⟨rfl, rfl, rfl, rfl, trivial⟩ [0] rfl
          · rintro ⟨x5, x6⟩ s5
            refine TC.seq ?_
            refine TC.loop1 (σ := Int × (List Str)) (γ := SV) (Γ' := (fun p q => match p, q with | (x7, x8), s8 => [(0, .int .i64 x7), (2, .int .i64 x3), (8, SV.v s8)])) (L' := (fun p q => match p, q with | (x7, x8), s8 => [row Es 9 s8 x8])) (Γb := (fun p q => match p, q with | (x7, x8), s8 => [(0, .int .i64 x7), (2, .int .i64 x3), (8, SV.v s8)])) (Lb := (fun p q => match p, q with | (x7, x8), s8 => [row Es 9 s8 x8])) ((x1, x5)) (s5) ⟨rfl, rfl, rfl, trivial⟩ [0] rfl ?_ ?_
            · rintro ⟨x7, x8⟩ s8
              refine TC.seq ?_
              refine TC.seq ?_
              refine TC.region ?_
              refine TL.move rfl rfl (v := .int .i64 x7) rfl ?_
              refine TL.bin .i64 x7 0 rfl rfl rfl rfl (v := .bool (decide (x7 > 0))) rfl ?_
              refine TL.done ?_
              refine TC.cond (b := (decide (x7 > 0))) rfl (fun c11 => ?_) (fun c12 => ?_)
              · refine TC.skip ?_
                refine TC.seq ?_
                refine TC.block (NoEx.loop1 rfl) ?_
                refine TC.region ?_
                refine TL.move rfl rfl (v := SV.v s8) rfl ?_
                refine TL.blit Es ([([115] : Str), ([109] : Str)] : List Str) Tryd.underlying25 Tryd.sizeOf9 Tryd.zeroValue9 rfl rfl rfl [(0, strv ([115] : Str)), (1, strv ([109] : Str))] rfl ⟨rfl, rfl, rfl, rfl, trivial⟩ rfl rfl fun s9 => ?_
                refine TL.small fun h4 => ?_
                refine TL.append 1 rfl (Rd.row 0 rfl) Tryd.underlying25 (info_of Tryd.type9) (zv := (Tryd.t9.zero.getD (.bool false))) rfl rfl rfl (by decide) h4 rfl rfl rfl rfl fun s10 => ?_
                refine TL.assign rfl rfl (v := SV.v s10) rfl ?_
                refine TL.done ?_
                refine TC.region ?_
                refine TL.move rfl rfl (v := .int .i64 x7) rfl ?_
                refine TL.bin .i64 x7 1 rfl rfl rfl rfl (v := .int .i64 (w64 (x7 - 1))) rfl ?_
                refine TL.assign rfl rfl (v := .int .i64 (w64 (x7 - 1))) rfl ?_
                refine TL.done ?_
                exact TC.next1 (((w64 (x7 - 1)), (x8 ++ ([([115] : Str), ([109] : Str)] : List Str)))) (s10) ⟨rfl, rfl, rfl, trivial⟩ [1] rfl
              · exact TC.brk1 ((x7, x8)) (s8) ⟨rfl, rfl, rfl, trivial⟩ [0] rfl
            · rintro ⟨x7, x8⟩ s8
              refine TC.seq ?_
              refine TC.seq ?_
              refine TC.region ?_
              refine TL.move rfl rfl (v := .int .i64 x3) rfl ?_
              refine TL.bin .i64 x3 0 rfl rfl rfl rfl (v := .bool (x3 == 0)) rfl ?_
              refine TL.done ?_
              refine TC.join1 (σ := (List Str)) (γ := SV) (Γ' := (fun x9 s11 => [(2, .int .i64 x3), (8, SV.v s11)])) (L' := (fun x9 s11 => [row Es 9 s11 x9])) ?_ ?_
              · refine TC.cond (b := (x3 == 0)) rfl (fun c13 => ?_) (fun c14 => ?_)
                · refine TC.region ?_
                  refine TL.move rfl rfl (v := SV.v s8) rfl ?_
                  refine TL.blit Es ([([101] : Str)] : List Str) Tryd.underlying25 Tryd.sizeOf9 Tryd.zeroValue9 rfl rfl rfl [(0, strv ([101] : Str))] rfl ⟨rfl, rfl, trivial⟩ rfl rfl fun s12 => ?_
                  refine TL.small fun h5 => ?_
                  refine TL.append 1 rfl (Rd.row 0 rfl) Tryd.underlying25 (info_of Tryd.type9) (zv := (Tryd.t9.zero.getD (.bool false))) rfl rfl rfl (by decide) h5 rfl rfl rfl rfl fun s13 => ?_
                  refine TL.assign rfl rfl (v := SV.v s13) rfl ?_
                  refine TL.done ?_
                  exact TC.nrm ((x8 ++ ([([101] : Str)] : List Str))) (s13) ⟨rfl, rfl, trivial⟩ [1] rfl
                · refine TC.skip ?_
                  exact TC.nrm (x8) (s8) ⟨rfl, rfl, trivial⟩ [0] rfl
              · rintro x9 s11
                refine TC.seq ?_
                refine TC.seq ?_
                refine TC.region ?_
                refine TL.assign rfl rfl (v := .int .i64 1) rfl ?_
                refine TL.done ?_
                refine TC.loop1 (σ := (List Str) × Int) (γ := SV) (Γ' := (fun p q => match p, q with | (x10, x11), s14 => [(2, .int .i64 x3), (8, SV.v s14), (10, .int .i64 x11)])) (L' := (fun p q => match p, q with | (x10, x11), s14 => [row Es 9 s14 x10])) (Γb := (fun p q => match p, q with | (x10, x11), s14 => [(2, .int .i64 x3), (8, SV.v s14), (10, .int .i64 x11)])) (Lb := (fun p q => match p, q with | (x10, x11), s14 => [row Es 9 s14 x10])) ((x9, 1)) (s11) ⟨rfl, rfl, rfl, trivial⟩ [0] rfl ?_ ?_
                · rintro ⟨x10, x11⟩ s14
                  refine TC.seq ?_
                  refine TC.seq ?_
                  refine TC.region ?_
                  refine TL.move rfl rfl (v := .int .i64 x11) rfl ?_
                  refine TL.move rfl rfl (v := .int .i64 x3) rfl ?_
                  refine TL.bin .i64 x11 x3 rfl rfl rfl rfl (v := .bool (decide (x11 < x3))) rfl ?_
                  refine TL.done ?_
                  refine TC.cond (b := (decide (x11 < x3))) rfl (fun c15 => ?_) (fun c16 => ?_)
                  · refine TC.skip ?_
                    refine TC.seq ?_
                    refine TC.block (NoEx.loop1 rfl) ?_
                    refine TC.region ?_
                    refine TL.move rfl rfl (v := SV.v s14) rfl ?_
                    refine TL.move rfl rfl (v := .int .i64 x11) rfl ?_
                    refine TL.bin .i64 x11 1 rfl rfl rfl rfl (v := .int .i64 (w64 (x11 - 1))) rfl ?_
                    refine TL.call (R := G.spec_l04Strands.R) Tryd.call7 rfl rfl rfl (fun w hS => G.spec_l04Strands.calls w (w64 (x11 - 1))) ?_
                    rintro r_5 _ _ ⟨rfl, rfl⟩
                    refine TL.small fun h6 => ?_
                    refine TL.cat ([115] : Str) r_5 h6 rfl rfl rfl rfl ?_
                    refine TL.blit Es ([(([115] : Str) ++ r_5)] : List Str) Tryd.underlying25 Tryd.sizeOf9 Tryd.zeroValue9 rfl rfl rfl [(0, strv (([115] : Str) ++ r_5))] rfl ⟨rfl, rfl, trivial⟩ rfl rfl fun s15 => ?_
                    refine TL.small fun h7 => ?_
                    refine TL.append 1 rfl (Rd.row 0 rfl) Tryd.underlying25 (info_of Tryd.type9) (zv := (Tryd.t9.zero.getD (.bool false))) rfl rfl rfl (by decide) h7 rfl rfl rfl rfl fun s16 => ?_
                    refine TL.assign rfl rfl (v := SV.v s16) rfl ?_
                    refine TL.done ?_
                    refine TC.region ?_
                    refine TL.move rfl rfl (v := .int .i64 x11) rfl ?_
                    refine TL.bin .i64 x11 1 rfl rfl rfl rfl (v := .int .i64 (w64 (x11 + 1))) rfl ?_
                    refine TL.assign rfl rfl (v := .int .i64 (w64 (x11 + 1))) rfl ?_
                    refine TL.done ?_
                    exact TC.next1 (((x10 ++ ([(([115] : Str) ++ r_5)] : List Str)), (w64 (x11 + 1)))) (s16) ⟨rfl, rfl, rfl, trivial⟩ [1] rfl
                  · exact TC.brk1 ((x10, x11)) (s14) ⟨rfl, rfl, rfl, trivial⟩ [0] rfl
                · rintro ⟨x10, x11⟩ s14
                  refine TC.seq ?_
                  refine TC.seq ?_
                  refine TC.region ?_
                  refine TL.move rfl rfl (v := SV.v s14) rfl ?_
                  refine TL.len (Rd.row 0 rfl) Tryd.underlying25 rfl rfl rfl ?_
                  refine TL.bin .i64 (x10.length : Int) 0 rfl rfl rfl rfl (v := .bool ((x10.length : Int) == 0)) rfl ?_
                  refine TL.done ?_
                  refine TC.join1 (σ := (List Str)) (γ := SV) (Γ' := (fun x12 s17 => [(8, SV.v s17)])) (L' := (fun x12 s17 => [row Es 9 s17 x12])) ?_ ?_
                  · refine TC.cond (b := ((x10.length : Int) == 0)) rfl (fun c17 => ?_) (fun c18 => ?_)
                    · refine TC.region ?_
                      refine TL.move rfl rfl (v := SV.v s14) rfl ?_
                      refine TL.blit Es ([([105] : Str)] : List Str) Tryd.underlying25 Tryd.sizeOf9 Tryd.zeroValue9 rfl rfl rfl [(0, strv ([105] : Str))] rfl ⟨rfl, rfl, trivial⟩ rfl rfl fun s18 => ?_
                      refine TL.small fun h8 => ?_
                      refine TL.append 1 rfl (Rd.row 0 rfl) Tryd.underlying25 (info_of Tryd.type9) (zv := (Tryd.t9.zero.getD (.bool false))) rfl rfl rfl (by decide) h8 rfl rfl rfl rfl fun s19 => ?_
                      refine TL.assign rfl rfl (v := SV.v s19) rfl ?_
                      refine TL.done ?_
                      exact TC.nrm ((x10 ++ ([([105] : Str)] : List Str))) (s19) ⟨rfl, trivial⟩ [1] rfl
                    · refine TC.skip ?_
                      exact TC.nrm (x10) (s14) ⟨rfl, trivial⟩ [0] rfl
                  · rintro x12 s17
                    refine TC.seq ?_
                    refine TC.region ?_
                    refine TL.move rfl rfl (v := SV.v s17) rfl ?_
                    refine TL.call (R := G.spec_l04Joined.R) Tryd.call8 rfl rfl rfl (fun w hS => G.spec_l04Joined.calls w s17 x12 ((Rd.row 0 rfl) w hS)) ?_
                    rintro r_6 _ _ ⟨rfl, rfl⟩
                    refine TL.assign rfl rfl (v := strv r_6) rfl ?_
                    refine TL.assign rfl rfl (v := .int .i64 0) rfl ?_
                    refine TL.done ?_
                    exact TC.retF (Fin.body (fin2 (.inr rfl) rfl (.tmp rfl) (.tmp rfl) [] rfl ⟨rfl, rfl⟩))

end Go.Proofs.YtjjfoofjipafiaaDoor.G

/- impl.in, as a pure function. -/
set_option linter.unusedVariables false
namespace Go.Proofs.YtjjfoofjipafiaaDoor.G
open Go Go.Sx Go.Proofs

def impl_in.f (n_1 : Int) (low1 : Int) (high1 : Int) : Option Bool := some ((decide (n_1 ≥ low1)) && (decide (n_1 ≤ high1)))

def impl_in.R (r : Bool) (v : Value) (L : List Asn) : Prop := v = .bool r ∧ L = []

set_option maxRecDepth 100000 in
set_option maxHeartbeats 4000000 in
theorem impl_in.calls (w : World) (n_1 : Int) (low1 : Int) (high1 : Int) :
    ∀ r, impl_in.f n_1 low1 high1 = some r → Calls Tryd.prog 9 #[.int .i64 n_1, .int .i64 low1, .int .i64 high1] w (Ret w (impl_in.R r)) := by

  refine calls_T (n := 15) (Γ := [(0, .int .i64 n_1), (1, .int .i64 low1), (2, .int .i64 high1)]) (R := impl_in.R) Tryd.func9 rfl rfl (Nat.le_of_ble_eq_true rfl) ⟨rfl, rfl, rfl, trivial⟩ ?_
  unfold impl_in.f
  refine TC.seq ?_
  refine TC.region ?_
  refine TL.assign rfl rfl (v := .bool false) rfl ?_
  refine TL.done ?_
  refine TC.seq ?_
  refine TC.region ?_
  refine TL.move rfl rfl (v := .int .i64 n_1) rfl ?_
  refine TL.move rfl rfl (v := .int .i64 low1) rfl ?_
  refine TL.bin .i64 n_1 low1 rfl rfl rfl rfl (v := .bool (decide (n_1 ≥ low1))) rfl ?_
  refine TL.move rfl rfl (v := .bool (decide (n_1 ≥ low1))) rfl ?_
  refine TL.cutU 4 [(14, .bool ((decide (n_1 ≥ low1)) && (decide (n_1 ≤ high1)))), (0, .int .i64 n_1), (1, .int .i64 low1), (2, .int .i64 high1), (6, .bool false), (7, .int .i64 n_1), (8, .int .i64 low1), (9, .bool (decide (n_1 ≥ low1))), (10, .bool (decide (n_1 ≥ low1)))] [] ?_ ?_
  · refine TL.cases (t := 10) (b := (decide (n_1 ≥ low1))) rfl (fun c1 => ?_) (fun c2 => ?_)
    · refine TL.move rfl rfl (v := .int .i64 n_1) rfl ?_
      refine TL.move rfl rfl (v := .int .i64 high1) rfl ?_
      refine TL.bin .i64 n_1 high1 rfl rfl rfl rfl (v := .bool (decide (n_1 ≤ high1))) rfl ?_
      refine TL.pick rfl rfl (b := true) rfl (r := .bool (decide (n_1 ≤ high1))) rfl ?_
      refine TL.done ?_
      exact TC.nrm () () ⟨(by rw [c1]; rfl), rfl, rfl, rfl, rfl, rfl, rfl, rfl, (by rw [c1]; rfl), trivial⟩ [] (by kernel_rfl)
    · refine TL.skip rfl rfl (by decide) ?_
      refine TL.skip rfl rfl (by decide) ?_
      refine TL.skip rfl rfl (by decide) ?_
      refine TL.pick rfl rfl (b := false) rfl (r := .bool false) rfl ?_
      refine TL.done ?_
      exact TC.nrm () () ⟨(by rw [c2]; rfl), rfl, rfl, rfl, rfl, rfl, rfl, rfl, (by rw [c2]; rfl), trivial⟩ [] (by kernel_rfl)
  · refine TL.assign rfl rfl (v := .bool ((decide (n_1 ≥ low1)) && (decide (n_1 ≤ high1)))) rfl ?_
    refine TL.done ?_
    exact TC.retF (Fin.body (fin1 (.inr rfl) rfl (.tmp rfl) [] rfl ⟨rfl, rfl⟩))

end Go.Proofs.YtjjfoofjipafiaaDoor.G

/- Four functions of Go's library at this program: the kit's contracts, laid in plain words (by the kit's tool). -/
namespace Go.Proofs.YtjjfoofjipafiaaDoor.G
open Go Go.Proofs Go.Shelf
def lays156_ren : Go.Shelf.Ren := ⟨fun | 156 => 12 | 165 => 15 | 166 => 16 | 169 => 17 | 240 => 24 | 241 => 25 | 276 => 32 | 277 => 33 | n => n, fun | 31 => 25 | 9 => 9 | 3 => 3 | 4 => 4 | 0 => 0 | 20 => 20 | 72 => 35 | 76 => 39 | 70 => 32 | 37 => 33 | 75 => 38 | 127 => 51 | 164 => 61 | 5 => 5 | 80 => 41 | n => n, fun | n => n⟩
theorem lays156 : Go.Proofs.Lays.n156 Tryd.prog lays156_ren := {
  mixed := by kernel_rfl
  f156 := Tryd.func12.trans (congrArg some (by kernel_rfl))
  f165 := Tryd.func15.trans (congrArg some (by kernel_rfl))
  f166 := Tryd.func16.trans (congrArg some (by kernel_rfl))
  f169 := Tryd.func17.trans (congrArg some (by kernel_rfl))
  f240 := Tryd.func24.trans (congrArg some (by kernel_rfl))
  f241 := Tryd.func25.trans (congrArg some (by kernel_rfl))
  f276 := Tryd.func32.trans (congrArg some (by kernel_rfl))
  f277 := Tryd.func33.trans (congrArg some (by kernel_rfl))
  t0 := Tryd.underlying0
  a0 := Tryd.isAgg0
  z0 := Tryd.sizeOf0
  v0 := Tryd.zeroValue0
  t3 := Tryd.underlying3
  a3 := Tryd.isAgg3
  z3 := Tryd.sizeOf3
  v3 := Tryd.zeroValue3
  t4 := Tryd.underlying4
  a4 := Tryd.isAgg4
  z4 := Tryd.sizeOf4
  v4 := Tryd.zeroValue4
  t9 := Tryd.underlying9
  a9 := Tryd.isAgg9
  z9 := Tryd.sizeOf9
  v9 := Tryd.zeroValue9
  t20 := Tryd.underlying20
  a20 := Tryd.isAgg20
  z20 := Tryd.sizeOf20
  v20 := Tryd.zeroValue20
  t31 := Tryd.underlying25
  a31 := Tryd.isAgg25
  z31 := Tryd.sizeOf25
  v31 := Tryd.zeroValue25
  t37 := Tryd.underlying33
  a37 := Tryd.isAgg33
  z37 := Tryd.sizeOf33
  v37 := Tryd.zeroValue33
  t70 := Tryd.underlying32
  a70 := Tryd.isAgg32
  z70 := Tryd.sizeOf32
  v70 := Tryd.zeroValue32
  t72 := Tryd.underlying35
  a72 := Tryd.isAgg35
  z72 := Tryd.sizeOf35
  v72 := Tryd.zeroValue35
  t75 := Tryd.underlying38
  a75 := Tryd.isAgg38
  z75 := Tryd.sizeOf38
  v75 := Tryd.zeroValue38
  t76 := Tryd.underlying39
  a76 := Tryd.isAgg39
  z76 := Tryd.sizeOf39
  v76 := Tryd.zeroValue39
  t127 := Tryd.underlying51
  a127 := Tryd.isAgg51
  z127 := Tryd.sizeOf51
  v127 := Tryd.zeroValue51
  t164 := Tryd.underlying61
  a164 := Tryd.isAgg61
  z164 := Tryd.sizeOf61
  v164 := Tryd.zeroValue61 }
theorem Builder_Extra_156 : Builder.Extra Tryd.prog lays156_ren := {
  sizeBuilder := by kernel_rfl
  liesBuilder := by kernel_rfl
  t5 := Tryd.underlying5
  a5 := Tryd.isAgg5
  z5 := Tryd.sizeOf5
  v5 := Tryd.zeroValue5
  infoByte := by kernel_rfl
  cellsByte := by kernel_rfl
  sizeByte := by kernel_rfl
  neB5 := by decide }
def lays105_ren : Go.Shelf.Ren := ⟨fun | 105 => 13 | 212 => 18 | 99 => 19 | 165 => 15 | 166 => 16 | 170 => 20 | 169 => 17 | 263 => 26 | 264 => 27 | 206 => 28 | 240 => 24 | 241 => 25 | 276 => 32 | 277 => 33 | n => n, fun | 9 => 9 | 3 => 3 | 4 => 4 | 20 => 20 | 0 => 0 | 46 => 42 | 109 => 43 | 5 => 5 | 72 => 35 | 76 => 39 | 51 => 52 | 146 => 53 | 53 => 55 | 148 => 56 | 70 => 32 | 37 => 33 | 75 => 38 | 127 => 51 | 164 => 61 | 80 => 41 | n => n, fun | n => n⟩
theorem lays105 : Go.Proofs.Lays.n105 Tryd.prog lays105_ren := {
  mixed := by kernel_rfl
  f99 := Tryd.func19.trans (congrArg some (by kernel_rfl))
  f105 := Tryd.func13.trans (congrArg some (by kernel_rfl))
  f165 := Tryd.func15.trans (congrArg some (by kernel_rfl))
  f166 := Tryd.func16.trans (congrArg some (by kernel_rfl))
  f169 := Tryd.func17.trans (congrArg some (by kernel_rfl))
  f170 := Tryd.func20.trans (congrArg some (by kernel_rfl))
  f206 := Tryd.func28.trans (congrArg some (by kernel_rfl))
  f212 := Tryd.func18.trans (congrArg some (by kernel_rfl))
  f240 := Tryd.func24.trans (congrArg some (by kernel_rfl))
  f241 := Tryd.func25.trans (congrArg some (by kernel_rfl))
  f263 := Tryd.func26.trans (congrArg some (by kernel_rfl))
  f264 := Tryd.func27.trans (congrArg some (by kernel_rfl))
  f276 := Tryd.func32.trans (congrArg some (by kernel_rfl))
  f277 := Tryd.func33.trans (congrArg some (by kernel_rfl))
  t0 := Tryd.underlying0
  a0 := Tryd.isAgg0
  z0 := Tryd.sizeOf0
  v0 := Tryd.zeroValue0
  t3 := Tryd.underlying3
  a3 := Tryd.isAgg3
  z3 := Tryd.sizeOf3
  v3 := Tryd.zeroValue3
  t4 := Tryd.underlying4
  a4 := Tryd.isAgg4
  z4 := Tryd.sizeOf4
  v4 := Tryd.zeroValue4
  t5 := Tryd.underlying5
  a5 := Tryd.isAgg5
  z5 := Tryd.sizeOf5
  v5 := Tryd.zeroValue5
  t9 := Tryd.underlying9
  a9 := Tryd.isAgg9
  z9 := Tryd.sizeOf9
  v9 := Tryd.zeroValue9
  t20 := Tryd.underlying20
  a20 := Tryd.isAgg20
  z20 := Tryd.sizeOf20
  v20 := Tryd.zeroValue20
  t37 := Tryd.underlying33
  a37 := Tryd.isAgg33
  z37 := Tryd.sizeOf33
  v37 := Tryd.zeroValue33
  t46 := Tryd.underlying42
  a46 := Tryd.isAgg42
  z46 := Tryd.sizeOf42
  v46 := Tryd.zeroValue42
  t51 := Tryd.underlying52
  a51 := Tryd.isAgg52
  z51 := Tryd.sizeOf52
  v51 := Tryd.zeroValue52
  t53 := Tryd.underlying55
  a53 := Tryd.isAgg55
  z53 := Tryd.sizeOf55
  v53 := Tryd.zeroValue55
  t70 := Tryd.underlying32
  a70 := Tryd.isAgg32
  z70 := Tryd.sizeOf32
  v70 := Tryd.zeroValue32
  t72 := Tryd.underlying35
  a72 := Tryd.isAgg35
  z72 := Tryd.sizeOf35
  v72 := Tryd.zeroValue35
  t75 := Tryd.underlying38
  a75 := Tryd.isAgg38
  z75 := Tryd.sizeOf38
  v75 := Tryd.zeroValue38
  t76 := Tryd.underlying39
  a76 := Tryd.isAgg39
  z76 := Tryd.sizeOf39
  v76 := Tryd.zeroValue39
  t109 := Tryd.underlying43
  a109 := Tryd.isAgg43
  z109 := Tryd.sizeOf43
  v109 := Tryd.zeroValue43
  t127 := Tryd.underlying51
  a127 := Tryd.isAgg51
  z127 := Tryd.sizeOf51
  v127 := Tryd.zeroValue51
  t146 := Tryd.underlying53
  a146 := Tryd.isAgg53
  z146 := Tryd.sizeOf53
  v146 := Tryd.zeroValue53
  t148 := Tryd.underlying56
  a148 := Tryd.isAgg56
  z148 := Tryd.sizeOf56
  v148 := Tryd.zeroValue56
  t164 := Tryd.underlying61
  a164 := Tryd.isAgg61
  z164 := Tryd.sizeOf61
  v164 := Tryd.zeroValue61 }
theorem Builder_Extra_105 : Builder.Extra Tryd.prog lays105_ren := {
  sizeBuilder := by kernel_rfl
  liesBuilder := by kernel_rfl
  t5 := Tryd.underlying5
  a5 := Tryd.isAgg5
  z5 := Tryd.sizeOf5
  v5 := Tryd.zeroValue5
  infoByte := by kernel_rfl
  cellsByte := by kernel_rfl
  sizeByte := by kernel_rfl
  neB5 := by decide }
def lays146_ren : Go.Shelf.Ren := ⟨fun | 146 => 29 | 221 => 34 | 268 => 38 | 138 => 31 | 143 => 37 | 195 => 35 | 197 => 40 | 218 => 36 | 219 => 39 | 260 => 45 | 217 => 41 | 225 => 42 | 224 => 43 | 267 => 44 | 266 => 46 | 314 => 47 | n => n, fun | 9 => 9 | 31 => 25 | 3 => 3 | 4 => 4 | 0 => 0 | 105 => 67 | 21 => 21 | 5 => 5 | 46 => 42 | 119 => 71 | 139 => 74 | 138 => 73 | 146 => 53 | 51 => 52 | n => n, fun | 1 => 0 | 3 => 1 | 4 => 2 | n => n⟩
theorem lays146 : Go.Proofs.Lays.n146 Tryd.prog lays146_ren := {
  mixed := by kernel_rfl
  f138 := Tryd.func31.trans (congrArg some (by kernel_rfl))
  f143 := Tryd.func37.trans (congrArg some (by kernel_rfl))
  f146 := Tryd.func29.trans (congrArg some (by kernel_rfl))
  f195 := Tryd.func35.trans (congrArg some (by kernel_rfl))
  f197 := Tryd.func40.trans (congrArg some (by kernel_rfl))
  f217 := Tryd.func41.trans (congrArg some (by kernel_rfl))
  f218 := Tryd.func36.trans (congrArg some (by kernel_rfl))
  f219 := Tryd.func39.trans (congrArg some (by kernel_rfl))
  f221 := Tryd.func34.trans (congrArg some (by kernel_rfl))
  f224 := Tryd.func43.trans (congrArg some (by kernel_rfl))
  f225 := Tryd.func42.trans (congrArg some (by kernel_rfl))
  f260 := Tryd.func45.trans (congrArg some (by kernel_rfl))
  f266 := Tryd.func46.trans (congrArg some (by kernel_rfl))
  f267 := Tryd.func44.trans (congrArg some (by kernel_rfl))
  f268 := Tryd.func38.trans (congrArg some (by kernel_rfl))
  f314 := Tryd.func47.trans (congrArg some (by kernel_rfl))
  t0 := Tryd.underlying0
  a0 := Tryd.isAgg0
  z0 := Tryd.sizeOf0
  v0 := Tryd.zeroValue0
  t3 := Tryd.underlying3
  a3 := Tryd.isAgg3
  z3 := Tryd.sizeOf3
  v3 := Tryd.zeroValue3
  t4 := Tryd.underlying4
  a4 := Tryd.isAgg4
  z4 := Tryd.sizeOf4
  v4 := Tryd.zeroValue4
  t5 := Tryd.underlying5
  a5 := Tryd.isAgg5
  z5 := Tryd.sizeOf5
  v5 := Tryd.zeroValue5
  t9 := Tryd.underlying9
  a9 := Tryd.isAgg9
  z9 := Tryd.sizeOf9
  v9 := Tryd.zeroValue9
  t21 := Tryd.underlying21
  a21 := Tryd.isAgg21
  z21 := Tryd.sizeOf21
  v21 := Tryd.zeroValue21
  t31 := Tryd.underlying25
  a31 := Tryd.isAgg25
  z31 := Tryd.sizeOf25
  v31 := Tryd.zeroValue25
  t46 := Tryd.underlying42
  a46 := Tryd.isAgg42
  z46 := Tryd.sizeOf42
  v46 := Tryd.zeroValue42
  t51 := Tryd.underlying52
  a51 := Tryd.isAgg52
  z51 := Tryd.sizeOf52
  v51 := Tryd.zeroValue52
  t105 := Tryd.underlying67
  a105 := Tryd.isAgg67
  z105 := Tryd.sizeOf67
  v105 := Tryd.zeroValue67
  t119 := Tryd.underlying71
  a119 := Tryd.isAgg71
  z119 := Tryd.sizeOf71
  t138 := Tryd.underlying73
  a138 := Tryd.isAgg73
  z138 := Tryd.sizeOf73
  v138 := Tryd.zeroValue73
  t139 := Tryd.underlying74
  a139 := Tryd.isAgg74
  z139 := Tryd.sizeOf74
  v139 := Tryd.zeroValue74
  t146 := Tryd.underlying53
  a146 := Tryd.isAgg53
  z146 := Tryd.sizeOf53
  v146 := Tryd.zeroValue53
  g1 := by kernel_rfl
  g3 := by kernel_rfl
  g4 := by kernel_rfl }
def lays138_ren : Go.Shelf.Ren := ⟨fun | 138 => 31 | 195 => 35 | 218 => 36 | 143 => 37 | 219 => 39 | 217 => 41 | 225 => 42 | 224 => 43 | 267 => 44 | 266 => 46 | 314 => 47 | n => n, fun | 9 => 9 | 3 => 3 | 4 => 4 | 5 => 5 | 0 => 0 | 46 => 42 | 146 => 53 | 51 => 52 | n => n, fun | 1 => 0 | n => n⟩
theorem lays138 : Go.Proofs.Lays.n138 Tryd.prog lays138_ren := {
  mixed := by kernel_rfl
  f138 := Tryd.func31.trans (congrArg some (by kernel_rfl))
  f143 := Tryd.func37.trans (congrArg some (by kernel_rfl))
  f195 := Tryd.func35.trans (congrArg some (by kernel_rfl))
  f217 := Tryd.func41.trans (congrArg some (by kernel_rfl))
  f218 := Tryd.func36.trans (congrArg some (by kernel_rfl))
  f219 := Tryd.func39.trans (congrArg some (by kernel_rfl))
  f224 := Tryd.func43.trans (congrArg some (by kernel_rfl))
  f225 := Tryd.func42.trans (congrArg some (by kernel_rfl))
  f266 := Tryd.func46.trans (congrArg some (by kernel_rfl))
  f267 := Tryd.func44.trans (congrArg some (by kernel_rfl))
  f314 := Tryd.func47.trans (congrArg some (by kernel_rfl))
  t0 := Tryd.underlying0
  a0 := Tryd.isAgg0
  z0 := Tryd.sizeOf0
  v0 := Tryd.zeroValue0
  t3 := Tryd.underlying3
  a3 := Tryd.isAgg3
  z3 := Tryd.sizeOf3
  v3 := Tryd.zeroValue3
  t4 := Tryd.underlying4
  a4 := Tryd.isAgg4
  z4 := Tryd.sizeOf4
  v4 := Tryd.zeroValue4
  t5 := Tryd.underlying5
  a5 := Tryd.isAgg5
  z5 := Tryd.sizeOf5
  v5 := Tryd.zeroValue5
  t9 := Tryd.underlying9
  a9 := Tryd.isAgg9
  z9 := Tryd.sizeOf9
  v9 := Tryd.zeroValue9
  t46 := Tryd.underlying42
  a46 := Tryd.isAgg42
  z46 := Tryd.sizeOf42
  v46 := Tryd.zeroValue42
  t51 := Tryd.underlying52
  a51 := Tryd.isAgg52
  z51 := Tryd.sizeOf52
  v51 := Tryd.zeroValue52
  t146 := Tryd.underlying53
  a146 := Tryd.isAgg53
  z146 := Tryd.sizeOf53
  v146 := Tryd.zeroValue53
  g1 := by kernel_rfl }
def lays143_ren : Go.Shelf.Ren := ⟨fun | 143 => 37 | 219 => 39 | 217 => 41 | 225 => 42 | 224 => 43 | 267 => 44 | 266 => 46 | 314 => 47 | n => n, fun | 9 => 9 | 3 => 3 | 4 => 4 | 5 => 5 | 46 => 42 | 146 => 53 | 51 => 52 | n => n, fun | 1 => 0 | n => n⟩
theorem lays143 : Go.Proofs.Lays.n143 Tryd.prog lays143_ren := {
  mixed := by kernel_rfl
  f143 := Tryd.func37.trans (congrArg some (by kernel_rfl))
  f217 := Tryd.func41.trans (congrArg some (by kernel_rfl))
  f219 := Tryd.func39.trans (congrArg some (by kernel_rfl))
  f224 := Tryd.func43.trans (congrArg some (by kernel_rfl))
  f225 := Tryd.func42.trans (congrArg some (by kernel_rfl))
  f266 := Tryd.func46.trans (congrArg some (by kernel_rfl))
  f267 := Tryd.func44.trans (congrArg some (by kernel_rfl))
  f314 := Tryd.func47.trans (congrArg some (by kernel_rfl))
  t3 := Tryd.underlying3
  a3 := Tryd.isAgg3
  z3 := Tryd.sizeOf3
  v3 := Tryd.zeroValue3
  t4 := Tryd.underlying4
  a4 := Tryd.isAgg4
  z4 := Tryd.sizeOf4
  v4 := Tryd.zeroValue4
  t5 := Tryd.underlying5
  a5 := Tryd.isAgg5
  z5 := Tryd.sizeOf5
  v5 := Tryd.zeroValue5
  t9 := Tryd.underlying9
  a9 := Tryd.isAgg9
  z9 := Tryd.sizeOf9
  v9 := Tryd.zeroValue9
  t46 := Tryd.underlying42
  a46 := Tryd.isAgg42
  z46 := Tryd.sizeOf42
  v46 := Tryd.zeroValue42
  t51 := Tryd.underlying52
  a51 := Tryd.isAgg52
  z51 := Tryd.sizeOf52
  v51 := Tryd.zeroValue52
  t146 := Tryd.underlying53
  a146 := Tryd.isAgg53
  z146 := Tryd.sizeOf53
  v146 := Tryd.zeroValue53
  g1 := by kernel_rfl }
end Go.Proofs.YtjjfoofjipafiaaDoor.G

/- strings.Repeat, Join, Count and Split (at one byte): told by the kit's contracts. -/
set_option linter.unusedVariables false
namespace Go.Proofs.YtjjfoofjipafiaaDoor.G
open Go Go.Sx Go.Proofs Go.RowKit Go.Shelf

theorem ret_below {w W' : World} {R : Value → List Asn → Prop} {v : Value} (hb : Below w.heap.size w W') (hR : R v []) : Ret w R (.returned v) W' := by
  refine ⟨v, [], rfl, hR, ⟨hb, .refl _, ?_, [], rfl, by simp, by simp⟩⟩
  intro b o hbo
  have hbl : b < w.heap.size := (Array.getElem?_eq_some_iff.1 hbo).1
  exact (hb.block b hbl).trans hbo

/-! ### Repeat -/
def strings_Repeat.f (s : Str) (n : Int) : Option Str := if 0 ≤ n ∧ n ≤ 1000000 ∧ s.length ≤ 1000000 then some (Lib.repeatL s n.toNat) else none
def strings_Repeat.R (r : Str) (v : Value) (L : List Asn) : Prop := v = strv r ∧ L = []
theorem strings_Repeat.calls (w : World) (s : Str) (n : Int) : ∀ v, strings_Repeat.f s n = some v → Calls Tryd.prog 13 #[strv s, .int .i64 n] w (Ret w (strings_Repeat.R v)) := by
  intro v hv
  unfold strings_Repeat.f at hv
  split at hv
  case isFalse => cases hv
  case isTrue h =>
    obtain ⟨h0, h1, h2⟩ := h
    obtain rfl := Option.some.inj hv
    obtain ⟨c, rfl⟩ := Int.eq_ofNat_of_zero_le h0
    have hmul : s.length * c ≤ 1000000 * 1000000 := Nat.mul_le_mul h2 (by omega)
    have := Any.strings_Repeat lays105 Builder_Extra_105 ⟨s.toArray⟩ c w (by omega) (by show s.toArray.size * c ≤ _; rw [List.size_toArray]; omega)
    refine this.mono ?_
    rintro e W' ⟨rfl, hb⟩
    exact ret_below hb ⟨rfl, rfl⟩

/-! ### Count of one byte -/
def strings_Count.f (s sep : Str) : Option Int := match sep with
  | [c] => some ((s.count c : Nat) : Int)
  | _ => none
def strings_Count.R (r : Int) (v : Value) (L : List Asn) : Prop := v = .int .i64 r ∧ L = []
theorem strings_Count.calls (w : World) (s sep : Str) : ∀ v, strings_Count.f s sep = some v → Calls Tryd.prog 31 #[strv s, strv sep] w (Ret w (strings_Count.R v)) := by
  intro v hv
  unfold strings_Count.f at hv
  split at hv
  case h_2 => cases hv
  case h_1 c =>
    obtain rfl := Option.some.inj hv
    refine (Any.strings_Count_one lays138 ⟨s.toArray⟩ c w).mono ?_
    rintro e W' ⟨rfl, rfl⟩
    exact ret_below (Below.refl _ _) ⟨rfl, rfl⟩

/-! ### Join -/
def strings_Join.f (xs : List Str) (sep : Str) : Option Str := if xs.length ≤ 1000000 ∧ (Lib.join xs sep).length ≤ 1000000 then some (Lib.join xs sep) else none
def strings_Join.R (r : Str) (v : Value) (L : List Asn) : Prop := v = strv r ∧ L = []
theorem strings_Join.calls (w : World) (s : SV) (xs : List Str) (sep : Str) (h1 : Reads Es (hp w) s xs) : ∀ v, strings_Join.f xs sep = some v → Calls Tryd.prog 12 #[SV.v s, strv sep] w (Ret w (strings_Join.R v)) := by
  intro v hv
  unfold strings_Join.f at hv
  split at hv
  case isFalse => cases hv
  case isTrue h =>
    obtain ⟨hn, hl⟩ := h
    obtain rfl := Option.some.inj hv
    obtain ⟨r0, r1, r2, r3⟩ := h1
    obtain ⟨sa, sn, sc⟩ := s
    simp only at r0 r1 r2 r3
    subst r0
    rcases r3 with rfl | ⟨b, o, cs, T, fr, rfl, hb, hcs⟩
    · refine (Any.strings_Join_none lays156 Builder_Extra_156 sa sc ⟨sep.toArray⟩ w).mono ?_
      rintro e W' ⟨rfl, rfl⟩
      exact ret_below (Below.refl _ _) ⟨rfl, rfl⟩
    · have hmap : (xs.map fun x => (⟨x.toArray⟩ : ByteArray)).map (·.data.toList) = xs := by
        rw [List.map_map]
        exact List.map_id'' (fun x => rfl) xs
      have hcell : ∀ (j : Nat) x, (xs.map fun x => (⟨x.toArray⟩ : ByteArray))[j]? = some x → w.cell? ⟨b, o + j, none⟩ = some (.string x) := by
        intro j x hx
        rw [cell_at (show w.heap[b]? = _ from hb)]
        rw [List.getElem?_map] at hx
        cases hxj : xs[j]? with
        | none => rw [hxj] at hx; cases hx
        | some y =>
          rw [hxj] at hx
          obtain rfl := Option.some.inj hx
          refine hcs j _ ?_
          have := encs_get Es xs j 0 y hxj (by decide)
          have e : j * Es.sz + 0 = j := by simp [Es]
          rw [e] at this
          rw [this]
          rfl
      have := Any.strings_Join lays156 Builder_Extra_156 b o sc (xs.map fun x => ⟨x.toArray⟩) ⟨sep.toArray⟩ w hcell (Array.getElem?_eq_some_iff.1 hb).1 (by rw [List.length_map]; omega) (by rw [List.length_map]; exact r1) (by rw [hmap]; show (Lib.join xs sep).length ≤ _; omega)
      rw [hmap, List.length_map] at this
      refine this.mono ?_
      rintro e W' ⟨rfl, hb⟩
      exact ret_below hb ⟨rfl, rfl⟩

/-! ### Split at one byte -/
/-- The pieces between the bytes c. -/
def spl (c : UInt8) : Str → List Str
  | [] => [[]]
  | x :: l => if x = c then [] :: spl c l else match spl c l with
    | h :: t => (x :: h) :: t
    | [] => [[x]]
theorem spl_ne (c : UInt8) : ∀ l, spl c l ≠ []
  | [] => by simp [spl]
  | x :: l => by
    unfold spl
    split
    · simp
    · cases h : spl c l with
      | nil => simp
      | cons _ _ => simp
theorem index_cons (c x : UInt8) (l : Str) : Lib.index (x :: l) [c] = if x = c then 0 else if Lib.index l [c] = -1 then -1 else Lib.index l [c] + 1 := by
  rw [Lib.index]
  have hp : List.isPrefixOf [c] (x :: l) = (c == x) := by simp [List.isPrefixOf]
  rw [hp]
  by_cases h : x = c
  · subst h; simp
  · have : (c == x) = false := by
      rw [beq_eq_false_iff_ne]; exact fun e => h e.symm
    rw [this, if_neg h]
    simp
theorem index_ge0 (c : UInt8) : ∀ l : Str, Lib.index l [c] = -1 ∨ 0 ≤ Lib.index l [c]
  | [] => .inl rfl
  | x :: l => by
    have := index_ge0 c l
    rw [index_cons]
    split
    · exact .inr (by omega)
    · split
      · exact .inl rfl
      · exact .inr (by omega)
/-- What the first place of c says. -/
theorem index_spl (c : UInt8) : ∀ l : Str, (Lib.index l [c] = -1 → spl c l = [l] ∧ l.count c = 0) ∧ ∀ i : Nat, Lib.index l [c] = i → spl c l = l.take i :: spl c (l.drop (i + 1)) ∧ l.count c = (l.drop (i + 1)).count c + 1
  | [] => ⟨fun _ => ⟨rfl, rfl⟩, fun i hi => by
      have : Lib.index [] [c] = -1 := rfl
      omega⟩
  | x :: l => by
    obtain ⟨ih1, ih2⟩ := index_spl c l
    have hg := index_ge0 c l
    rw [index_cons]
    by_cases hx : x = c
    · subst hx
      rw [if_pos rfl]
      refine ⟨fun h => by omega, fun i hi => ?_⟩
      have : i = 0 := by omega
      subst this
      simp [spl]
    · rw [if_neg hx]
      have hxc : (x :: l).count c = l.count c := by
        rw [List.count_cons]
        have : (x == c) = false := by rw [beq_eq_false_iff_ne]; exact hx
        rw [this]; simp
      by_cases hm : Lib.index l [c] = -1
      · rw [if_pos hm]
        obtain ⟨a1, a2⟩ := ih1 hm
        refine ⟨fun _ => ⟨?_, by rw [hxc, a2]⟩, fun i hi => by omega⟩
        rw [spl, if_neg hx, a1]
      · rw [if_neg hm]
        obtain ⟨j, hj⟩ : ∃ j : Nat, Lib.index l [c] = j := Int.eq_ofNat_of_zero_le (by omega)
        refine ⟨fun h => by omega, fun i hi => ?_⟩
        have : i = j + 1 := by omega
        subst this
        obtain ⟨a1, a2⟩ := ih2 j hj
        rw [spl, if_neg hx, a1, hxc, a2]
        exact ⟨rfl, rfl⟩
theorem splitB_spl (c : UInt8) : ∀ (k : Nat) (s : ByteArray), s.data.toList.count c = k → (Lib.splitB ⟨#[c]⟩ 0 k s).map (·.data.toList) = spl c s.data.toList
  | 0, s, hk => by
    rcases index_ge0 c s.data.toList with h | h
    · rw [Lib.splitB_zero, ((index_spl c _).1 h).1]; rfl
    · obtain ⟨i, hi⟩ := Int.eq_ofNat_of_zero_le h
      have := ((index_spl c _).2 i hi).2
      omega
  | k + 1, s, hk => by
    rcases index_ge0 c s.data.toList with h | h
    · have := ((index_spl c _).1 h).2
      omega
    · obtain ⟨i, hi⟩ := Int.eq_ofNat_of_zero_le h
      obtain ⟨a1, a2⟩ := (index_spl c _).2 i hi
      have hB : Lib.indexB s ⟨#[c]⟩ = i := hi
      rw [Lib.splitB_hit _ _ _ _ i hB, List.map_cons, a1]
      have e1 : (s.extract 0 (i + 0)).data.toList = s.data.toList.take i := by simp
      have e2 : (s.extract (i + (⟨#[c]⟩ : ByteArray).size) s.size).data.toList = s.data.toList.drop (i + 1) := by
        have hz : (⟨#[c]⟩ : ByteArray).size = 1 := rfl
        rw [hz]
        exact Lib.extract_to_end _ _
      rw [e1, splitB_spl c k _ (by rw [e2]; omega), e2]
theorem index_byte (c : UInt8) : ∀ l : Str, Lib.index l [c] = Lib.indexByte l c
  | [] => rfl
  | x :: l => by
    rw [index_cons, Lib.indexByte, index_byte c l]
    by_cases h : x = c
    · subst h; simp
    · have : (x == c) = false := by rw [beq_eq_false_iff_ne]; exact h
      rw [this, if_neg h]; simp
def strings_genSplit.f (s sep : Str) (sv n : Int) : Option (List Str) := match sep with
  | [c] => if s.length ≤ 1000000 ∧ sv = 0 ∧ n = -1 then some (spl c s) else none
  | _ => none
def strings_genSplit.R (r : List Str) (v : Value) (L : List Asn) : Prop := ∃ s0 : SV, v = SV.v s0 ∧ L = [row Es 9 s0 r]
theorem cells_encs : ∀ xs : List ByteArray, xs.map Value.string = encs Es (xs.map (·.data.toList))
  | [] => rfl
  | x :: xs => by
    have ih := cells_encs xs
    unfold encs at ih ⊢
    rw [List.map_cons, List.map_cons, List.flatMap_cons, ih]
    rfl
theorem ret_row {w : World} {xs : List ByteArray} {r : List Str} (hr : xs.map (·.data.toList) = r) (hl : xs.length ≤ 1048576) :
    Ret w (strings_genSplit.R r) (.returned (.slice (some ⟨w.heap.size, 0, none⟩) xs.length xs.length)) (w.alloc (.cells (xs.map Value.string).toArray 9)) := by
  have hrl : r.length = xs.length := by rw [← hr, List.length_map]
  have hnew : (w.alloc (.cells (xs.map Value.string).toArray 9)).heap[w.heap.size]? = some (.cells (xs.map Value.string).toArray 9 (0, 0)) := World.alloc_heap_new w _
  refine ⟨_, _, rfl, ⟨⟨some ⟨w.heap.size, 0, none⟩, xs.length, xs.length⟩, rfl, rfl⟩, (Below.refl _ w).alloc (Nat.le_refl _) _, .refl _, ?_, [(w.heap.size, .cells (xs.map Value.string).toArray 9 (0, 0))], ⟨[(w.heap.size, .cells (xs.map Value.string).toArray 9 (0, 0))], [], rfl, ?_, rfl⟩, by simp, ?_⟩
  · intro b o hbo
    have hbl : b < w.heap.size := (Array.getElem?_eq_some_iff.1 hbo).1
    exact (Below.heap_alloc w _ b hbl).trans hbo
  · right
    refine ⟨w.heap.size, 0, xs.length, (xs.map Value.string).toArray, by rw [hrl], rfl, by rw [hrl]; exact Nat.le_refl _, by simp [maxLen]; omega, by simp [Es], ?_⟩
    rw [List.drop_zero, hrl]
    show ((xs.map Value.string).take (xs.length * 1)) = encs Es r
    rw [Nat.mul_one, List.take_of_length_le (by simp), ← hr]
    exact cells_encs xs
  · intro p hp
    obtain rfl := List.mem_singleton.1 hp
    exact ⟨Array.getElem?_eq_none (Nat.le_refl _), hnew⟩
theorem strings_genSplit.calls (w : World) (s sep : Str) (sv n : Int) : ∀ v, strings_genSplit.f s sep sv n = some v → Calls Tryd.prog 34 #[strv s, strv sep, .int .i64 sv, .int .i64 n] w (Ret w (strings_genSplit.R v)) := by
  intro v hv
  unfold strings_genSplit.f at hv
  split at hv
  case h_2 => cases hv
  case h_1 c =>
    split at hv
    case isFalse => cases hv
    case isTrue h =>
      obtain ⟨hs, rfl, rfl⟩ := h
      obtain rfl := Option.some.inj hv
      have hsz : (⟨s.toArray⟩ : ByteArray).size = s.length := by simp [ByteArray.size]
      have hcB : Lib.countB ⟨s.toArray⟩ ⟨#[c]⟩ = s.count c := Lib.count_one _ _
      have hcl : s.count c ≤ s.length := List.count_le_length
      have hlen := Lib.splitB_all ⟨#[c]⟩ (Nat.le_refl 1) 0 _ ⟨s.toArray⟩ rfl
      have hI : ∀ (x : ByteArray) (q : Array Value), x.size ≤ (⟨s.toArray⟩ : ByteArray).size → Calls Tryd.prog (lays146_ren.f 143) #[.string x, .string ⟨#[c]⟩] (w.alloc (.cells q (lays146_ren.t 9))) fun e w' => e = .returned (.int .i64 (Lib.indexB x ⟨#[c]⟩)) ∧ w' = w.alloc (.cells q (lays146_ren.t 9)) := by
        intro x q _
        have := Any.strings_Index_one lays143 x c (w.alloc (.cells q (lays146_ren.t 9)))
        rw [← index_byte] at this
        exact this
      have hC : Calls Tryd.prog (lays146_ren.f 138) #[.string ⟨s.toArray⟩, .string ⟨#[c]⟩] w fun e w' => e = .returned (.int .i64 (Lib.countB ⟨s.toArray⟩ ⟨#[c]⟩)) ∧ w' = w := by
        have := Any.strings_Count_one lays138 ⟨s.toArray⟩ c w
        rw [hcB]
        exact this
      have := Any.strings_genSplit_core (ρ := lays146_ren) { lays146 with } (by kernel_rfl) ⟨s.toArray⟩ ⟨#[c]⟩ 0 (-1) (Lib.countB ⟨s.toArray⟩ ⟨#[c]⟩ + 1) w (by rw [hsz]; omega) (Nat.le_refl 1) (Nat.zero_le _) hI hC (by decide) (by decide) (by rw [if_pos (by decide), hsz, hcB]; omega)
      rw [Nat.add_sub_cancel, hlen, hcB] at this
      have hlen2 : (Lib.splitB ⟨#[c]⟩ 0 (s.count c) ⟨s.toArray⟩).length = s.count c + 1 := by rw [← hcB]; exact hlen
      have e2 : Lib.cellsOf (Lib.splitB ⟨#[c]⟩ 0 (s.count c) ⟨s.toArray⟩) (s.count c + 1) = ((Lib.splitB ⟨#[c]⟩ 0 (s.count c) ⟨s.toArray⟩).map Value.string).toArray := by rw [← hlen2]; exact Lib.cellsOf_full _
      rw [e2] at this
      refine this.mono ?_
      rintro e W' ⟨rfl, rfl⟩
      have := ret_row (w := w) (splitB_spl c _ ⟨s.toArray⟩ rfl) (by rw [show (⟨s.toArray⟩ : ByteArray).data.toList.count c = s.count c from rfl, hlen2]; omega)
      rw [show (⟨s.toArray⟩ : ByteArray).data.toList.count c = s.count c from rfl, hlen2] at this
      exact this
end Go.Proofs.YtjjfoofjipafiaaDoor.G

/- strings.Repeat, told by hand. -/
namespace Go.Proofs.YtjjfoofjipafiaaDoor.G
end Go.Proofs.YtjjfoofjipafiaaDoor.G

/- impl.units, as a pure function. -/
set_option linter.unusedVariables false
namespace Go.Proofs.YtjjfoofjipafiaaDoor.G
open Go Go.Sx Go.Proofs

def impl_units.f (n_1 : Int) : Option Str := (G.strings_Repeat.f ([105] : Str) n_1).bind (fun r_1 => some r_1)

def impl_units.R (r : Str) (v : Value) (L : List Asn) : Prop := v = strv r ∧ L = []

set_option maxRecDepth 100000 in
set_option maxHeartbeats 4000000 in
theorem impl_units.calls (w : World) (n_1 : Int) :
    ∀ r, impl_units.f n_1 = some r → Calls Tryd.prog 10 #[.int .i64 n_1] w (Ret w (impl_units.R r)) := by

  refine calls_T (n := 5) (Γ := [(0, .int .i64 n_1)]) (R := impl_units.R) Tryd.func10 rfl rfl (Nat.le_of_ble_eq_true rfl) ⟨rfl, trivial⟩ ?_
  unfold impl_units.f
  refine TC.seq ?_
  refine TC.region ?_
  refine TL.assign rfl rfl (v := strv ([] : Str)) rfl ?_
  refine TL.done ?_
  refine TC.seq ?_
  refine TC.region ?_
  refine TL.move rfl rfl (v := .int .i64 n_1) rfl ?_
  refine TL.call (R := G.strings_Repeat.R) Tryd.call13 rfl rfl rfl (fun w hS => G.strings_Repeat.calls w ([105] : Str) n_1) ?_
  rintro r_1 _ _ ⟨rfl, rfl⟩
  refine TL.assign rfl rfl (v := strv r_1) rfl ?_
  refine TL.done ?_
  exact TC.retF (Fin.body (fin1 (.inr rfl) rfl (.tmp rfl) [] rfl ⟨rfl, rfl⟩))

end Go.Proofs.YtjjfoofjipafiaaDoor.G

/- strings.genSplit, told by hand. -/
namespace Go.Proofs.YtjjfoofjipafiaaDoor.G
end Go.Proofs.YtjjfoofjipafiaaDoor.G

/- strings.Split, as a pure function. -/
set_option linter.unusedVariables false
namespace Go.Proofs.YtjjfoofjipafiaaDoor.G
open Go Go.Sx Go.Proofs

def strings_Split.f (s1 : Str) (sep1 : Str) : Option (List Str) := (G.strings_genSplit.f s1 sep1 0 (-1)).bind (fun r_1 => some r_1)

def strings_Split.R (r : List Str) (v : Value) (L : List Asn) : Prop := ∃ (s0 : SV), v = SV.v s0 ∧ L = [row Es 9 s0 r]

set_option maxRecDepth 100000 in
set_option maxHeartbeats 4000000 in
theorem strings_Split.calls (w : World) (s1 : Str) (sep1 : Str) :
    ∀ r, strings_Split.f s1 sep1 = some r → Calls Tryd.prog 29 #[strv s1, strv sep1] w (Ret w (strings_Split.R r)) := by

  refine calls_T (n := 8) (Γ := [(0, strv s1), (1, strv sep1)]) (R := strings_Split.R) Tryd.func29 rfl rfl (Nat.le_of_ble_eq_true rfl) ⟨rfl, rfl, trivial⟩ ?_
  unfold strings_Split.f
  refine TC.seq ?_
  refine TC.region ?_
  refine TL.assign rfl rfl (v := SV.v ⟨none, 0, 0⟩) rfl ?_
  refine TL.done ?_
  refine TC.seq ?_
  refine TC.region ?_
  refine TL.move rfl rfl (v := strv s1) rfl ?_
  refine TL.move rfl rfl (v := strv sep1) rfl ?_
  refine TL.call (R := G.strings_genSplit.R) Tryd.call34 rfl rfl rfl (fun w hS => G.strings_genSplit.calls w s1 sep1 0 (-1)) ?_
  rintro r_1 _ _ ⟨s2, rfl, rfl⟩
  refine TL.assign rfl rfl (v := SV.v s2) rfl ?_
  refine TL.done ?_
  exact TC.retF (Fin.body (fin1 (.inr rfl) rfl (.tmp rfl) [0] rfl ⟨s2, rfl, rfl⟩))

end Go.Proofs.YtjjfoofjipafiaaDoor.G

/- impl.layers, as a pure function. -/
set_option linter.unusedVariables false
namespace Go.Proofs.YtjjfoofjipafiaaDoor.G
open Go Go.Sx Go.Proofs

def impl_layers.f (word1 : Str) : Option (List Str) := (bif (word1 == ([] : Str)) then some ([] : List Str) else (G.strings_Split.f word1 ([47] : Str)).bind (fun r_1 => some r_1))

def impl_layers.R (r : List Str) (v : Value) (L : List Asn) : Prop := ∃ (s0 : SV), v = SV.v s0 ∧ L = [row Es 9 s0 r]

set_option maxRecDepth 100000 in
set_option maxHeartbeats 4000000 in
theorem impl_layers.calls (w : World) (word1 : Str) :
    ∀ r, impl_layers.f word1 = some r → Calls Tryd.prog 21 #[strv word1] w (Ret w (impl_layers.R r)) := by

  refine calls_T (n := 7) (Γ := [(0, strv word1)]) (R := impl_layers.R) Tryd.func21 rfl rfl (Nat.le_of_ble_eq_true rfl) ⟨rfl, trivial⟩ ?_
  unfold impl_layers.f
  refine TC.seq ?_
  refine TC.region ?_
  refine TL.assign rfl rfl (v := SV.v ⟨none, 0, 0⟩) rfl ?_
  refine TL.done ?_
  refine TC.seq ?_
  refine TC.seq ?_
  refine TC.region ?_
  refine TL.move rfl rfl (v := strv word1) rfl ?_
  refine TL.strEq word1 ([] : Str) rfl rfl rfl rfl ?_
  refine TL.done ?_
  refine TC.cond (b := (word1 == ([] : Str))) rfl (fun c1 => ?_) (fun c2 => ?_)
  · refine TC.seq ?_
    refine TC.region ?_
    refine TL.assign rfl rfl (v := SV.v ⟨none, 0, 0⟩) rfl ?_
    refine TL.done ?_
    refine TC.nilrow Es 9 ?_
    exact TC.retF (Fin.body (fin1 (.inr rfl) rfl (.tmp rfl) [0] rfl ⟨⟨none, 0, 0⟩, rfl, rfl⟩))
  · refine TC.skip ?_
    refine TC.seq ?_
    refine TC.region ?_
    refine TL.move rfl rfl (v := strv word1) rfl ?_
    refine TL.call (R := G.strings_Split.R) Tryd.call29 rfl rfl rfl (fun w hS => G.strings_Split.calls w word1 ([47] : Str)) ?_
    rintro r_1 _ _ ⟨s1, rfl, rfl⟩
    refine TL.assign rfl rfl (v := SV.v s1) rfl ?_
    refine TL.done ?_
    exact TC.retF (Fin.body (fin1 (.inr rfl) rfl (.tmp rfl) [0] rfl ⟨s1, rfl, rfl⟩))

end Go.Proofs.YtjjfoofjipafiaaDoor.G

/- impl.legsOfPiece, as a pure function. -/
set_option linter.unusedVariables false
namespace Go.Proofs.YtjjfoofjipafiaaDoor.G
open Go Go.Sx Go.Proofs

def impl_legsOfPiece.f (c1 : UInt8) : Option (Int × Int × Bool) := (bif ((c1.toNat : Int) == ((105 : UInt8).toNat : Int)) then some (1, 1, true) else (bif ((c1.toNat : Int) == ((120 : UInt8).toNat : Int)) then some (2, 2, true) else (bif ((c1.toNat : Int) == ((109 : UInt8).toNat : Int)) then some (2, 1, true) else (bif ((c1.toNat : Int) == ((115 : UInt8).toNat : Int)) then some (1, 2, true) else (bif ((c1.toNat : Int) == ((117 : UInt8).toNat : Int)) then some (0, 1, true) else (bif ((c1.toNat : Int) == ((101 : UInt8).toNat : Int)) then some (1, 0, true) else some (0, 0, false)))))))

def impl_legsOfPiece.R (r : Int × Int × Bool) (v : Value) (L : List Asn) : Prop := v = .tuple #[.int .i64 r.1, .int .i64 r.2.1, .bool r.2.2] ∧ L = []

set_option maxRecDepth 100000 in
set_option maxHeartbeats 4000000 in
theorem impl_legsOfPiece.calls (w : World) (c1 : UInt8) :
    ∀ r, impl_legsOfPiece.f c1 = some r → Calls Tryd.prog 30 #[u8v c1] w (Ret w (impl_legsOfPiece.R r)) := by

  refine calls_T (n := 18) (Γ := [(0, u8v c1)]) (R := impl_legsOfPiece.R) Tryd.func30 rfl rfl (Nat.le_of_ble_eq_true rfl) ⟨rfl, trivial⟩ ?_
  unfold impl_legsOfPiece.f
  refine TC.seq ?_
  refine TC.region ?_
  refine TL.assign rfl rfl (v := .int .i64 0) rfl ?_
  refine TL.assign rfl rfl (v := .int .i64 0) rfl ?_
  refine TL.assign rfl rfl (v := .bool false) rfl ?_
  refine TL.done ?_
  refine TC.seq ?_
  refine TC.seq ?_
  refine TC.region ?_
  refine TL.move rfl rfl (v := u8v c1) rfl ?_
  refine TL.done ?_
  refine TC.block NoEx.body ?_
  refine TC.seq ?_
  refine TC.region ?_
  refine TL.bin .u8 (c1.toNat : Int) ((105 : UInt8).toNat : Int) rfl rfl rfl rfl (v := .bool ((c1.toNat : Int) == ((105 : UInt8).toNat : Int))) rfl ?_
  refine TL.assign rfl rfl (v := .bool ((c1.toNat : Int) == ((105 : UInt8).toNat : Int))) rfl ?_
  refine TL.done ?_
  refine TC.cond (b := ((c1.toNat : Int) == ((105 : UInt8).toNat : Int))) rfl (fun c2 => ?_) (fun c3 => ?_)
  · refine TC.seq ?_
    refine TC.region ?_
    refine TL.assign rfl rfl (v := .int .i64 1) rfl ?_
    refine TL.assign rfl rfl (v := .int .i64 1) rfl ?_
    refine TL.assign rfl rfl (v := .bool true) rfl ?_
    refine TL.done ?_
    exact TC.retF (Fin.body (fin3 (.inr rfl) rfl (.tmp rfl) (.tmp rfl) (.tmp rfl) [] rfl ⟨rfl, rfl⟩))
  · refine TC.seq ?_
    refine TC.region ?_
    refine TL.bin .u8 (c1.toNat : Int) ((120 : UInt8).toNat : Int) rfl rfl rfl rfl (v := .bool ((c1.toNat : Int) == ((120 : UInt8).toNat : Int))) rfl ?_
    refine TL.assign rfl rfl (v := .bool ((c1.toNat : Int) == ((120 : UInt8).toNat : Int))) rfl ?_
    refine TL.done ?_
    refine TC.cond (b := ((c1.toNat : Int) == ((120 : UInt8).toNat : Int))) rfl (fun c4 => ?_) (fun c5 => ?_)
    · refine TC.seq ?_
      refine TC.region ?_
      refine TL.assign rfl rfl (v := .int .i64 2) rfl ?_
      refine TL.assign rfl rfl (v := .int .i64 2) rfl ?_
      refine TL.assign rfl rfl (v := .bool true) rfl ?_
      refine TL.done ?_
      exact TC.retF (Fin.body (fin3 (.inr rfl) rfl (.tmp rfl) (.tmp rfl) (.tmp rfl) [] rfl ⟨rfl, rfl⟩))
    · refine TC.seq ?_
      refine TC.region ?_
      refine TL.bin .u8 (c1.toNat : Int) ((109 : UInt8).toNat : Int) rfl rfl rfl rfl (v := .bool ((c1.toNat : Int) == ((109 : UInt8).toNat : Int))) rfl ?_
      refine TL.assign rfl rfl (v := .bool ((c1.toNat : Int) == ((109 : UInt8).toNat : Int))) rfl ?_
      refine TL.done ?_
      refine TC.cond (b := ((c1.toNat : Int) == ((109 : UInt8).toNat : Int))) rfl (fun c6 => ?_) (fun c7 => ?_)
      · refine TC.seq ?_
        refine TC.region ?_
        refine TL.assign rfl rfl (v := .int .i64 2) rfl ?_
        refine TL.assign rfl rfl (v := .int .i64 1) rfl ?_
        refine TL.assign rfl rfl (v := .bool true) rfl ?_
        refine TL.done ?_
        exact TC.retF (Fin.body (fin3 (.inr rfl) rfl (.tmp rfl) (.tmp rfl) (.tmp rfl) [] rfl ⟨rfl, rfl⟩))
      · refine TC.seq ?_
        refine TC.region ?_
        refine TL.bin .u8 (c1.toNat : Int) ((115 : UInt8).toNat : Int) rfl rfl rfl rfl (v := .bool ((c1.toNat : Int) == ((115 : UInt8).toNat : Int))) rfl ?_
        refine TL.assign rfl rfl (v := .bool ((c1.toNat : Int) == ((115 : UInt8).toNat : Int))) rfl ?_
        refine TL.done ?_
        refine TC.cond (b := ((c1.toNat : Int) == ((115 : UInt8).toNat : Int))) rfl (fun c8 => ?_) (fun c9 => ?_)
        · refine TC.seq ?_
          refine TC.region ?_
          refine TL.assign rfl rfl (v := .int .i64 1) rfl ?_
          refine TL.assign rfl rfl (v := .int .i64 2) rfl ?_
          refine TL.assign rfl rfl (v := .bool true) rfl ?_
          refine TL.done ?_
          exact TC.retF (Fin.body (fin3 (.inr rfl) rfl (.tmp rfl) (.tmp rfl) (.tmp rfl) [] rfl ⟨rfl, rfl⟩))
        · refine TC.seq ?_
          refine TC.region ?_
          refine TL.bin .u8 (c1.toNat : Int) ((117 : UInt8).toNat : Int) rfl rfl rfl rfl (v := .bool ((c1.toNat : Int) == ((117 : UInt8).toNat : Int))) rfl ?_
          refine TL.assign rfl rfl (v := .bool ((c1.toNat : Int) == ((117 : UInt8).toNat : Int))) rfl ?_
          refine TL.done ?_
          refine TC.cond (b := ((c1.toNat : Int) == ((117 : UInt8).toNat : Int))) rfl (fun c10 => ?_) (fun c11 => ?_)
          · refine TC.seq ?_
            refine TC.region ?_
            refine TL.assign rfl rfl (v := .int .i64 0) rfl ?_
            refine TL.assign rfl rfl (v := .int .i64 1) rfl ?_
            refine TL.assign rfl rfl (v := .bool true) rfl ?_
            refine TL.done ?_
            exact TC.retF (Fin.body (fin3 (.inr rfl) rfl (.tmp rfl) (.tmp rfl) (.tmp rfl) [] rfl ⟨rfl, rfl⟩))
          · refine TC.seq ?_
            refine TC.region ?_
            refine TL.bin .u8 (c1.toNat : Int) ((101 : UInt8).toNat : Int) rfl rfl rfl rfl (v := .bool ((c1.toNat : Int) == ((101 : UInt8).toNat : Int))) rfl ?_
            refine TL.assign rfl rfl (v := .bool ((c1.toNat : Int) == ((101 : UInt8).toNat : Int))) rfl ?_
            refine TL.done ?_
            refine TC.cond (b := ((c1.toNat : Int) == ((101 : UInt8).toNat : Int))) rfl (fun c12 => ?_) (fun c13 => ?_)
            · refine TC.seq ?_
              refine TC.region ?_
              refine TL.assign rfl rfl (v := .int .i64 1) rfl ?_
              refine TL.assign rfl rfl (v := .int .i64 0) rfl ?_
              refine TL.assign rfl rfl (v := .bool true) rfl ?_
              refine TL.done ?_
              exact TC.retF (Fin.body (fin3 (.inr rfl) rfl (.tmp rfl) (.tmp rfl) (.tmp rfl) [] rfl ⟨rfl, rfl⟩))
            · refine TC.skip ?_
              refine TC.seq ?_
              refine TC.region ?_
              refine TL.assign rfl rfl (v := .int .i64 0) rfl ?_
              refine TL.assign rfl rfl (v := .int .i64 0) rfl ?_
              refine TL.assign rfl rfl (v := .bool false) rfl ?_
              refine TL.done ?_
              exact TC.retF (Fin.body (fin3 (.inr rfl) rfl (.tmp rfl) (.tmp rfl) (.tmp rfl) [] rfl ⟨rfl, rfl⟩))

end Go.Proofs.YtjjfoofjipafiaaDoor.G

/- impl.legsOfLayer, as a pure function. -/
set_option linter.unusedVariables false
namespace Go.Proofs.YtjjfoofjipafiaaDoor.G
open Go Go.Sx Go.Proofs

def impl_legsOfLayer.b0 (layer1 : Str) : Int × Int × Int → Option (LR (Int × Int × Int) (Int × Int × Bool)) := fun p => match p with | (ins1, outs1, x1) => (bif (decide (x1 < (layer1.length : Int))) then chk x1 layer1.length ((G.impl_legsOfPiece.f (gt layer1 x1)).bind (fun p => match p with | (r_1, r_2, r_3) => (bif (!r_3) then some (.ret ((0, 0, false))) else some (.next ((w64 (ins1 + r_1)), (w64 (outs1 + r_2)), (w64 (x1 + 1))))))) else some (.brk (ins1, outs1, x1)))

def impl_legsOfLayer.f (layer1 : Str) : Option (Int × Int × Bool) := (loop (impl_legsOfLayer.b0 layer1) (0, 0, 0)).bind (ln (fun p => match p with | (ins1, outs1, x1) => some (ins1, outs1, (layer1 != ([] : Str)))))

def impl_legsOfLayer.R (r : Int × Int × Bool) (v : Value) (L : List Asn) : Prop := v = .tuple #[.int .i64 r.1, .int .i64 r.2.1, .bool r.2.2] ∧ L = []

set_option maxRecDepth 100000 in
set_option maxHeartbeats 4000000 in
theorem impl_legsOfLayer.calls (w : World) (layer1 : Str) :
    ∀ r, impl_legsOfLayer.f layer1 = some r → Calls Tryd.prog 22 #[strv layer1] w (Ret w (impl_legsOfLayer.R r)) := by

  refine calls_T (n := 37) (Γ := [(0, strv layer1)]) (R := impl_legsOfLayer.R) Tryd.func22 rfl rfl (Nat.le_of_ble_eq_true rfl) ⟨rfl, trivial⟩ ?_
  unfold impl_legsOfLayer.f
  refine TC.seq ?_
  refine TC.region ?_
  refine TL.assign rfl rfl (v := .int .i64 0) rfl ?_
  refine TL.assign rfl rfl (v := .int .i64 0) rfl ?_
  refine TL.assign rfl rfl (v := .bool false) rfl ?_
  refine TL.done ?_
  refine TC.seq ?_
  refine TC.region ?_
  refine TL.assign rfl rfl (v := .int .i64 0) rfl ?_
  refine TL.assign rfl rfl (v := .int .i64 0) rfl ?_
  refine TL.done ?_
  refine TC.seq ?_
  refine TC.seq ?_
  refine TC.region ?_
  refine TL.move rfl rfl (v := strv layer1) rfl ?_
  refine TL.lenstr Tryd.underlying9 rfl rfl rfl ?_
  refine TL.move rfl rfl (v := .int .i64 0) rfl ?_
  refine TL.done ?_
  refine TC.loopK (σ := Int × Int × Int) (γ := Unit) (Γ' := (fun p q => match p, q with | (ins1, outs1, x1), _ => [(0, strv layer1), (5, .int .i64 ins1), (6, .int .i64 outs1), (12, .int .i64 (layer1.length : Int)), (13, .int .i64 x1)])) (L' := (fun p q => match p, q with | (ins1, outs1, x1), _ => [])) (Γb := (fun p q => match p, q with | (ins1, outs1, x1), _ => [(0, strv layer1), (5, .int .i64 ins1), (6, .int .i64 outs1), (12, .int .i64 (layer1.length : Int)), (13, .int .i64 x1)])) (Lb := (fun p q => match p, q with | (ins1, outs1, x1), _ => [])) ((0, 0, 0)) (()) ⟨rfl, rfl, rfl, rfl, rfl, trivial⟩ [] rfl ?_ ?_
  · rintro ⟨ins1, outs1, x1⟩ _
    refine TC.seq ?_
    refine TC.region ?_
    refine TL.bin .i64 x1 (layer1.length : Int) rfl rfl rfl rfl (v := .bool (decide (x1 < (layer1.length : Int)))) rfl ?_
    refine TL.done ?_
    refine TC.seq ?_
    refine TC.cond (b := (decide (x1 < (layer1.length : Int)))) rfl (fun c1 => ?_) (fun c2 => ?_)
    · refine TC.skip ?_
      refine TC.seq ?_
      refine TC.block (NoEx.loop rfl NoEx.body) ?_
      refine TC.seq ?_
      refine TC.region ?_
      refine TL.move rfl rfl (v := .int .i64 x1) rfl ?_
      refine TL.assign rfl rfl (v := .int .i64 x1) rfl ?_
      refine TL.done ?_
      refine TC.seq ?_
      refine TC.region ?_
      refine TL.move rfl rfl (v := strv layer1) rfl ?_
      refine TL.move rfl rfl (v := .int .i64 x1) rfl ?_
      refine TL.chk fun h1 => ?_
      refine TL.ixstr x1 h1 Tryd.underlying9 rfl rfl rfl rfl ?_
      refine TL.call (R := G.impl_legsOfPiece.R) Tryd.call30 rfl rfl rfl (fun w hS => G.impl_legsOfPiece.calls w (gt layer1 x1)) ?_
      rintro ⟨r_1, r_2, r_3⟩ _ _ ⟨rfl, rfl⟩
      refine TL.move rfl rfl (v := .tuple #[.int .i64 r_1, .int .i64 r_2, .bool r_3]) rfl ?_
      refine TL.extract rfl rfl rfl (v := .int .i64 r_1) rfl ?_
      refine TL.extract rfl rfl rfl (v := .int .i64 r_2) rfl ?_
      refine TL.extract rfl rfl rfl (v := .bool r_3) rfl ?_
      refine TL.assign rfl rfl (v := .int .i64 r_1) rfl ?_
      refine TL.assign rfl rfl (v := .int .i64 r_2) rfl ?_
      refine TL.assign rfl rfl (v := .bool r_3) rfl ?_
      refine TL.done ?_
      refine TC.seq ?_
      refine TC.seq ?_
      refine TC.region ?_
      refine TL.move rfl rfl (v := .bool r_3) rfl ?_
      refine TL.not r_3 rfl rfl rfl ?_
      refine TL.done ?_
      refine TC.cond (b := (!r_3)) rfl (fun c3 => ?_) (fun c4 => ?_)
      · refine TC.seq ?_
        refine TC.region ?_
        refine TL.assign rfl rfl (v := .int .i64 0) rfl ?_
        refine TL.assign rfl rfl (v := .int .i64 0) rfl ?_
        refine TL.assign rfl rfl (v := .bool false) rfl ?_
        refine TL.done ?_
        exact TC.retF (Fin.loop Far.ret (Fin.body (fin3 (.inr rfl) rfl (.tmp rfl) (.tmp rfl) (.tmp rfl) [] rfl ⟨rfl, rfl⟩)))
      · refine TC.skip ?_
        refine TC.region ?_
        refine TL.move rfl rfl (v := .int .i64 ins1) rfl ?_
        refine TL.move rfl rfl (v := .int .i64 r_1) rfl ?_
        refine TL.bin .i64 ins1 r_1 rfl rfl rfl rfl (v := .int .i64 (w64 (ins1 + r_1))) rfl ?_
        refine TL.move rfl rfl (v := .int .i64 outs1) rfl ?_
        refine TL.move rfl rfl (v := .int .i64 r_2) rfl ?_
        refine TL.bin .i64 outs1 r_2 rfl rfl rfl rfl (v := .int .i64 (w64 (outs1 + r_2))) rfl ?_
        refine TL.assign rfl rfl (v := .int .i64 (w64 (ins1 + r_1))) rfl ?_
        refine TL.assign rfl rfl (v := .int .i64 (w64 (outs1 + r_2))) rfl ?_
        refine TL.done ?_
        refine TC.region ?_
        refine TL.bin .i64 x1 1 rfl rfl rfl rfl (v := .int .i64 (w64 (x1 + 1))) rfl ?_
        refine TL.move rfl rfl (v := .int .i64 (w64 (x1 + 1))) rfl ?_
        refine TL.done ?_
        exact TC.next (((w64 (ins1 + r_1)), (w64 (outs1 + r_2)), (w64 (x1 + 1)))) (()) ⟨rfl, rfl, rfl, rfl, rfl, trivial⟩ [] rfl
    · exact TC.brk ((ins1, outs1, x1)) (()) ⟨rfl, rfl, rfl, rfl, rfl, trivial⟩ [] rfl
  · rintro ⟨ins1, outs1, x1⟩ _
    refine TC.seq ?_
    refine TC.region ?_
    refine TL.move rfl rfl (v := .int .i64 ins1) rfl ?_
    refine TL.move rfl rfl (v := .int .i64 outs1) rfl ?_
    refine TL.move rfl rfl (v := strv layer1) rfl ?_
    refine TL.strNe layer1 ([] : Str) rfl rfl rfl rfl ?_
    refine TL.assign rfl rfl (v := .int .i64 ins1) rfl ?_
    refine TL.assign rfl rfl (v := .int .i64 outs1) rfl ?_
    refine TL.assign rfl rfl (v := .bool (layer1 != ([] : Str))) rfl ?_
    refine TL.done ?_
    exact TC.retF (Fin.body (fin3 (.inr rfl) rfl (.tmp rfl) (.tmp rfl) (.tmp rfl) [] rfl ⟨rfl, rfl⟩))

end Go.Proofs.YtjjfoofjipafiaaDoor.G
