/- Functions of the program, as pure functions. -/
import Derived.Test.YtiiljfpbcanphaaMStairsAlgebra1
import Derived.Test.YtiiljfpbcanphaaProg
/- impl.stairsOk, as a pure function. -/
set_option linter.unusedVariables false
namespace Go.Proofs.Ytiiljfpbcanphaa.G
open Go Go.Sx Go.Proofs

def impl_stairsOk.b0 (stairs1 : List Int) : Int × Int → Option (LR (Int × Int) Bool) := fun p => match p with | (sum1, x1) => (bif (decide (x1 < (stairs1.length : Int))) then chk x1 stairs1.length ((G.impl_in.f (gt stairs1 x1) 1 6).bind (fun r_1 => (bif (!r_1) then some true else (bif (decide (x1 > 0)) then chk (w64 (x1 - 1)) stairs1.length (some (decide ((gt stairs1 (w64 (x1 - 1))) < (gt stairs1 x1)))) else some false).bind (fun b_2 => some b_2)).bind (fun b_1 => (bif b_1 then some (.ret (false)) else some (.next ((w64 (sum1 + (gt stairs1 x1))), (w64 (x1 + 1)))))))) else some (.brk (sum1, x1)))

def impl_stairsOk.f (stairs1 : List Int) : Option Bool := (loop (impl_stairsOk.b0 stairs1) (0, 0)).bind (ln (fun p => match p with | (sum1, x1) => some ((decide ((stairs1.length : Int) > 0)) && (decide (sum1 ≤ 6)))))

def impl_stairsOk.R (r : Bool) (v : Value) (L : List Asn) : Prop := v = .bool r ∧ L = []

set_option maxRecDepth 100000 in
set_option maxHeartbeats 4000000 in
theorem impl_stairsOk.calls (w : World) (s1 : SV) (stairs1 : List Int) (h1 : Reads Ei (hp w) s1 stairs1) :
    ∀ r, impl_stairsOk.f stairs1 = some r → Calls Try.prog 81 #[SV.v s1] w (Ret w (impl_stairsOk.R r)) := by

  refine calls_T (n := 40) (Γ := [(0, SV.v s1)]) (R := impl_stairsOk.R) Try.func81 rfl rfl (Nat.le_of_ble_eq_true rfl) ⟨rfl, trivial⟩ ?_
  unfold impl_stairsOk.f
  refine TC.seq ?_
  refine TC.region ?_
  refine TL.assign rfl rfl (v := .bool false) rfl ?_
  refine TL.done ?_
  refine TC.seq ?_
  refine TC.region ?_
  refine TL.assign rfl rfl (v := .int .i64 0) rfl ?_
  refine TL.done ?_
  refine TC.seq ?_
  refine TC.seq ?_
  refine TC.region ?_
  refine TL.move rfl rfl (v := SV.v s1) rfl ?_
  refine TL.len (Rd.old h1) Try.underlying22 rfl rfl rfl ?_
  refine TL.move rfl rfl (v := .int .i64 0) rfl ?_
  refine TL.done ?_
  refine TC.loopK (σ := Int × Int) (γ := Unit) (Γ' := (fun p q => match p, q with | (sum1, x1), _ => [(0, SV.v s1), (3, .int .i64 sum1), (6, SV.v s1), (7, .int .i64 (stairs1.length : Int)), (8, .int .i64 x1)])) (L' := (fun p q => match p, q with | (sum1, x1), _ => [])) (Γb := (fun p q => match p, q with | (sum1, x1), _ => [(0, SV.v s1), (3, .int .i64 sum1), (6, SV.v s1), (7, .int .i64 (stairs1.length : Int)), (8, .int .i64 x1)])) (Lb := (fun p q => match p, q with | (sum1, x1), _ => [])) ((0, 0)) (()) ⟨rfl, rfl, rfl, rfl, rfl, trivial⟩ [] rfl ?_ ?_
  · rintro ⟨sum1, x1⟩ _
    refine TC.seq ?_
    refine TC.region ?_
    refine TL.bin .i64 x1 (stairs1.length : Int) rfl rfl rfl rfl (v := .bool (decide (x1 < (stairs1.length : Int)))) rfl ?_
    refine TL.done ?_
    refine TC.seq ?_
    refine TC.cond (b := (decide (x1 < (stairs1.length : Int)))) rfl (fun c1 => ?_) (fun c2 => ?_)
    · refine TC.skip ?_
      refine TC.seq ?_
      refine TC.block (NoEx.loop rfl NoEx.body) ?_
      refine TC.seq ?_
      refine TC.region ?_
      refine TL.move rfl rfl (v := .int .i64 x1) rfl ?_
      refine TL.chk fun h2 => ?_
      refine TL.ixs x1 x1.toNat (Rd.old h1) h2 Try.underlying22 Try.sizeOf2 rfl rfl rfl rfl (by omega) ?_
      refine TL.loadE (Rd.old h1) Try.isAgg2 x1.toNat 0 (gt_spec h2) (v := .int .i64 (gt stairs1 x1)) rfl (by simp only [show Ei.sz = 1 from rfl] <;> omega) rfl rfl rfl ?_
      refine TL.assign rfl rfl (v := .int .i64 x1) rfl ?_
      refine TL.assign rfl rfl (v := .int .i64 (gt stairs1 x1)) rfl ?_
      refine TL.done ?_
      refine TC.seq ?_
      refine TC.seq ?_
      refine TC.region ?_
      refine TL.move rfl rfl (v := .int .i64 (gt stairs1 x1)) rfl ?_
      refine TL.call (R := G.impl_in.R) Try.call72 rfl rfl rfl (fun w hS => G.impl_in.calls w (gt stairs1 x1) 1 6) ?_
      rintro r_1 _ _ ⟨rfl, rfl⟩
      refine TL.not r_1 rfl rfl rfl ?_
      refine TL.move rfl rfl (v := .bool (!r_1)) rfl ?_
      refine TL.cutJ (σ := Bool) (γ := Unit) (Γ' := fun b_1 _ => [(28, .bool b_1), (0, SV.v s1), (3, .int .i64 sum1), (6, SV.v s1), (7, .int .i64 (stairs1.length : Int)), (8, .int .i64 x1), (9, .bool (decide (x1 < (stairs1.length : Int)))), (10, .int .i64 x1), (11, ep s1 x1.toNat), (12, .int .i64 (gt stairs1 x1)), (4, .int .i64 x1), (5, .int .i64 (gt stairs1 x1)), (13, .int .i64 (gt stairs1 x1)), (14, .bool r_1), (15, .bool (!r_1)), (16, .bool (!r_1))]) (L' := fun _ _ => []) 12 ?_ ?_
      · refine TL.ifb (t := 16) (b := (!r_1)) rfl (fun c3 => ?_) (fun c4 => ?_)
        · refine TL.skip rfl rfl (by decide) ?_
          refine TL.skip rfl rfl (by decide) ?_
          refine TL.skip rfl rfl (by decide) ?_
          refine TL.skip rfl rfl (by decide) ?_
          refine TL.skip rfl rfl (by decide) ?_
          refine TL.skip rfl rfl (by decide) ?_
          refine TL.skip rfl rfl (by decide) ?_
          refine TL.skip rfl rfl (by decide) ?_
          refine TL.skip rfl rfl (by decide) ?_
          refine TL.skip rfl rfl (by decide) ?_
          refine TL.skip rfl rfl (by decide) ?_
          refine TL.pick rfl rfl (b := true) rfl (r := .bool true) rfl ?_
          refine TL.done ?_
          exact TC.nrm (true) () ⟨rfl, rfl, rfl, rfl, rfl, rfl, rfl, rfl, rfl, rfl, rfl, rfl, rfl, rfl, rfl, (by rw [c3]; rfl), trivial⟩ [] (by kernel_rfl)
        · refine TL.move rfl rfl (v := .int .i64 x1) rfl ?_
          refine TL.bin .i64 x1 0 rfl rfl rfl rfl (v := .bool (decide (x1 > 0))) rfl ?_
          refine TL.move rfl rfl (v := .bool (decide (x1 > 0))) rfl ?_
          refine TL.cutJ (σ := Bool) (γ := Unit) (Γ' := fun b_2 _ => [(27, .bool b_2), (0, SV.v s1), (3, .int .i64 sum1), (6, SV.v s1), (7, .int .i64 (stairs1.length : Int)), (8, .int .i64 x1), (9, .bool (decide (x1 < (stairs1.length : Int)))), (10, .int .i64 x1), (11, ep s1 x1.toNat), (12, .int .i64 (gt stairs1 x1)), (4, .int .i64 x1), (5, .int .i64 (gt stairs1 x1)), (13, .int .i64 (gt stairs1 x1)), (14, .bool r_1), (15, .bool (!r_1)), (16, .bool false), (17, .int .i64 x1), (18, .bool (decide (x1 > 0))), (19, .bool (decide (x1 > 0)))]) (L' := fun _ _ => []) 8 ?_ ?_
          · refine TL.ifb (t := 19) (b := (decide (x1 > 0))) rfl (fun c5 => ?_) (fun c6 => ?_)
            · refine TL.move rfl rfl (v := SV.v s1) rfl ?_
              refine TL.move rfl rfl (v := .int .i64 x1) rfl ?_
              refine TL.bin .i64 x1 1 rfl rfl rfl rfl (v := .int .i64 (w64 (x1 - 1))) rfl ?_
              refine TL.chk fun h3 => ?_
              refine TL.ixs (w64 (x1 - 1)) ((w64 (x1 - 1)).toNat) (Rd.old h1) h3 Try.underlying22 Try.sizeOf2 rfl rfl rfl rfl (by omega) ?_
              refine TL.loadE (Rd.old h1) Try.isAgg2 (w64 (x1 - 1)).toNat 0 (gt_spec h3) (v := .int .i64 (gt stairs1 (w64 (x1 - 1)))) rfl (by simp only [show Ei.sz = 1 from rfl] <;> omega) rfl rfl rfl ?_
              refine TL.move rfl rfl (v := .int .i64 (gt stairs1 x1)) rfl ?_
              refine TL.bin .i64 (gt stairs1 (w64 (x1 - 1))) (gt stairs1 x1) rfl rfl rfl rfl (v := .bool (decide ((gt stairs1 (w64 (x1 - 1))) < (gt stairs1 x1)))) rfl ?_
              refine TL.pick rfl rfl (b := true) rfl (r := .bool (decide ((gt stairs1 (w64 (x1 - 1))) < (gt stairs1 x1)))) rfl ?_
              refine TL.done ?_
              exact TC.nrm ((decide ((gt stairs1 (w64 (x1 - 1))) < (gt stairs1 x1)))) () ⟨rfl, rfl, rfl, rfl, rfl, rfl, rfl, rfl, rfl, rfl, rfl, rfl, rfl, rfl, rfl, rfl, rfl, rfl, (by rw [c5]; rfl), trivial⟩ [] (by kernel_rfl)
            · refine TL.skip rfl rfl (by decide) ?_
              refine TL.skip rfl rfl (by decide) ?_
              refine TL.skip rfl rfl (by decide) ?_
              refine TL.skip rfl rfl (by decide) ?_
              refine TL.skip rfl rfl (by decide) ?_
              refine TL.skip rfl rfl (by decide) ?_
              refine TL.skip rfl rfl (by decide) ?_
              refine TL.pick rfl rfl (b := false) rfl (r := .bool false) rfl ?_
              refine TL.done ?_
              exact TC.nrm (false) () ⟨rfl, rfl, rfl, rfl, rfl, rfl, rfl, rfl, rfl, rfl, rfl, rfl, rfl, rfl, rfl, rfl, rfl, rfl, (by rw [c6]; rfl), trivial⟩ [] (by kernel_rfl)
          · rintro b_2 _
            refine TL.pick rfl rfl (b := false) rfl (r := .bool b_2) rfl ?_
            refine TL.done ?_
            exact TC.nrm (b_2) () ⟨rfl, rfl, rfl, rfl, rfl, rfl, rfl, rfl, rfl, rfl, rfl, rfl, rfl, rfl, rfl, (by rw [c4]; rfl), trivial⟩ [] (by kernel_rfl)
      · rintro b_1 _
        refine TL.done ?_
        refine TC.cond (b := b_1) rfl (fun c7 => ?_) (fun c8 => ?_)
        · refine TC.seq ?_
          refine TC.region ?_
          refine TL.assign rfl rfl (v := .bool false) rfl ?_
          refine TL.done ?_
          exact TC.retF (Fin.loop Far.ret (Fin.body (fin1 (.inr rfl) rfl (.tmp rfl) [] rfl ⟨rfl, rfl⟩)))
        · refine TC.skip ?_
          refine TC.region ?_
          refine TL.move rfl rfl (v := .int .i64 sum1) rfl ?_
          refine TL.move rfl rfl (v := .int .i64 (gt stairs1 x1)) rfl ?_
          refine TL.bin .i64 sum1 (gt stairs1 x1) rfl rfl rfl rfl (v := .int .i64 (w64 (sum1 + (gt stairs1 x1)))) rfl ?_
          refine TL.assign rfl rfl (v := .int .i64 (w64 (sum1 + (gt stairs1 x1)))) rfl ?_
          refine TL.done ?_
          refine TC.region ?_
          refine TL.bin .i64 x1 1 rfl rfl rfl rfl (v := .int .i64 (w64 (x1 + 1))) rfl ?_
          refine TL.move rfl rfl (v := .int .i64 (w64 (x1 + 1))) rfl ?_
          refine TL.done ?_
          exact TC.next (((w64 (sum1 + (gt stairs1 x1))), (w64 (x1 + 1)))) (()) ⟨rfl, rfl, rfl, rfl, rfl, trivial⟩ [] rfl
    · exact TC.brk ((sum1, x1)) (()) ⟨rfl, rfl, rfl, rfl, rfl, trivial⟩ [] rfl
  · rintro ⟨sum1, x1⟩ _
    refine TC.seq ?_
    refine TC.region ?_
    refine TL.move rfl rfl (v := SV.v s1) rfl ?_
    refine TL.len (Rd.old h1) Try.underlying22 rfl rfl rfl ?_
    refine TL.bin .i64 (stairs1.length : Int) 0 rfl rfl rfl rfl (v := .bool (decide ((stairs1.length : Int) > 0))) rfl ?_
    refine TL.move rfl rfl (v := .bool (decide ((stairs1.length : Int) > 0))) rfl ?_
    refine TL.cutU 3 [(39, .bool ((decide ((stairs1.length : Int) > 0)) && (decide (sum1 ≤ 6)))), (0, SV.v s1), (3, .int .i64 sum1), (6, SV.v s1), (7, .int .i64 (stairs1.length : Int)), (8, .int .i64 x1), (33, SV.v s1), (34, .int .i64 (stairs1.length : Int)), (35, .bool (decide ((stairs1.length : Int) > 0))), (36, .bool (decide ((stairs1.length : Int) > 0)))] [] ?_ ?_
    · refine TL.cases (t := 36) (b := (decide ((stairs1.length : Int) > 0))) rfl (fun c9 => ?_) (fun c10 => ?_)
      · refine TL.move rfl rfl (v := .int .i64 sum1) rfl ?_
        refine TL.bin .i64 sum1 6 rfl rfl rfl rfl (v := .bool (decide (sum1 ≤ 6))) rfl ?_
        refine TL.pick rfl rfl (b := true) rfl (r := .bool (decide (sum1 ≤ 6))) rfl ?_
        refine TL.done ?_
        exact TC.nrm () () ⟨(by rw [c9]; rfl), rfl, rfl, rfl, rfl, rfl, rfl, rfl, rfl, (by rw [c9]; rfl), trivial⟩ [] (by kernel_rfl)
      · refine TL.skip rfl rfl (by decide) ?_
        refine TL.skip rfl rfl (by decide) ?_
        refine TL.pick rfl rfl (b := false) rfl (r := .bool false) rfl ?_
        refine TL.done ?_
        exact TC.nrm () () ⟨(by rw [c10]; rfl), rfl, rfl, rfl, rfl, rfl, rfl, rfl, rfl, (by rw [c10]; rfl), trivial⟩ [] (by kernel_rfl)
    · refine TL.assign rfl rfl (v := .bool ((decide ((stairs1.length : Int) > 0)) && (decide (sum1 ≤ 6)))) rfl ?_
      refine TL.done ?_
      exact TC.retF (Fin.body (fin1 (.inr rfl) rfl (.tmp rfl) [] rfl ⟨rfl, rfl⟩))

end Go.Proofs.Ytiiljfpbcanphaa.G

/- impl.monomials, as a pure function. -/
set_option linter.unusedVariables false
namespace Go.Proofs.Ytiiljfpbcanphaa.G
open Go Go.Sx Go.Proofs

def impl_monomials.b0 (stairs1 : List Int) (x1 : Int) : (List (Int × Int)) × Int → Option (LB ((List (Int × Int)) × Int)) := fun p => match p with | (out2, x2) => (bif (decide (x2 < (gt stairs1 x1))) then small (out2.length + ([(x1, x2)] : List (Int × Int)).length) (some (.next ((out2 ++ ([(x1, x2)] : List (Int × Int))), (w64 (x2 + 1))))) else some (.brk (out2, x2)))

def impl_monomials.b1 (stairs1 : List Int) : (List (Int × Int)) × Int → Option (LB ((List (Int × Int)) × Int)) := fun p => match p with | (out1, x1) => (bif (decide (x1 < (stairs1.length : Int))) then chk x1 stairs1.length ((loop1 (impl_monomials.b0 stairs1 x1) (out1, 0)).bind (fun p => match p with | (out2, x2) => some (.next (out2, (w64 (x1 + 1)))))) else some (.brk (out1, x1)))

def impl_monomials.f (stairs1 : List Int) : Option (List (Int × Int)) := (loop1 (impl_monomials.b1 stairs1) (([] : List (Int × Int)), 0)).bind (fun p => match p with | (out1, x1) => some out1)

def impl_monomials.R (r : List (Int × Int)) (v : Value) (L : List Asn) : Prop := ∃ (s0 : SV), v = SV.v s0 ∧ L = [row Eii 77 s0 r]

set_option maxRecDepth 100000 in
set_option maxHeartbeats 4000000 in
theorem impl_monomials.calls (w : World) (s1 : SV) (stairs1 : List Int) (h1 : Reads Ei (hp w) s1 stairs1) :
    ∀ r, impl_monomials.f stairs1 = some r → Calls Try.prog 82 #[SV.v s1] w (Ret w (impl_monomials.R r)) := by

  refine calls_T (n := 28) (Γ := [(0, SV.v s1)]) (R := impl_monomials.R) Try.func82 rfl rfl (Nat.le_of_ble_eq_true rfl) ⟨rfl, trivial⟩ ?_
  unfold impl_monomials.f
  refine TC.seq ?_
  refine TC.region ?_
  refine TL.assign rfl rfl (v := SV.v ⟨none, 0, 0⟩) rfl ?_
  refine TL.done ?_
  refine TC.seq ?_
  refine TC.region ?_
  refine TL.bslice0 Eii Try.underlying74 Try.sizeOf77 rfl rfl fun s2 => ?_
  refine TL.assign rfl rfl (v := SV.v s2) rfl ?_
  refine TL.done ?_
  refine TC.seq ?_
  refine TC.seq ?_
  refine TC.region ?_
  refine TL.move rfl rfl (v := SV.v s1) rfl ?_
  refine TL.len (Rd.old h1) Try.underlying22 rfl rfl rfl ?_
  refine TL.move rfl rfl (v := .int .i64 0) rfl ?_
  refine TL.done ?_
  refine TC.loop1 (σ := (List (Int × Int)) × Int) (γ := SV) (Γ' := (fun p q => match p, q with | (out1, x1), s3 => [(3, SV.v s3), (8, SV.v s1), (9, .int .i64 (stairs1.length : Int)), (10, .int .i64 x1)])) (L' := (fun p q => match p, q with | (out1, x1), s3 => [row Eii 77 s3 out1])) (Γb := (fun p q => match p, q with | (out1, x1), s3 => [(3, SV.v s3), (8, SV.v s1), (9, .int .i64 (stairs1.length : Int)), (10, .int .i64 x1)])) (Lb := (fun p q => match p, q with | (out1, x1), s3 => [row Eii 77 s3 out1])) ((([] : List (Int × Int)), 0)) (s2) ⟨rfl, rfl, rfl, rfl, trivial⟩ [0] rfl ?_ ?_
  · rintro ⟨out1, x1⟩ s3
    refine TC.seq ?_
    refine TC.region ?_
    refine TL.bin .i64 x1 (stairs1.length : Int) rfl rfl rfl rfl (v := .bool (decide (x1 < (stairs1.length : Int)))) rfl ?_
    refine TL.done ?_
    refine TC.seq ?_
    refine TC.cond (b := (decide (x1 < (stairs1.length : Int)))) rfl (fun c1 => ?_) (fun c2 => ?_)
    · refine TC.skip ?_
      refine TC.seq ?_
      refine TC.block (NoEx.loop1 rfl) ?_
      refine TC.seq ?_
      refine TC.region ?_
      refine TL.move rfl rfl (v := .int .i64 x1) rfl ?_
      refine TL.chk fun h2 => ?_
      refine TL.ixs x1 x1.toNat (Rd.old h1) h2 Try.underlying22 Try.sizeOf2 rfl rfl rfl rfl (by omega) ?_
      refine TL.loadE (Rd.old h1) Try.isAgg2 x1.toNat 0 (gt_spec h2) (v := .int .i64 (gt stairs1 x1)) rfl (by simp only [show Ei.sz = 1 from rfl] <;> omega) rfl rfl rfl ?_
      refine TL.assign rfl rfl (v := .int .i64 x1) rfl ?_
      refine TL.assign rfl rfl (v := .int .i64 (gt stairs1 x1)) rfl ?_
      refine TL.done ?_
      refine TC.seq ?_
      refine TC.region ?_
      refine TL.move rfl rfl (v := .int .i64 (gt stairs1 x1)) rfl ?_
      refine TL.move rfl rfl (v := .int .i64 0) rfl ?_
      refine TL.done ?_
      refine TC.loop1 (σ := (List (Int × Int)) × Int) (γ := SV) (Γ' := (fun p q => match p, q with | (out2, x2), s4 => [(3, SV.v s4), (4, .int .i64 x1), (8, SV.v s1), (9, .int .i64 (stairs1.length : Int)), (10, .int .i64 x1), (15, .int .i64 (gt stairs1 x1)), (16, .int .i64 x2)])) (L' := (fun p q => match p, q with | (out2, x2), s4 => [row Eii 77 s4 out2])) (Γb := (fun p q => match p, q with | (out2, x2), s4 => [(3, SV.v s4), (4, .int .i64 x1), (8, SV.v s1), (9, .int .i64 (stairs1.length : Int)), (10, .int .i64 x1), (15, .int .i64 (gt stairs1 x1)), (16, .int .i64 x2)])) (Lb := (fun p q => match p, q with | (out2, x2), s4 => [row Eii 77 s4 out2])) ((out1, 0)) (s3) ⟨rfl, rfl, rfl, rfl, rfl, rfl, rfl, trivial⟩ [0] rfl ?_ ?_
      · rintro ⟨out2, x2⟩ s4
        refine TC.seq ?_
        refine TC.region ?_
        refine TL.bin .i64 x2 (gt stairs1 x1) rfl rfl rfl rfl (v := .bool (decide (x2 < (gt stairs1 x1)))) rfl ?_
        refine TL.done ?_
        refine TC.seq ?_
        refine TC.cond (b := (decide (x2 < (gt stairs1 x1)))) rfl (fun c3 => ?_) (fun c4 => ?_)
        · refine TC.skip ?_
          refine TC.seq ?_
          refine TC.block (NoEx.loop1 rfl) ?_
          refine TC.seq ?_
          refine TC.region ?_
          refine TL.move rfl rfl (v := .int .i64 x2) rfl ?_
          refine TL.assign rfl rfl (v := .int .i64 x2) rfl ?_
          refine TL.done ?_
          refine TC.region ?_
          refine TL.move rfl rfl (v := SV.v s4) rfl ?_
          refine TL.move rfl rfl (v := .int .i64 x1) rfl ?_
          refine TL.move rfl rfl (v := .int .i64 x2) rfl ?_
          refine TL.buildS (segs0 := [.one (.int .i64 0), .one (.int .i64 0)]) (segs := [.one (.int .i64 x1), .one (.int .i64 x2)]) [1, 1] Try.underlying77 ⟨Try.sizeOf2, Try.sizeOf2, trivial⟩ Try.zeroValue77 rfl [(0, .int .i64 x1), (1, .int .i64 x2)] rfl (fun pl hpl => by subst hpl; exact fill_one 0 rfl rfl rfl rfl (fill_one 1 rfl rfl rfl rfl (rfl))) rfl rfl ?_
          refine TL.blit Eii ([(x1, x2)] : List (Int × Int)) Try.underlying74 Try.sizeOf77 Try.zeroValue77 rfl rfl rfl [(0, sval [.one (.int .i64 x1), .one (.int .i64 x2)])] rfl ⟨rfl, rfl, trivial⟩ rfl rfl fun s5 => ?_
          refine TL.small fun h3 => ?_
          refine TL.append 1 rfl (Rd.row 0 rfl) Try.underlying74 (info_of Try.type77) (zv := (Try.t77.zero.getD (.bool false))) rfl rfl rfl (by decide) h3 rfl rfl rfl rfl fun s6 => ?_
          refine TL.assign rfl rfl (v := SV.v s6) rfl ?_
          refine TL.done ?_
          refine TC.region ?_
          refine TL.bin .i64 x2 1 rfl rfl rfl rfl (v := .int .i64 (w64 (x2 + 1))) rfl ?_
          refine TL.move rfl rfl (v := .int .i64 (w64 (x2 + 1))) rfl ?_
          refine TL.done ?_
          exact TC.next1 (((out2 ++ ([(x1, x2)] : List (Int × Int))), (w64 (x2 + 1)))) (s6) ⟨rfl, rfl, rfl, rfl, rfl, rfl, rfl, trivial⟩ [1] rfl
        · exact TC.brk1 ((out2, x2)) (s4) ⟨rfl, rfl, rfl, rfl, rfl, rfl, rfl, trivial⟩ [0] rfl
      · rintro ⟨out2, x2⟩ s4
        refine TC.region ?_
        refine TL.bin .i64 x1 1 rfl rfl rfl rfl (v := .int .i64 (w64 (x1 + 1))) rfl ?_
        refine TL.move rfl rfl (v := .int .i64 (w64 (x1 + 1))) rfl ?_
        refine TL.done ?_
        exact TC.next1 ((out2, (w64 (x1 + 1)))) (s4) ⟨rfl, rfl, rfl, rfl, trivial⟩ [0] rfl
    · exact TC.brk1 ((out1, x1)) (s3) ⟨rfl, rfl, rfl, rfl, trivial⟩ [0] rfl
  · rintro ⟨out1, x1⟩ s3
    refine TC.seq ?_
    refine TC.region ?_
    refine TL.move rfl rfl (v := SV.v s3) rfl ?_
    refine TL.assign rfl rfl (v := SV.v s3) rfl ?_
    refine TL.done ?_
    exact TC.retF (Fin.body (fin1 (.inr rfl) rfl (.tmp rfl) [0] rfl ⟨s3, rfl, rfl⟩))

end Go.Proofs.Ytiiljfpbcanphaa.G

/- slices.Index[[]int64,int64], as a pure function. -/
set_option linter.unusedVariables false
namespace Go.Proofs.Ytiiljfpbcanphaa.G
open Go Go.Sx Go.Proofs

def slices_Index_int64_int64.b0 (s1 : List Int) (v_1 : Int) : Int → Option (LR Int Int) := fun x1 => (bif (decide (x1 < (s1.length : Int))) then chk x1 s1.length ((bif (v_1 == (gt s1 x1)) then some (.ret (x1)) else some (.next (w64 (x1 + 1))))) else some (.brk x1))

def slices_Index_int64_int64.f (s1 : List Int) (v_1 : Int) : Option Int := (loop (slices_Index_int64_int64.b0 s1 v_1) 0).bind (ln (fun x1 => some (-1)))

def slices_Index_int64_int64.R (r : Int) (v : Value) (L : List Asn) : Prop := v = .int .i64 r ∧ L = []

set_option maxRecDepth 100000 in
set_option maxHeartbeats 4000000 in
theorem slices_Index_int64_int64.calls (w : World) (s2 : SV) (s1 : List Int) (v_1 : Int) (h1 : Reads Ei (hp w) s2 s1) :
    ∀ r, slices_Index_int64_int64.f s1 v_1 = some r → Calls Try.prog 151 #[SV.v s2, .int .i64 v_1] w (Ret w (slices_Index_int64_int64.R r)) := by

  refine calls_T (n := 19) (Γ := [(0, SV.v s2), (1, .int .i64 v_1)]) (R := slices_Index_int64_int64.R) Try.func151 rfl rfl (Nat.le_of_ble_eq_true rfl) ⟨rfl, rfl, trivial⟩ ?_
  unfold slices_Index_int64_int64.f
  refine TC.seq ?_
  refine TC.region ?_
  refine TL.assign rfl rfl (v := .int .i64 0) rfl ?_
  refine TL.done ?_
  refine TC.seq ?_
  refine TC.seq ?_
  refine TC.region ?_
  refine TL.move rfl rfl (v := SV.v s2) rfl ?_
  refine TL.len (Rd.old h1) Try.underlying22 rfl rfl rfl ?_
  refine TL.move rfl rfl (v := .int .i64 0) rfl ?_
  refine TL.done ?_
  refine TC.loopK (σ := Int) (γ := Unit) (Γ' := (fun x1 _ => [(0, SV.v s2), (1, .int .i64 v_1), (7, .int .i64 (s1.length : Int)), (8, .int .i64 x1)])) (L' := (fun x1 _ => [])) (Γb := (fun x1 _ => [(0, SV.v s2), (1, .int .i64 v_1), (7, .int .i64 (s1.length : Int)), (8, .int .i64 x1)])) (Lb := (fun x1 _ => [])) (0) (()) ⟨rfl, rfl, rfl, rfl, trivial⟩ [] rfl ?_ ?_
  · rintro x1 _
    refine TC.seq ?_
    refine TC.region ?_
    refine TL.bin .i64 x1 (s1.length : Int) rfl rfl rfl rfl (v := .bool (decide (x1 < (s1.length : Int)))) rfl ?_
    refine TL.done ?_
    refine TC.seq ?_
    refine TC.cond (b := (decide (x1 < (s1.length : Int)))) rfl (fun c1 => ?_) (fun c2 => ?_)
    · refine TC.skip ?_
      refine TC.seq ?_
      refine TC.block (NoEx.loop rfl NoEx.body) ?_
      refine TC.seq ?_
      refine TC.region ?_
      refine TL.move rfl rfl (v := .int .i64 x1) rfl ?_
      refine TL.assign rfl rfl (v := .int .i64 x1) rfl ?_
      refine TL.done ?_
      refine TC.seq ?_
      refine TC.region ?_
      refine TL.move rfl rfl (v := .int .i64 v_1) rfl ?_
      refine TL.move rfl rfl (v := SV.v s2) rfl ?_
      refine TL.move rfl rfl (v := .int .i64 x1) rfl ?_
      refine TL.chk fun h2 => ?_
      refine TL.ixs x1 x1.toNat (Rd.old h1) h2 Try.underlying22 Try.sizeOf2 rfl rfl rfl rfl (by omega) ?_
      refine TL.loadE (Rd.old h1) Try.isAgg2 x1.toNat 0 (gt_spec h2) (v := .int .i64 (gt s1 x1)) rfl (by simp only [show Ei.sz = 1 from rfl] <;> omega) rfl rfl rfl ?_
      refine TL.bin .i64 v_1 (gt s1 x1) rfl rfl rfl rfl (v := .bool (v_1 == (gt s1 x1))) rfl ?_
      refine TL.done ?_
      refine TC.cond (b := (v_1 == (gt s1 x1))) rfl (fun c3 => ?_) (fun c4 => ?_)
      · refine TC.seq ?_
        refine TC.region ?_
        refine TL.move rfl rfl (v := .int .i64 x1) rfl ?_
        refine TL.assign rfl rfl (v := .int .i64 x1) rfl ?_
        refine TL.done ?_
        exact TC.retF (Fin.loop Far.ret (Fin.body (fin1 (.inr rfl) rfl (.tmp rfl) [] rfl ⟨rfl, rfl⟩)))
      · refine TC.skip ?_
        refine TC.region ?_
        refine TL.bin .i64 x1 1 rfl rfl rfl rfl (v := .int .i64 (w64 (x1 + 1))) rfl ?_
        refine TL.move rfl rfl (v := .int .i64 (w64 (x1 + 1))) rfl ?_
        refine TL.done ?_
        exact TC.next ((w64 (x1 + 1))) (()) ⟨rfl, rfl, rfl, rfl, trivial⟩ [] rfl
    · exact TC.brk (x1) (()) ⟨rfl, rfl, rfl, rfl, trivial⟩ [] rfl
  · rintro x1 _
    refine TC.seq ?_
    refine TC.region ?_
    refine TL.assign rfl rfl (v := .int .i64 (-1)) rfl ?_
    refine TL.done ?_
    exact TC.retF (Fin.body (fin1 (.inr rfl) rfl (.tmp rfl) [] rfl ⟨rfl, rfl⟩))

end Go.Proofs.Ytiiljfpbcanphaa.G

/- slices.Contains[[]int64,int64], as a pure function. -/
set_option linter.unusedVariables false
namespace Go.Proofs.Ytiiljfpbcanphaa.G
open Go Go.Sx Go.Proofs

def slices_Contains_int64_int64.f (s1 : List Int) (v_1 : Int) : Option Bool := (G.slices_Index_int64_int64.f s1 v_1).bind (fun r_1 => some (decide (r_1 ≥ 0)))

def slices_Contains_int64_int64.R (r : Bool) (v : Value) (L : List Asn) : Prop := v = .bool r ∧ L = []

set_option maxRecDepth 100000 in
set_option maxHeartbeats 4000000 in
theorem slices_Contains_int64_int64.calls (w : World) (s2 : SV) (s1 : List Int) (v_1 : Int) (h1 : Reads Ei (hp w) s2 s1) :
    ∀ r, slices_Contains_int64_int64.f s1 v_1 = some r → Calls Try.prog 105 #[SV.v s2, .int .i64 v_1] w (Ret w (slices_Contains_int64_int64.R r)) := by

  refine calls_T (n := 9) (Γ := [(0, SV.v s2), (1, .int .i64 v_1)]) (R := slices_Contains_int64_int64.R) Try.func105 rfl rfl (Nat.le_of_ble_eq_true rfl) ⟨rfl, rfl, trivial⟩ ?_
  unfold slices_Contains_int64_int64.f
  refine TC.seq ?_
  refine TC.region ?_
  refine TL.assign rfl rfl (v := .bool false) rfl ?_
  refine TL.done ?_
  refine TC.seq ?_
  refine TC.region ?_
  refine TL.move rfl rfl (v := SV.v s2) rfl ?_
  refine TL.move rfl rfl (v := .int .i64 v_1) rfl ?_
  refine TL.call (R := G.slices_Index_int64_int64.R) Try.call151 rfl rfl rfl (fun w hS => G.slices_Index_int64_int64.calls w s2 s1 v_1 ((Rd.old h1) w hS)) ?_
  rintro r_1 _ _ ⟨rfl, rfl⟩
  refine TL.bin .i64 r_1 0 rfl rfl rfl rfl (v := .bool (decide (r_1 ≥ 0))) rfl ?_
  refine TL.assign rfl rfl (v := .bool (decide (r_1 ≥ 0))) rfl ?_
  refine TL.done ?_
  exact TC.retF (Fin.body (fin1 (.inr rfl) rfl (.tmp rfl) [] rfl ⟨rfl, rfl⟩))

end Go.Proofs.Ytiiljfpbcanphaa.G

/- impl.isPrime, as a pure function. -/
set_option linter.unusedVariables false
namespace Go.Proofs.Ytiiljfpbcanphaa.G
open Go Go.Sx Go.Proofs

def impl_isPrime.f (p1 : Int) : Option Bool := (G.slices_Contains_int64_int64.f ([2, 3, 5, 7, 11, 13] : List Int) p1).bind (fun r_1 => some r_1)

def impl_isPrime.R (r : Bool) (v : Value) (L : List Asn) : Prop := v = .bool r ∧ L = []

set_option maxRecDepth 100000 in
set_option maxHeartbeats 4000000 in
theorem impl_isPrime.calls (w : World) (p1 : Int) :
    ∀ r, impl_isPrime.f p1 = some r → Calls Try.prog 85 #[.int .i64 p1] w (Ret w (impl_isPrime.R r)) := by

  refine calls_T (n := 6) (Γ := [(0, .int .i64 p1)]) (R := impl_isPrime.R) Try.func85 rfl rfl (Nat.le_of_ble_eq_true rfl) ⟨rfl, trivial⟩ ?_
  unfold impl_isPrime.f
  refine TC.seq ?_
  refine TC.region ?_
  refine TL.assign rfl rfl (v := .bool false) rfl ?_
  refine TL.done ?_
  refine TC.seq ?_
  refine TC.region ?_
  refine TL.blit Ei ([2, 3, 5, 7, 11, 13] : List Int) Try.underlying22 Try.sizeOf2 Try.zeroValue2 rfl rfl rfl [(0, .int .i64 2), (1, .int .i64 3), (2, .int .i64 5), (3, .int .i64 7), (4, .int .i64 11), (5, .int .i64 13)] rfl ⟨rfl, rfl, rfl, rfl, rfl, rfl, rfl, rfl, rfl, rfl, rfl, rfl, trivial⟩ rfl rfl fun s1 => ?_
  refine TL.move rfl rfl (v := .int .i64 p1) rfl ?_
  refine TL.call (R := G.slices_Contains_int64_int64.R) Try.call105 rfl rfl rfl (fun w hS => G.slices_Contains_int64_int64.calls w s1 ([2, 3, 5, 7, 11, 13] : List Int) p1 ((Rd.row 0 rfl) w hS)) ?_
  rintro r_1 _ _ ⟨rfl, rfl⟩
  refine TL.assign rfl rfl (v := .bool r_1) rfl ?_
  refine TL.done ?_
  exact TC.retF (Fin.body (fin1 (.inr rfl) rfl (.tmp rfl) [] rfl ⟨rfl, rfl⟩))

end Go.Proofs.Ytiiljfpbcanphaa.G

/- impl.built, as a pure function. -/
set_option linter.unusedVariables false
namespace Go.Proofs.Ytiiljfpbcanphaa.G
open Go Go.Sx Go.Proofs

def impl_built.b0 (n_1 : Int) (product1 : Int → Int → Option Int) (x1 : Int) : (Nat → UInt8) × Int → Option (LB ((Nat → UInt8) × Int)) := fun p => match p with | (a_2, x2) => (bif (decide (x2 < n_1)) then (product1 x1 x2).bind (fun r_1 => ((bif (decide (r_1 ≥ 0)) then chk x1 6 (chk x2 6 (chk r_1 6 (some (upd a_2 (x1.toNat * 36 + x2.toNat * 6 + r_1.toNat) (1 : UInt8))))) else some a_2)).bind (fun a_3 => some (.next (a_3, (w64 (x2 + 1)))))) else some (.brk (a_2, x2)))

def impl_built.b1 (n_1 : Int) (product1 : Int → Int → Option Int) : (Nat → UInt8) × Int → Option (LB ((Nat → UInt8) × Int)) := fun p => match p with | (a_1, x1) => (bif (decide (x1 < n_1)) then (loop1 (impl_built.b0 n_1 product1 x1) (a_1, 0)).bind (fun p => match p with | (a_2, x2) => some (.next (a_2, (w64 (x1 + 1))))) else some (.brk (a_1, x1)))

def impl_built.f (p1 : Int) (n_1 : Int) (form1 : Nat → UInt8) (product1 : Int → Int → Option Int) : Option (Int × Int × (Nat → UInt8) × (Nat → UInt8)) := (loop1 (impl_built.b1 n_1 product1) ((fun _ => (0 : UInt8)), 0)).bind (fun p => match p with | (a_1, x1) => some (p1, n_1, a_1, form1))

def impl_built.R (r : Int × Int × (Nat → UInt8) × (Nat → UInt8)) (v : Value) (L : List Asn) : Prop := v = sval [.one (.int .i64 r.1), .one (.int .i64 r.2.1), .arr 216 (enf u8v r.2.2.1), .arr 6 (enf u8v r.2.2.2)] ∧ L = []

set_option maxRecDepth 100000 in
set_option maxHeartbeats 4000000 in
theorem impl_built.calls (w : World) (p1 : Int) (n_1 : Int) (form1 : Nat → UInt8) (f1 : Nat) (fst1 : List Value) (cap1 : List Value) (product1 : Int → Int → Option Int) (hc1 : ∀ (args_ : Array Value) (w_ : World), (callFunc f1 args_).run Try.prog w_ = .ok (.enter f1 args_) w_) (hf1 : ∀ w_, Hle (hp w) (hp w_) → ∀ (x0_ : Int) (x1_ : Int), ∀ r_, product1 x0_ x1_ = some r_ → Calls Try.prog f1 (fst1 ++ ([.int .i64 x0_, .int .i64 x1_] : List Value) ++ cap1).toArray w_ (Ret w_ (fun (v_ : Value) (L_ : List Asn) => v_ = .int .i64 r_ ∧ L_ = []))) :
    ∀ r, impl_built.f p1 n_1 form1 product1 = some r → Calls Try.prog 86 #[.int .i64 p1, .int .i64 n_1, sval [.arr 6 (enf u8v form1)], .func (.func f1) fst1.toArray cap1.toArray] w (Ret w (impl_built.R r)) := by

  refine calls_T (n := 41) (Γ := [(0, .int .i64 p1), (1, .int .i64 n_1), (2, sval [.arr 6 (enf u8v form1)]), (3, .func (.func f1) fst1.toArray cap1.toArray)]) (R := impl_built.R) Try.func86 rfl rfl (Nat.le_of_ble_eq_true rfl) ⟨rfl, rfl, rfl, rfl, trivial⟩ ?_
  unfold impl_built.f
  refine TC.seq ?_
  refine TC.region ?_
  refine TL.box [.arr 6 (enf u8v form1)] rfl rfl rfl rfl fun b_1 => ?_
  refine TL.alloc [.one (.int .i64 0), .one (.int .i64 0), .arr 216 (enf u8v (fun _ => (0 : UInt8))), .arr 6 (enf u8v (fun _ => (0 : UInt8)))] rfl rfl Try.zeroValue43 rfl fun b_2 => ?_
  refine TL.done ?_
  refine TC.seq ?_
  refine TC.region ?_
  refine TL.move rfl rfl (v := .int .i64 p1) rfl ?_
  refine TL.move rfl rfl (v := .int .i64 n_1) rfl ?_
  refine TL.loadM 0 1 (Src.box 1 rfl) Try.isAgg41 Try.sizeOf41 (mid := [.arr 6 (enf u8v form1)]) rfl rfl rfl rfl rfl rfl ?_
  refine TL.buildS (segs0 := [.one (.int .i64 0), .one (.int .i64 0), .arr 216 (enf u8v (fun _ => (0 : UInt8))), .arr 6 (enf u8v (fun _ => (0 : UInt8)))]) (segs := [.one (.int .i64 p1), .one (.int .i64 n_1), .arr 216 (enf u8v (fun _ => (0 : UInt8))), .arr 6 (enf u8v form1)]) [1, 1, 216, 6] Try.underlying43 ⟨Try.sizeOf2, Try.sizeOf2, Try.sizeOf40, Try.sizeOf41, trivial⟩ Try.zeroValue43 rfl [(0, .int .i64 p1), (1, .int .i64 n_1), (3, sval [.arr 6 (enf u8v form1)])] rfl (fun pl hpl => by subst hpl; exact fill_one 0 rfl rfl rfl rfl (fill_one 1 rfl rfl rfl rfl (fill_mid (news := [.arr 6 (enf u8v form1)]) 3 1 rfl rfl rfl rfl (rfl)))) rfl rfl ?_
  refine TL.alloc [.one (.int .i64 0), .one (.int .i64 0), .arr 216 (enf u8v (fun _ => (0 : UInt8))), .arr 6 (enf u8v (fun _ => (0 : UInt8)))] rfl rfl Try.zeroValue43 rfl fun b_3 => ?_
  refine TL.stM (news := [.one (.int .i64 p1), .one (.int .i64 n_1), .arr 216 (enf u8v (fun _ => (0 : UInt8))), .arr 6 (enf u8v form1)]) 0 0 4 rfl Try.sizeOf43 (ones_one rfl (ones_one rfl (ones_arr (fun _ => rfl) (ones_arr (fun _ => rfl) ones_nil)))) rfl rfl rfl rfl rfl rfl ?_
  refine TL.done ?_
  refine TC.seq ?_
  refine TC.seq ?_
  refine TC.region ?_
  refine TL.move rfl rfl (v := .int .i64 n_1) rfl ?_
  refine TL.move rfl rfl (v := .int .i64 0) rfl ?_
  refine TL.done ?_
  refine TC.loop1 (σ := (Nat → UInt8) × Int) (γ := Unit) (Γ' := (fun p q => match p, q with | (a_1, x1), _ => [(1, .int .i64 n_1), (3, .func (.func f1) fst1.toArray cap1.toArray), (8, bp b_2 0), (9, bp b_3 0), (17, .int .i64 n_1), (18, .int .i64 x1)])) (L' := (fun p q => match p, q with | (a_1, x1), _ => [box b_2 43 [.one (.int .i64 0), .one (.int .i64 0), .arr 216 (enf u8v (fun _ => (0 : UInt8))), .arr 6 (enf u8v (fun _ => (0 : UInt8)))], box b_3 43 [.one (.int .i64 p1), .one (.int .i64 n_1), .arr 216 (enf u8v a_1), .arr 6 (enf u8v form1)]])) (Γb := (fun p q => match p, q with | (a_1, x1), _ => [(1, .int .i64 n_1), (3, .func (.func f1) fst1.toArray cap1.toArray), (8, bp b_2 0), (9, bp b_3 0), (17, .int .i64 n_1), (18, .int .i64 x1)])) (Lb := (fun p q => match p, q with | (a_1, x1), _ => [box b_2 43 [.one (.int .i64 0), .one (.int .i64 0), .arr 216 (enf u8v (fun _ => (0 : UInt8))), .arr 6 (enf u8v (fun _ => (0 : UInt8)))], box b_3 43 [.one (.int .i64 p1), .one (.int .i64 n_1), .arr 216 (enf u8v a_1), .arr 6 (enf u8v form1)]])) (((fun _ => (0 : UInt8)), 0)) (()) ⟨rfl, rfl, rfl, rfl, rfl, rfl, trivial⟩ [1, 0] rfl ?_ ?_
  · rintro ⟨a_1, x1⟩ _
    refine TC.seq ?_
    refine TC.region ?_
    refine TL.bin .i64 x1 n_1 rfl rfl rfl rfl (v := .bool (decide (x1 < n_1))) rfl ?_
    refine TL.done ?_
    refine TC.seq ?_
    refine TC.cond (b := (decide (x1 < n_1))) rfl (fun c1 => ?_) (fun c2 => ?_)
    · refine TC.skip ?_
      refine TC.seq ?_
      refine TC.block (NoEx.loop1 rfl) ?_
      refine TC.seq ?_
      refine TC.region ?_
      refine TL.move rfl rfl (v := .int .i64 x1) rfl ?_
      refine TL.assign rfl rfl (v := .int .i64 x1) rfl ?_
      refine TL.done ?_
      refine TC.seq ?_
      refine TC.region ?_
      refine TL.move rfl rfl (v := .int .i64 n_1) rfl ?_
      refine TL.move rfl rfl (v := .int .i64 0) rfl ?_
      refine TL.done ?_
      refine TC.loop1 (σ := (Nat → UInt8) × Int) (γ := Unit) (Γ' := (fun p q => match p, q with | (a_2, x2), _ => [(1, .int .i64 n_1), (3, .func (.func f1) fst1.toArray cap1.toArray), (8, bp b_2 0), (9, bp b_3 0), (10, .int .i64 x1), (17, .int .i64 n_1), (18, .int .i64 x1), (21, .int .i64 n_1), (22, .int .i64 x2)])) (L' := (fun p q => match p, q with | (a_2, x2), _ => [box b_2 43 [.one (.int .i64 0), .one (.int .i64 0), .arr 216 (enf u8v (fun _ => (0 : UInt8))), .arr 6 (enf u8v (fun _ => (0 : UInt8)))], box b_3 43 [.one (.int .i64 p1), .one (.int .i64 n_1), .arr 216 (enf u8v a_2), .arr 6 (enf u8v form1)]])) (Γb := (fun p q => match p, q with | (a_2, x2), _ => [(1, .int .i64 n_1), (3, .func (.func f1) fst1.toArray cap1.toArray), (8, bp b_2 0), (9, bp b_3 0), (10, .int .i64 x1), (17, .int .i64 n_1), (18, .int .i64 x1), (21, .int .i64 n_1), (22, .int .i64 x2)])) (Lb := (fun p q => match p, q with | (a_2, x2), _ => [box b_2 43 [.one (.int .i64 0), .one (.int .i64 0), .arr 216 (enf u8v (fun _ => (0 : UInt8))), .arr 6 (enf u8v (fun _ => (0 : UInt8)))], box b_3 43 [.one (.int .i64 p1), .one (.int .i64 n_1), .arr 216 (enf u8v a_2), .arr 6 (enf u8v form1)]])) ((a_1, 0)) (()) ⟨rfl, rfl, rfl, rfl, rfl, rfl, rfl, rfl, rfl, trivial⟩ [0, 0] rfl ?_ ?_
      · rintro ⟨a_2, x2⟩ _
        refine TC.seq ?_
        refine TC.region ?_
        refine TL.bin .i64 x2 n_1 rfl rfl rfl rfl (v := .bool (decide (x2 < n_1))) rfl ?_
        refine TL.done ?_
        refine TC.seq ?_
        refine TC.cond (b := (decide (x2 < n_1))) rfl (fun c3 => ?_) (fun c4 => ?_)
        · refine TC.skip ?_
          refine TC.seq ?_
          refine TC.block (NoEx.loop1 rfl) ?_
          refine TC.seq ?_
          refine TC.region ?_
          refine TL.move rfl rfl (v := .int .i64 x2) rfl ?_
          refine TL.assign rfl rfl (v := .int .i64 x2) rfl ?_
          refine TL.done ?_
          refine TC.seq ?_
          refine TC.region ?_
          refine TL.move rfl rfl (v := .func (.func f1) fst1.toArray cap1.toArray) rfl ?_
          refine TL.move rfl rfl (v := .int .i64 x1) rfl ?_
          refine TL.move rfl rfl (v := .int .i64 x2) rfl ?_
          refine TL.callv (R := (fun r_ => (fun (v_ : Value) (L_ : List Asn) => v_ = .int .i64 r_ ∧ L_ = []))) (vs := [.int .i64 x1, .int .i64 x2]) hc1 rfl rfl rfl rfl (fun w hS => hf1 w hS.iw x1 x2) ?_
          rintro r_1 _ _ ⟨rfl, rfl⟩
          refine TL.assign rfl rfl (v := .int .i64 r_1) rfl ?_
          refine TL.done ?_
          refine TC.seq ?_
          refine TC.region ?_
          refine TL.move rfl rfl (v := .int .i64 r_1) rfl ?_
          refine TL.bin .i64 r_1 0 rfl rfl rfl rfl (v := .bool (decide (r_1 ≥ 0))) rfl ?_
          refine TL.done ?_
          refine TC.join1 (σ := (Nat → UInt8)) (γ := Unit) (Γ' := (fun a_3 _ => [(1, .int .i64 n_1), (3, .func (.func f1) fst1.toArray cap1.toArray), (8, bp b_2 0), (9, bp b_3 0), (10, .int .i64 x1), (17, .int .i64 n_1), (18, .int .i64 x1), (21, .int .i64 n_1), (22, .int .i64 x2)])) (L' := (fun a_3 _ => [box b_2 43 [.one (.int .i64 0), .one (.int .i64 0), .arr 216 (enf u8v (fun _ => (0 : UInt8))), .arr 6 (enf u8v (fun _ => (0 : UInt8)))], box b_3 43 [.one (.int .i64 p1), .one (.int .i64 n_1), .arr 216 (enf u8v a_3), .arr 6 (enf u8v form1)]])) ?_ ?_
          · refine TC.cond (b := (decide (r_1 ≥ 0))) rfl (fun c5 => ?_) (fun c6 => ?_)
            · refine TC.region ?_
              refine TL.move rfl rfl (v := .int .i64 x1) rfl ?_
              refine TL.move rfl rfl (v := .int .i64 x2) rfl ?_
              refine TL.move rfl rfl (v := .int .i64 r_1) rfl ?_
              refine TL.fa Try.underlying43 rfl Try.sizeOf40 rfl 2 rfl rfl rfl rfl ?_
              refine TL.chk fun h1 => ?_
              refine TL.ixa x1 (2 + x1.toNat * 36) h1 Try.underlying40 Try.sizeOf39 rfl rfl rfl rfl (by omega) ?_
              refine TL.chk fun h2 => ?_
              refine TL.ixa x2 (2 + (x1.toNat * 36 + x2.toNat * 6)) h2 Try.underlying39 Try.sizeOf38 rfl rfl rfl rfl (by omega) ?_
              refine TL.chk fun h3 => ?_
              refine TL.ixa r_1 (2 + (x1.toNat * 36 + x2.toNat * 6 + r_1.toNat)) h3 Try.underlying38 Try.sizeOf5 rfl rfl rfl rfl (by omega) ?_
              refine TL.stA (e := u8v) (z := (1 : UInt8)) 1 2 (x1.toNat * 36 + x2.toNat * 6 + r_1.toNat) rfl Try.sizeOf5 rfl (by omega) (s := 2) rfl (by omega) rfl rfl rfl rfl rfl ?_
              refine TL.done ?_
              exact TC.nrm ((upd a_2 (x1.toNat * 36 + x2.toNat * 6 + r_1.toNat) (1 : UInt8))) (()) ⟨rfl, rfl, rfl, rfl, rfl, rfl, rfl, rfl, rfl, trivial⟩ [0, 0] rfl
            · refine TC.skip ?_
              exact TC.nrm (a_2) (()) ⟨rfl, rfl, rfl, rfl, rfl, rfl, rfl, rfl, rfl, trivial⟩ [0, 0] rfl
          · rintro a_3 _
            refine TC.region ?_
            refine TL.bin .i64 x2 1 rfl rfl rfl rfl (v := .int .i64 (w64 (x2 + 1))) rfl ?_
            refine TL.move rfl rfl (v := .int .i64 (w64 (x2 + 1))) rfl ?_
            refine TL.done ?_
            exact TC.next1 ((a_3, (w64 (x2 + 1)))) (()) ⟨rfl, rfl, rfl, rfl, rfl, rfl, rfl, rfl, rfl, trivial⟩ [0, 0] rfl
        · exact TC.brk1 ((a_2, x2)) (()) ⟨rfl, rfl, rfl, rfl, rfl, rfl, rfl, rfl, rfl, trivial⟩ [0, 0] rfl
      · rintro ⟨a_2, x2⟩ _
        refine TC.region ?_
        refine TL.bin .i64 x1 1 rfl rfl rfl rfl (v := .int .i64 (w64 (x1 + 1))) rfl ?_
        refine TL.move rfl rfl (v := .int .i64 (w64 (x1 + 1))) rfl ?_
        refine TL.done ?_
        exact TC.next1 ((a_2, (w64 (x1 + 1)))) (()) ⟨rfl, rfl, rfl, rfl, rfl, rfl, trivial⟩ [0, 0] rfl
    · exact TC.brk1 ((a_1, x1)) (()) ⟨rfl, rfl, rfl, rfl, rfl, rfl, trivial⟩ [0, 0] rfl
  · rintro ⟨a_1, x1⟩ _
    refine TC.seq ?_
    refine TC.region ?_
    refine TL.loadM 0 4 (Src.box 1 rfl) Try.isAgg43 Try.sizeOf43 (mid := [.one (.int .i64 p1), .one (.int .i64 n_1), .arr 216 (enf u8v a_1), .arr 6 (enf u8v form1)]) rfl rfl rfl rfl rfl rfl ?_
    refine TL.stM (news := [.one (.int .i64 p1), .one (.int .i64 n_1), .arr 216 (enf u8v a_1), .arr 6 (enf u8v form1)]) 0 0 4 rfl Try.sizeOf43 (ones_one rfl (ones_one rfl (ones_arr (fun _ => rfl) (ones_arr (fun _ => rfl) ones_nil)))) rfl rfl rfl rfl rfl rfl ?_
    refine TL.done ?_
    exact TC.retF (Fin.body (fin1 (.inr rfl) rfl (.cellN rfl (Src.box 0 rfl) Try.isAgg43 Try.sizeOf43 rfl) [] rfl ⟨rfl, rfl⟩))

end Go.Proofs.Ytiiljfpbcanphaa.G

/- impl.basis, as a pure function. -/
set_option linter.unusedVariables false
namespace Go.Proofs.Ytiiljfpbcanphaa.G
open Go Go.Sx Go.Proofs

def impl_basis.f (i1 : Int) : Option (Nat → UInt8) := chk i1 6 (some (upd (fun _ => (0 : UInt8)) i1.toNat (1 : UInt8)))

def impl_basis.R (r : Nat → UInt8) (v : Value) (L : List Asn) : Prop := v = sval [.arr 6 (enf u8v r)] ∧ L = []

set_option maxRecDepth 100000 in
set_option maxHeartbeats 4000000 in
theorem impl_basis.calls (w : World) (i1 : Int) :
    ∀ r, impl_basis.f i1 = some r → Calls Try.prog 87 #[.int .i64 i1] w (Ret w (impl_basis.R r)) := by

  refine calls_T (n := 8) (Γ := [(0, .int .i64 i1)]) (R := impl_basis.R) Try.func87 rfl rfl (Nat.le_of_ble_eq_true rfl) ⟨rfl, trivial⟩ ?_
  unfold impl_basis.f
  refine TC.seq ?_
  refine TC.region ?_
  refine TL.alloc [.arr 6 (enf u8v (fun _ => (0 : UInt8)))] rfl rfl Try.zeroValue41 rfl fun b_1 => ?_
  refine TL.done ?_
  refine TC.seq ?_
  refine TC.region ?_
  refine TL.buildA (segs0 := [.arr 6 (enf u8v (fun _ => (0 : UInt8)))]) (segs := [.arr 6 (enf u8v (fun _ => (0 : UInt8)))]) Try.underlying41 Try.sizeOf5 Try.zeroValue41 rfl [] rfl rfl rfl rfl ?_
  refine TL.alloc [.arr 6 (enf u8v (fun _ => (0 : UInt8)))] rfl rfl Try.zeroValue41 rfl fun b_2 => ?_
  refine TL.stM (news := [.arr 6 (enf u8v (fun _ => (0 : UInt8)))]) 0 0 1 rfl Try.sizeOf41 (ones_arr (fun _ => rfl) ones_nil) rfl rfl rfl rfl rfl rfl ?_
  refine TL.done ?_
  refine TC.seq ?_
  refine TC.region ?_
  refine TL.move rfl rfl (v := .int .i64 i1) rfl ?_
  refine TL.chk fun h1 => ?_
  refine TL.ixa i1 i1.toNat h1 Try.underlying41 Try.sizeOf5 rfl rfl rfl rfl (by omega) ?_
  refine TL.stA (e := u8v) (z := (1 : UInt8)) 0 0 i1.toNat rfl Try.sizeOf5 rfl (by omega) (s := 0) rfl (by omega) rfl rfl rfl rfl rfl ?_
  refine TL.done ?_
  refine TC.seq ?_
  refine TC.region ?_
  refine TL.loadM 0 1 (Src.box 0 rfl) Try.isAgg41 Try.sizeOf41 (mid := [.arr 6 (enf u8v (upd (fun _ => (0 : UInt8)) i1.toNat (1 : UInt8)))]) rfl rfl rfl rfl rfl rfl ?_
  refine TL.stM (news := [.arr 6 (enf u8v (upd (fun _ => (0 : UInt8)) i1.toNat (1 : UInt8)))]) 1 0 1 rfl Try.sizeOf41 (ones_arr (fun _ => rfl) ones_nil) rfl rfl rfl rfl rfl rfl ?_
  refine TL.done ?_
  exact TC.retF (Fin.body (fin1 (.inr rfl) rfl (.cellN rfl (Src.box 1 rfl) Try.isAgg41 Try.sizeOf41 rfl) [] rfl ⟨rfl, rfl⟩))

end Go.Proofs.Ytiiljfpbcanphaa.G

/- impl.monomial], as a pure function. -/
set_option linter.unusedVariables false
namespace Go.Proofs.Ytiiljfpbcanphaa.G
open Go Go.Sx Go.Proofs

def slices_Index_impl_monomial_impl_monomial.b0 (s1 : List (Int × Int)) (v_1 : Int) (v_2 : Int) : Int → Option (LR Int Int) := fun x1 => (bif (decide (x1 < (s1.length : Int))) then chk x1 s1.length ((bif (v_1 == ((gt s1 x1).1) && v_2 == ((gt s1 x1).2)) then some (.ret (x1)) else some (.next (w64 (x1 + 1))))) else some (.brk x1))

def slices_Index_impl_monomial_impl_monomial.f (s1 : List (Int × Int)) (v_1 : Int) (v_2 : Int) : Option Int := (loop (slices_Index_impl_monomial_impl_monomial.b0 s1 v_1 v_2) 0).bind (ln (fun x1 => some (-1)))

def slices_Index_impl_monomial_impl_monomial.R (r : Int) (v : Value) (L : List Asn) : Prop := v = .int .i64 r ∧ L = []

set_option maxRecDepth 100000 in
set_option maxHeartbeats 4000000 in
theorem slices_Index_impl_monomial_impl_monomial.calls (w : World) (s2 : SV) (s1 : List (Int × Int)) (v_1 : Int) (v_2 : Int) (h1 : Reads Eii (hp w) s2 s1) :
    ∀ r, slices_Index_impl_monomial_impl_monomial.f s1 v_1 v_2 = some r → Calls Try.prog 89 #[SV.v s2, sval [.one (.int .i64 v_1), .one (.int .i64 v_2)]] w (Ret w (slices_Index_impl_monomial_impl_monomial.R r)) := by

  refine calls_T (n := 19) (Γ := [(0, SV.v s2), (1, sval [.one (.int .i64 v_1), .one (.int .i64 v_2)])]) (R := slices_Index_impl_monomial_impl_monomial.R) Try.func89 rfl rfl (Nat.le_of_ble_eq_true rfl) ⟨rfl, rfl, trivial⟩ ?_
  unfold slices_Index_impl_monomial_impl_monomial.f
  refine TC.seq ?_
  refine TC.region ?_
  refine TL.box [.one (.int .i64 v_1), .one (.int .i64 v_2)] rfl rfl rfl rfl fun b_1 => ?_
  refine TL.assign rfl rfl (v := .int .i64 0) rfl ?_
  refine TL.done ?_
  refine TC.seq ?_
  refine TC.seq ?_
  refine TC.region ?_
  refine TL.move rfl rfl (v := SV.v s2) rfl ?_
  refine TL.len (Rd.old h1) Try.underlying74 rfl rfl rfl ?_
  refine TL.move rfl rfl (v := .int .i64 0) rfl ?_
  refine TL.done ?_
  refine TC.loopK (σ := Int) (γ := Unit) (Γ' := (fun x1 _ => [(0, SV.v s2), (3, bp b_1 0), (7, .int .i64 (s1.length : Int)), (8, .int .i64 x1)])) (L' := (fun x1 _ => [box b_1 77 [.one (.int .i64 v_1), .one (.int .i64 v_2)]])) (Γb := (fun x1 _ => [(0, SV.v s2), (3, bp b_1 0), (7, .int .i64 (s1.length : Int)), (8, .int .i64 x1)])) (Lb := (fun x1 _ => [box b_1 77 [.one (.int .i64 v_1), .one (.int .i64 v_2)]])) (0) (()) ⟨rfl, rfl, rfl, rfl, trivial⟩ [0] rfl ?_ ?_
  · rintro x1 _
    refine TC.seq ?_
    refine TC.region ?_
    refine TL.bin .i64 x1 (s1.length : Int) rfl rfl rfl rfl (v := .bool (decide (x1 < (s1.length : Int)))) rfl ?_
    refine TL.done ?_
    refine TC.seq ?_
    refine TC.cond (b := (decide (x1 < (s1.length : Int)))) rfl (fun c1 => ?_) (fun c2 => ?_)
    · refine TC.skip ?_
      refine TC.seq ?_
      refine TC.block (NoEx.loop rfl NoEx.body) ?_
      refine TC.seq ?_
      refine TC.region ?_
      refine TL.move rfl rfl (v := .int .i64 x1) rfl ?_
      refine TL.assign rfl rfl (v := .int .i64 x1) rfl ?_
      refine TL.done ?_
      refine TC.seq ?_
      refine TC.wk (Γ' := [(0, SV.v s2), (3, bp b_1 0), (7, .int .i64 (s1.length : Int)), (8, .int .i64 x1), (9, .bool (decide (x1 < (s1.length : Int)))), (10, .int .i64 x1), (5, .int .i64 x1)]) ⟨rfl, rfl, rfl, rfl, rfl, rfl, rfl, trivial⟩ ?_
      refine TC.chk fun h2 => ?_
      refine TC.draw [sval [.one (.int .i64 v_1), .one (.int .i64 v_2)], SV.v s2, .int .i64 x1, ep s2 (x1.toNat * 2), sval [.one (.int .i64 ((gt s1 x1).1)), .one (.int .i64 ((gt s1 x1).2))], .bool (v_1 == ((gt s1 x1).1) && v_2 == ((gt s1 x1).2))] 6 [box b_1 77 [.one (.int .i64 v_1), .one (.int .i64 v_2)]] (by kernel_rfl) rfl rfl rfl rfl ?_ ?_
      · refine ⟨?_, ?_, ?_, ?_, ?_, ?_, trivial⟩
        · refine TL.loadM 0 2 (Src.box 0 rfl) Try.isAgg77 Try.sizeOf77 (mid := [.one (.int .i64 v_1), .one (.int .i64 v_2)]) rfl rfl rfl rfl rfl rfl ?_
          refine TL.done ?_
          exact TC.nrm () () ⟨rfl, trivial⟩ [0] (by kernel_rfl)
        · refine TL.move rfl rfl (v := SV.v s2) rfl ?_
          refine TL.done ?_
          exact TC.nrm () () ⟨rfl, trivial⟩ [0] (by kernel_rfl)
        · refine TL.move rfl rfl (v := .int .i64 x1) rfl ?_
          refine TL.done ?_
          exact TC.nrm () () ⟨rfl, trivial⟩ [0] (by kernel_rfl)
        · refine TL.ixs x1 (x1.toNat * 2) (Rd.old h1) h2 Try.underlying74 Try.sizeOf77 rfl rfl rfl rfl (by omega) ?_
          refine TL.done ?_
          exact TC.nrm () () ⟨rfl, trivial⟩ [0] (by kernel_rfl)
        · refine TL.loadEA (Rd.old h1) Try.isAgg77 Try.sizeOf77 x1.toNat (gt_spec h2) (v := sval [.one (.int .i64 ((gt s1 x1).1)), .one (.int .i64 ((gt s1 x1).2))]) rfl (by simp only [show Eii.sz = 2 from rfl] <;> omega) rfl rfl rfl ?_
          refine TL.done ?_
          exact TC.nrm () () ⟨rfl, trivial⟩ [0] (by kernel_rfl)
        · refine TL.eqII v_1 v_2 ((gt s1 x1).1) ((gt s1 x1).2) Try.underlying77 (by decide) (by decide) rfl rfl Try.underlying2 Try.underlying2 Try.isAgg2 Try.isAgg2 (by kernel_rfl) (by kernel_rfl) rfl rfl rfl rfl ?_
          refine TL.done ?_
          exact TC.nrm () () ⟨rfl, trivial⟩ [0] (by kernel_rfl)
      · refine TC.cond (b := (v_1 == ((gt s1 x1).1) && v_2 == ((gt s1 x1).2))) rfl (fun c3 => ?_) (fun c4 => ?_)
        · refine TC.seq ?_
          refine TC.region ?_
          refine TL.move rfl rfl (v := .int .i64 x1) rfl ?_
          refine TL.assign rfl rfl (v := .int .i64 x1) rfl ?_
          refine TL.done ?_
          exact TC.retF (Fin.loop Far.ret (Fin.body (fin1 (.inr rfl) rfl (.tmp rfl) [] rfl ⟨rfl, rfl⟩)))
        · refine TC.skip ?_
          refine TC.region ?_
          refine TL.bin .i64 x1 1 rfl rfl rfl rfl (v := .int .i64 (w64 (x1 + 1))) rfl ?_
          refine TL.move rfl rfl (v := .int .i64 (w64 (x1 + 1))) rfl ?_
          refine TL.done ?_
          exact TC.next ((w64 (x1 + 1))) (()) ⟨rfl, rfl, rfl, rfl, trivial⟩ [0] rfl
    · exact TC.brk (x1) (()) ⟨rfl, rfl, rfl, rfl, trivial⟩ [0] rfl
  · rintro x1 _
    refine TC.seq ?_
    refine TC.region ?_
    refine TL.assign rfl rfl (v := .int .i64 (-1)) rfl ?_
    refine TL.done ?_
    exact TC.retF (Fin.body (fin1 (.inr rfl) rfl (.tmp rfl) [] rfl ⟨rfl, rfl⟩))

end Go.Proofs.Ytiiljfpbcanphaa.G

/- impl.StairsAlgebra$1, as a pure function. -/
set_option linter.unusedVariables false
namespace Go.Proofs.Ytiiljfpbcanphaa.G
open Go Go.Sx Go.Proofs

def impl_StairsAlgebra_1.f (i1 : Int) (j1 : Int) (c1 : List (Int × Int)) : Option Int := chk i1 c1.length (chk j1 c1.length ((G.slices_Index_impl_monomial_impl_monomial.f c1 (w64 ((gt c1 i1).1 + (gt c1 j1).1)) (w64 ((gt c1 i1).2 + (gt c1 j1).2))).bind (fun r_1 => some r_1)))

def impl_StairsAlgebra_1.R (r : Int) (v : Value) (L : List Asn) : Prop := v = .int .i64 r ∧ L = []

set_option maxRecDepth 100000 in
set_option maxHeartbeats 4000000 in
theorem impl_StairsAlgebra_1.calls (w : World) (i1 : Int) (j1 : Int) (b_1 : Nat) (s1 : SV) (c1 : List (Int × Int)) (h2 : At (hp w) b_1 [.one (SV.v s1)]) (h1 : Reads Eii (hp w) s1 c1) :
    ∀ r, impl_StairsAlgebra_1.f i1 j1 c1 = some r → Calls Try.prog 88 #[.int .i64 i1, .int .i64 j1, bp b_1 0] w (Ret w (impl_StairsAlgebra_1.R r)) := by

  refine calls_T (n := 31) (Γ := [(0, .int .i64 i1), (1, .int .i64 j1), (2, bp b_1 0)]) (R := impl_StairsAlgebra_1.R) Try.func88 rfl rfl (Nat.le_of_ble_eq_true rfl) ⟨rfl, rfl, rfl, trivial⟩ ?_
  unfold impl_StairsAlgebra_1.f
  refine TC.seq ?_
  refine TC.region ?_
  refine TL.assign rfl rfl (v := .int .i64 0) rfl ?_
  refine TL.done ?_
  refine TC.seq ?_
  refine TC.wk (Γ' := [(0, .int .i64 i1), (1, .int .i64 j1), (2, bp b_1 0)]) ⟨rfl, rfl, rfl, trivial⟩ ?_
  refine TC.chk fun h3 => ?_
  refine TC.chk fun h4 => ?_
  refine TC.bindE fun r_1 hr1 => ?_
  refine TC.draw [SV.v s1, SV.v s1, .int .i64 i1, ep s1 (i1.toNat * 2), ep s1 (i1.toNat * 2), .int .i64 ((gt c1 i1).1), SV.v s1, .int .i64 j1, ep s1 (j1.toNat * 2), ep s1 (j1.toNat * 2), .int .i64 ((gt c1 j1).1), .int .i64 (w64 ((gt c1 i1).1 + (gt c1 j1).1)), SV.v s1, .int .i64 i1, ep s1 (i1.toNat * 2), ep s1 (1 + i1.toNat * 2), .int .i64 ((gt c1 i1).2), SV.v s1, .int .i64 j1, ep s1 (j1.toNat * 2), ep s1 (1 + j1.toNat * 2), .int .i64 ((gt c1 j1).2), .int .i64 (w64 ((gt c1 i1).2 + (gt c1 j1).2)), sval [.one (.int .i64 (w64 ((gt c1 i1).1 + (gt c1 j1).1))), .one (.int .i64 (w64 ((gt c1 i1).2 + (gt c1 j1).2)))], .int .i64 r_1, .int .i64 r_1] 26 [] (by kernel_rfl) rfl rfl rfl rfl ?_ ?_
  · refine ⟨?_, ?_, ?_, ?_, ?_, ?_, ?_, ?_, ?_, ?_, ?_, ?_, ?_, ?_, ?_, ?_, ?_, ?_, ?_, ?_, ?_, ?_, ?_, ?_, ?_, ?_, trivial⟩
    · refine TL.load1 0 (Src.at h2) Try.isAgg74 rfl rfl rfl rfl rfl ?_
      refine TL.done ?_
      exact TC.nrm () () ⟨rfl, trivial⟩ [] (by kernel_rfl)
    · refine TL.load1 0 (Src.at h2) Try.isAgg74 rfl rfl rfl rfl rfl ?_
      refine TL.done ?_
      exact TC.nrm () () ⟨rfl, trivial⟩ [] (by kernel_rfl)
    · refine TL.move rfl rfl (v := .int .i64 i1) rfl ?_
      refine TL.done ?_
      exact TC.nrm () () ⟨rfl, trivial⟩ [] (by kernel_rfl)
    · refine TL.ixs i1 (i1.toNat * 2) (Rd.old h1) h3 Try.underlying74 Try.sizeOf77 rfl rfl rfl rfl (by omega) ?_
      refine TL.done ?_
      exact TC.nrm () () ⟨rfl, trivial⟩ [] (by kernel_rfl)
    · refine TL.fae (Rd.old h1) (by have := h3; omega) Try.underlying77 rfl Try.sizeOf2 rfl (i1.toNat * 2) (by first | rfl | omega | exact Nat.add_comm _ 0) rfl rfl rfl ?_
      refine TL.done ?_
      exact TC.nrm () () ⟨rfl, trivial⟩ [] (by kernel_rfl)
    · refine TL.loadE (Rd.old h1) Try.isAgg2 i1.toNat 0 (gt_spec h3) (v := .int .i64 ((gt c1 i1).1)) rfl (by simp only [show Eii.sz = 2 from rfl] <;> omega) rfl rfl rfl ?_
      refine TL.done ?_
      exact TC.nrm () () ⟨rfl, trivial⟩ [] (by kernel_rfl)
    · refine TL.load1 0 (Src.at h2) Try.isAgg74 rfl rfl rfl rfl rfl ?_
      refine TL.done ?_
      exact TC.nrm () () ⟨rfl, trivial⟩ [] (by kernel_rfl)
    · refine TL.move rfl rfl (v := .int .i64 j1) rfl ?_
      refine TL.done ?_
      exact TC.nrm () () ⟨rfl, trivial⟩ [] (by kernel_rfl)
    · refine TL.ixs j1 (j1.toNat * 2) (Rd.old h1) h4 Try.underlying74 Try.sizeOf77 rfl rfl rfl rfl (by omega) ?_
      refine TL.done ?_
      exact TC.nrm () () ⟨rfl, trivial⟩ [] (by kernel_rfl)
    · refine TL.fae (Rd.old h1) (by have := h4; omega) Try.underlying77 rfl Try.sizeOf2 rfl (j1.toNat * 2) (by first | rfl | omega | exact Nat.add_comm _ 0) rfl rfl rfl ?_
      refine TL.done ?_
      exact TC.nrm () () ⟨rfl, trivial⟩ [] (by kernel_rfl)
    · refine TL.loadE (Rd.old h1) Try.isAgg2 j1.toNat 0 (gt_spec h4) (v := .int .i64 ((gt c1 j1).1)) rfl (by simp only [show Eii.sz = 2 from rfl] <;> omega) rfl rfl rfl ?_
      refine TL.done ?_
      exact TC.nrm () () ⟨rfl, trivial⟩ [] (by kernel_rfl)
    · refine TL.bin .i64 ((gt c1 i1).1) ((gt c1 j1).1) rfl rfl rfl rfl (v := .int .i64 (w64 ((gt c1 i1).1 + (gt c1 j1).1))) rfl ?_
      refine TL.done ?_
      exact TC.nrm () () ⟨rfl, trivial⟩ [] (by kernel_rfl)
    · refine TL.load1 0 (Src.at h2) Try.isAgg74 rfl rfl rfl rfl rfl ?_
      refine TL.done ?_
      exact TC.nrm () () ⟨rfl, trivial⟩ [] (by kernel_rfl)
    · refine TL.move rfl rfl (v := .int .i64 i1) rfl ?_
      refine TL.done ?_
      exact TC.nrm () () ⟨rfl, trivial⟩ [] (by kernel_rfl)
    · refine TL.ixs i1 (i1.toNat * 2) (Rd.old h1) h3 Try.underlying74 Try.sizeOf77 rfl rfl rfl rfl (by omega) ?_
      refine TL.done ?_
      exact TC.nrm () () ⟨rfl, trivial⟩ [] (by kernel_rfl)
    · refine TL.fae (Rd.old h1) (by have := h3; omega) Try.underlying77 rfl Try.sizeOf2 rfl (1 + i1.toNat * 2) (by first | rfl | omega | exact Nat.add_comm _ 1) rfl rfl rfl ?_
      refine TL.done ?_
      exact TC.nrm () () ⟨rfl, trivial⟩ [] (by kernel_rfl)
    · refine TL.loadE (Rd.old h1) Try.isAgg2 i1.toNat 1 (gt_spec h3) (v := .int .i64 ((gt c1 i1).2)) rfl (by simp only [show Eii.sz = 2 from rfl] <;> omega) rfl rfl rfl ?_
      refine TL.done ?_
      exact TC.nrm () () ⟨rfl, trivial⟩ [] (by kernel_rfl)
    · refine TL.load1 0 (Src.at h2) Try.isAgg74 rfl rfl rfl rfl rfl ?_
      refine TL.done ?_
      exact TC.nrm () () ⟨rfl, trivial⟩ [] (by kernel_rfl)
    · refine TL.move rfl rfl (v := .int .i64 j1) rfl ?_
      refine TL.done ?_
      exact TC.nrm () () ⟨rfl, trivial⟩ [] (by kernel_rfl)
    · refine TL.ixs j1 (j1.toNat * 2) (Rd.old h1) h4 Try.underlying74 Try.sizeOf77 rfl rfl rfl rfl (by omega) ?_
      refine TL.done ?_
      exact TC.nrm () () ⟨rfl, trivial⟩ [] (by kernel_rfl)
    · refine TL.fae (Rd.old h1) (by have := h4; omega) Try.underlying77 rfl Try.sizeOf2 rfl (1 + j1.toNat * 2) (by first | rfl | omega | exact Nat.add_comm _ 1) rfl rfl rfl ?_
      refine TL.done ?_
      exact TC.nrm () () ⟨rfl, trivial⟩ [] (by kernel_rfl)
    · refine TL.loadE (Rd.old h1) Try.isAgg2 j1.toNat 1 (gt_spec h4) (v := .int .i64 ((gt c1 j1).2)) rfl (by simp only [show Eii.sz = 2 from rfl] <;> omega) rfl rfl rfl ?_
      refine TL.done ?_
      exact TC.nrm () () ⟨rfl, trivial⟩ [] (by kernel_rfl)
    · refine TL.bin .i64 ((gt c1 i1).2) ((gt c1 j1).2) rfl rfl rfl rfl (v := .int .i64 (w64 ((gt c1 i1).2 + (gt c1 j1).2))) rfl ?_
      refine TL.done ?_
      exact TC.nrm () () ⟨rfl, trivial⟩ [] (by kernel_rfl)
    · refine TL.buildS (segs0 := [.one (.int .i64 0), .one (.int .i64 0)]) (segs := [.one (.int .i64 (w64 ((gt c1 i1).1 + (gt c1 j1).1))), .one (.int .i64 (w64 ((gt c1 i1).2 + (gt c1 j1).2)))]) [1, 1] Try.underlying77 ⟨Try.sizeOf2, Try.sizeOf2, trivial⟩ Try.zeroValue77 rfl [(0, .int .i64 (w64 ((gt c1 i1).1 + (gt c1 j1).1))), (1, .int .i64 (w64 ((gt c1 i1).2 + (gt c1 j1).2)))] rfl (fun pl hpl => by subst hpl; exact fill_one 0 rfl rfl rfl rfl (fill_one 1 rfl rfl rfl rfl (rfl))) rfl rfl ?_
      refine TL.done ?_
      exact TC.nrm () () ⟨rfl, trivial⟩ [] (by kernel_rfl)
    · refine TL.callH (R := G.slices_Index_impl_monomial_impl_monomial.R) hr1 Try.call89 rfl rfl rfl (fun w hS => G.slices_Index_impl_monomial_impl_monomial.calls w s1 c1 (w64 ((gt c1 i1).1 + (gt c1 j1).1)) (w64 ((gt c1 i1).2 + (gt c1 j1).2)) ((Rd.old h1) w hS)) ?_
      rintro _ _ ⟨rfl, rfl⟩
      refine TL.done ?_
      exact TC.nrm () () ⟨rfl, trivial⟩ [] (by kernel_rfl)
    · refine TL.assign rfl rfl (v := .int .i64 r_1) rfl ?_
      refine TL.done ?_
      exact TC.nrm () () ⟨rfl, trivial⟩ [] (by kernel_rfl)
  · exact TC.retF (Fin.body (fin1 (.inr rfl) rfl (.tmp rfl) [] rfl ⟨rfl, rfl⟩))

end Go.Proofs.Ytiiljfpbcanphaa.G

/- impl.StairsAlgebra, as a pure function. -/
set_option linter.unusedVariables false
namespace Go.Proofs.Ytiiljfpbcanphaa.G
open Go Go.Sx Go.Proofs

def impl_StairsAlgebra.f (p1 : Int) (stairs1 : List Int) : Option (Int × Int × (Nat → UInt8) × (Nat → UInt8) × Int) := (G.impl_isPrime.f p1).bind (fun r_1 => (bif (!r_1) then some true else (G.impl_stairsOk.f stairs1).bind (fun r_2 => some (!r_2))).bind (fun b_2 => (bif b_2 then some (0, 0, (fun _ => (0 : UInt8)), (fun _ => (0 : UInt8)), 2) else (G.impl_monomials.f stairs1).bind (fun r_3 => (G.impl_basis.f (w64 ((r_3.length : Int) - 1))).bind (fun r_4 => (G.impl_built.f p1 (r_3.length : Int) r_4 (fun x0_ x1_ => G.impl_StairsAlgebra_1.f x0_ x1_ r_3)).bind (fun p => match p with | (r_5, r_6, r_7, r_8) => some (r_5, r_6, r_7, r_8, 0)))))))

def impl_StairsAlgebra.R (r : Int × Int × (Nat → UInt8) × (Nat → UInt8) × Int) (v : Value) (L : List Asn) : Prop := v = .tuple #[sval [.one (.int .i64 r.1), .one (.int .i64 r.2.1), .arr 216 (enf u8v r.2.2.1), .arr 6 (enf u8v r.2.2.2.1)], .int .i64 r.2.2.2.2] ∧ L = []

set_option maxRecDepth 100000 in
set_option maxHeartbeats 4000000 in
theorem impl_StairsAlgebra.calls (w : World) (p1 : Int) (s1 : SV) (stairs1 : List Int) (h1 : Reads Ei (hp w) s1 stairs1) :
    ∀ r, impl_StairsAlgebra.f p1 stairs1 = some r → Calls Try.prog 28 #[.int .i64 p1, SV.v s1] w (Ret w (impl_StairsAlgebra.R r)) := by

  refine calls_T (n := 27) (Γ := [(0, .int .i64 p1), (1, SV.v s1)]) (R := impl_StairsAlgebra.R) Try.func28 rfl rfl (Nat.le_of_ble_eq_true rfl) ⟨rfl, rfl, trivial⟩ ?_
  unfold impl_StairsAlgebra.f
  refine TC.seq ?_
  refine TC.region ?_
  refine TL.alloc [.one (.int .i64 0), .one (.int .i64 0), .arr 216 (enf u8v (fun _ => (0 : UInt8))), .arr 6 (enf u8v (fun _ => (0 : UInt8)))] rfl rfl Try.zeroValue43 rfl fun b_1 => ?_
  refine TL.assign rfl rfl (v := .int .i64 0) rfl ?_
  refine TL.done ?_
  refine TC.seq ?_
  refine TC.seq ?_
  refine TC.region ?_
  refine TL.move rfl rfl (v := .int .i64 p1) rfl ?_
  refine TL.call (R := G.impl_isPrime.R) Try.call85 rfl rfl rfl (fun w hS => G.impl_isPrime.calls w p1) ?_
  rintro r_1 _ _ ⟨rfl, rfl⟩
  refine TL.not r_1 rfl rfl rfl ?_
  refine TL.move rfl rfl (v := .bool (!r_1)) rfl ?_
  refine TL.cutJ (σ := Bool) (γ := Unit) (Γ' := fun b_2 _ => [(14, .bool b_2), (0, .int .i64 p1), (1, SV.v s1), (4, bp b_1 0), (5, .int .i64 0), (7, .int .i64 p1), (8, .bool r_1), (9, .bool (!r_1)), (10, .bool (!r_1))]) (L' := fun _ _ => [box b_1 43 [.one (.int .i64 0), .one (.int .i64 0), .arr 216 (enf u8v (fun _ => (0 : UInt8))), .arr 6 (enf u8v (fun _ => (0 : UInt8)))]]) 4 ?_ ?_
  · refine TL.ifb (t := 10) (b := (!r_1)) rfl (fun c1 => ?_) (fun c2 => ?_)
    · refine TL.skip rfl rfl (by decide) ?_
      refine TL.skip rfl rfl (by decide) ?_
      refine TL.skip rfl rfl (by decide) ?_
      refine TL.pick rfl rfl (b := true) rfl (r := .bool true) rfl ?_
      refine TL.done ?_
      exact TC.nrm (true) () ⟨rfl, rfl, rfl, rfl, rfl, rfl, rfl, rfl, (by rw [c1]; rfl), trivial⟩ [0] (by kernel_rfl)
    · refine TL.move rfl rfl (v := SV.v s1) rfl ?_
      refine TL.call (R := G.impl_stairsOk.R) Try.call81 rfl rfl rfl (fun w hS => G.impl_stairsOk.calls w s1 stairs1 ((Rd.old h1) w hS)) ?_
      rintro r_2 _ _ ⟨rfl, rfl⟩
      refine TL.not r_2 rfl rfl rfl ?_
      refine TL.pick rfl rfl (b := false) rfl (r := .bool (!r_2)) rfl ?_
      refine TL.done ?_
      exact TC.nrm ((!r_2)) () ⟨rfl, rfl, rfl, rfl, rfl, rfl, rfl, rfl, (by rw [c2]; rfl), trivial⟩ [0] (by kernel_rfl)
  · rintro b_2 _
    refine TL.done ?_
    refine TC.cond (b := b_2) rfl (fun c3 => ?_) (fun c4 => ?_)
    · refine TC.seq ?_
      refine TC.region ?_
      refine TL.buildS (segs0 := [.one (.int .i64 0), .one (.int .i64 0), .arr 216 (enf u8v (fun _ => (0 : UInt8))), .arr 6 (enf u8v (fun _ => (0 : UInt8)))]) (segs := [.one (.int .i64 0), .one (.int .i64 0), .arr 216 (enf u8v (fun _ => (0 : UInt8))), .arr 6 (enf u8v (fun _ => (0 : UInt8)))]) [1, 1, 216, 6] Try.underlying43 ⟨Try.sizeOf2, Try.sizeOf2, Try.sizeOf40, Try.sizeOf41, trivial⟩ Try.zeroValue43 rfl [] rfl (fun pl hpl => by subst hpl; exact rfl) rfl rfl ?_
      refine TL.stM (news := [.one (.int .i64 0), .one (.int .i64 0), .arr 216 (enf u8v (fun _ => (0 : UInt8))), .arr 6 (enf u8v (fun _ => (0 : UInt8)))]) 0 0 4 rfl Try.sizeOf43 (ones_one rfl (ones_one rfl (ones_arr (fun _ => rfl) (ones_arr (fun _ => rfl) ones_nil)))) rfl rfl rfl rfl rfl rfl ?_
      refine TL.assign rfl rfl (v := .int .i64 2) rfl ?_
      refine TL.done ?_
      exact TC.retF (Fin.body (fin2 (.inr rfl) rfl (.cellN rfl (Src.box 0 rfl) Try.isAgg43 Try.sizeOf43 rfl) (.tmp rfl) [] rfl ⟨rfl, rfl⟩))
    · refine TC.skip ?_
      refine TC.seq ?_
      refine TC.region ?_
      refine TL.move rfl rfl (v := SV.v s1) rfl ?_
      refine TL.call (R := G.impl_monomials.R) Try.call82 rfl rfl rfl (fun w hS => G.impl_monomials.calls w s1 stairs1 ((Rd.old h1) w hS)) ?_
      rintro r_3 _ _ ⟨s2, rfl, rfl⟩
      refine TL.alloc [.one (SV.v ⟨none, 0, 0⟩)] rfl rfl Try.zeroValue74 rfl fun b_3 => ?_
      refine TL.st1 0 0 rfl Try.sizeOf74 rfl rfl rfl rfl rfl rfl rfl ?_
      refine TL.done ?_
      refine TC.seq ?_
      refine TC.wk (Γ' := [(0, .int .i64 p1), (1, SV.v s1), (4, bp b_1 0), (7, .int .i64 p1), (8, .bool r_1), (9, .bool (!r_1)), (10, .bool (!r_1)), (14, .bool b_2), (16, SV.v s1), (17, SV.v s2), (6, bp b_3 0)]) ⟨rfl, rfl, rfl, rfl, rfl, rfl, rfl, rfl, rfl, rfl, rfl, trivial⟩ ?_
      refine TC.bindE ?_
      rintro r_4 hr1
      refine TC.bindE ?_
      rintro ⟨r_5, r_6, r_7, r_8⟩ hr2
      refine TC.drawG [(0, .int .i64 p1), (1, SV.v s1), (4, bp b_1 0), (7, .int .i64 p1), (8, .bool r_1), (9, .bool (!r_1)), (10, .bool (!r_1)), (14, .bool b_2), (16, SV.v s1), (17, SV.v s2), (6, bp b_3 0)] [] ⟨rfl, rfl, rfl, rfl, rfl, rfl, rfl, rfl, rfl, rfl, rfl, trivial⟩ trivial (fun l_ g1 => [box b_3 74 [.one (SV.v s2)], row Eii 77 s2 r_3, (bif nb l_ 9 then box b_1 43 [.one (.int .i64 r_5), .one (.int .i64 r_6), .arr 216 (enf u8v r_7), .arr 6 (enf u8v r_8)] else box b_1 43 [.one (.int .i64 0), .one (.int .i64 0), .arr 216 (enf u8v (fun _ => (0 : UInt8))), .arr 6 (enf u8v (fun _ => (0 : UInt8)))])]) (fun g1 => [.int .i64 p1, SV.v s2, .int .i64 (r_3.length : Int), SV.v s2, .int .i64 (r_3.length : Int), .int .i64 (w64 ((r_3.length : Int) - 1)), sval [.arr 6 (enf u8v r_4)], .func (.func 88) #[] #[bp b_3 0], sval [.one (.int .i64 r_5), .one (.int .i64 r_6), .arr 216 (enf u8v r_7), .arr 6 (enf u8v r_8)], undef, .int .i64 0]) [[], [], [1], [], [3], [3, 4], [3, 4, 5], [], [0, 1, 2, 3, 4, 5, 6, 7], [0, 1, 2, 3, 4, 5, 6, 7, 8], [0, 1, 2, 3, 4, 5, 6, 7, 8, 9]] [[some false, none, none, none, none, none, none, none, some false, some false, some false], [none, some false, some false, none, none, none, none, none, some false, some false, some false], [none, some true, some false, none, none, none, none, none, some false, some false, some false], [none, none, none, some false, some false, some false, some false, none, some false, some false, some false], [none, none, none, some true, some false, some false, some false, none, some false, some false, some false], [none, none, none, some true, some true, some false, some false, none, some false, some false, some false], [none, none, none, some true, some true, some true, some false, none, some false, some false, some false], [none, none, none, none, none, none, none, some false, some false, some false, some false], [some true, some true, some true, some true, some true, some true, some true, some true, some false, some false, some false], [some true, some true, some true, some true, some true, some true, some true, some true, some true, some false, some false], [some true, some true, some true, some true, some true, some true, some true, some true, some true, some true, some false]] (by kernel_rfl) (fun _ => rfl) rfl rfl rfl rfl rfl (fun _ _ => ⟨⟨⟨⟨⟨⟨⟨⟨⟨⟨⟨trivial, rfl⟩, rfl⟩, rfl⟩, rfl⟩, rfl⟩, rfl⟩, rfl⟩, rfl⟩, rfl⟩, rfl⟩, rfl⟩) 0 [0, 0, 0] (fun _ => by kernel_rfl) ?_ ?_
      · refine ⟨rfl, ?_, rfl, ?_, rfl, ?_, rfl, ?_, rfl, ?_, rfl, ?_, rfl, ?_, rfl, ?_, rfl, ?_, rfl, ?_, rfl, ?_, trivial⟩
        · intro b1_ b2_ b3_ b4_ b5_ b6_ b7_ g1
          refine TL.move rfl rfl (v := .int .i64 p1) rfl ?_
          refine TL.done ?_
          exact TC.nrm () [] ⟨rfl, trivial⟩ [0, 0, 0] (by kernel_rfl)
        · intro b0_ b3_ b4_ b5_ b6_ b7_ g1
          refine TL.asL [box b_3 74 [.one (SV.v s2)], row Eii 77 s2 r_3, box b_1 43 [.one (.int .i64 0), .one (.int .i64 0), .arr 216 (enf u8v (fun _ => (0 : UInt8))), .arr 6 (enf u8v (fun _ => (0 : UInt8)))]] (by kernel_rfl) ?_
          refine TL.load1 0 (Src.box 0 rfl) Try.isAgg74 rfl rfl rfl rfl rfl ?_
          refine TL.done ?_
          exact TC.nrm () [] ⟨rfl, trivial⟩ [0, 0, 0] (by kernel_rfl)
        · intro b0_ b3_ b4_ b5_ b6_ b7_ g1
          refine TL.asL [box b_3 74 [.one (SV.v s2)], row Eii 77 s2 r_3, box b_1 43 [.one (.int .i64 0), .one (.int .i64 0), .arr 216 (enf u8v (fun _ => (0 : UInt8))), .arr 6 (enf u8v (fun _ => (0 : UInt8)))]] (by kernel_rfl) ?_
          refine TL.len (Rd.row 1 rfl) Try.underlying74 rfl rfl rfl ?_
          refine TL.done ?_
          exact TC.nrm () [] ⟨rfl, trivial⟩ [0, 0, 0] (by kernel_rfl)
        · intro b0_ b1_ b2_ b7_ g1
          refine TL.asL [box b_3 74 [.one (SV.v s2)], row Eii 77 s2 r_3, box b_1 43 [.one (.int .i64 0), .one (.int .i64 0), .arr 216 (enf u8v (fun _ => (0 : UInt8))), .arr 6 (enf u8v (fun _ => (0 : UInt8)))]] (by kernel_rfl) ?_
          refine TL.load1 0 (Src.box 0 rfl) Try.isAgg74 rfl rfl rfl rfl rfl ?_
          refine TL.done ?_
          exact TC.nrm () [] ⟨rfl, trivial⟩ [0, 0, 0] (by kernel_rfl)
        · intro b0_ b1_ b2_ b7_ g1
          refine TL.asL [box b_3 74 [.one (SV.v s2)], row Eii 77 s2 r_3, box b_1 43 [.one (.int .i64 0), .one (.int .i64 0), .arr 216 (enf u8v (fun _ => (0 : UInt8))), .arr 6 (enf u8v (fun _ => (0 : UInt8)))]] (by kernel_rfl) ?_
          refine TL.len (Rd.row 1 rfl) Try.underlying74 rfl rfl rfl ?_
          refine TL.done ?_
          exact TC.nrm () [] ⟨rfl, trivial⟩ [0, 0, 0] (by kernel_rfl)
        · intro b0_ b1_ b2_ b7_ g1
          refine TL.bin .i64 (r_3.length : Int) 1 rfl rfl rfl rfl (v := .int .i64 (w64 ((r_3.length : Int) - 1))) rfl ?_
          refine TL.done ?_
          exact TC.nrm () [] ⟨rfl, trivial⟩ [0, 0, 0] (by kernel_rfl)
        · intro b0_ b1_ b2_ b7_ g1
          refine TL.asL [box b_3 74 [.one (SV.v s2)], row Eii 77 s2 r_3, box b_1 43 [.one (.int .i64 0), .one (.int .i64 0), .arr 216 (enf u8v (fun _ => (0 : UInt8))), .arr 6 (enf u8v (fun _ => (0 : UInt8)))]] (by kernel_rfl) ?_
          refine TL.callH (R := G.impl_basis.R) hr1 Try.call87 rfl rfl rfl (fun w hS => G.impl_basis.calls w (w64 ((r_3.length : Int) - 1))) ?_
          rintro _ _ ⟨rfl, rfl⟩
          refine TL.done ?_
          exact TC.nrm () [] ⟨rfl, trivial⟩ [0, 0, 0] (by kernel_rfl)
        · intro b0_ b1_ b2_ b3_ b4_ b5_ b6_ g1
          refine TL.asL [box b_3 74 [.one (SV.v s2)], row Eii 77 s2 r_3, box b_1 43 [.one (.int .i64 0), .one (.int .i64 0), .arr 216 (enf u8v (fun _ => (0 : UInt8))), .arr 6 (enf u8v (fun _ => (0 : UInt8)))]] (by kernel_rfl) ?_
          refine TL.makeFunc rfl rfl (us := []) (vs := [bp b_3 0]) rfl rfl ?_
          refine TL.done ?_
          exact TC.nrm () [] ⟨rfl, trivial⟩ [0, 0, 0] (by kernel_rfl)
        · intro g1
          refine TL.asL [box b_3 74 [.one (SV.v s2)], row Eii 77 s2 r_3, box b_1 43 [.one (.int .i64 0), .one (.int .i64 0), .arr 216 (enf u8v (fun _ => (0 : UInt8))), .arr 6 (enf u8v (fun _ => (0 : UInt8)))]] (by kernel_rfl) ?_
          refine TL.callH (R := G.impl_built.R) hr2 Try.call86 rfl rfl rfl (fun w hS => G.impl_built.calls w p1 (r_3.length : Int) r_4 88 [] [bp b_3 0] (fun x0_ x1_ => G.impl_StairsAlgebra_1.f x0_ x1_ r_3) Try.call88 (fun w_ hle_ x0_ x1_ r_ hr_ => G.impl_StairsAlgebra_1.calls w_ x0_ x1_ b_3 s2 r_3 (((Src.box 0 rfl) w hS).mono hle_) (((Rd.row 1 rfl) w hS).mono hle_) r_ hr_)) ?_
          rintro _ _ ⟨rfl, rfl⟩
          refine TL.done ?_
          exact TC.nrm () [] ⟨rfl, trivial⟩ [0, 0, 0] (by kernel_rfl)
        · intro g1
          refine TL.asL [box b_3 74 [.one (SV.v s2)], row Eii 77 s2 r_3, box b_1 43 [.one (.int .i64 0), .one (.int .i64 0), .arr 216 (enf u8v (fun _ => (0 : UInt8))), .arr 6 (enf u8v (fun _ => (0 : UInt8)))]] (by kernel_rfl) ?_
          refine TL.stM (news := [.one (.int .i64 r_5), .one (.int .i64 r_6), .arr 216 (enf u8v r_7), .arr 6 (enf u8v r_8)]) 2 0 4 rfl Try.sizeOf43 (ones_one rfl (ones_one rfl (ones_arr (fun _ => rfl) (ones_arr (fun _ => rfl) ones_nil)))) rfl rfl rfl rfl rfl rfl ?_
          refine TL.done ?_
          exact TC.nrm () [] trivial [0, 0, 0] (by kernel_rfl)
        · intro g1
          refine TL.assign rfl rfl (v := .int .i64 0) rfl ?_
          refine TL.done ?_
          exact TC.nrm () [] ⟨rfl, trivial⟩ [0, 0, 0] (by kernel_rfl)
      · intro g1
        refine TC.asL [box b_3 74 [.one (SV.v s2)], row Eii 77 s2 r_3, box b_1 43 [.one (.int .i64 r_5), .one (.int .i64 r_6), .arr 216 (enf u8v r_7), .arr 6 (enf u8v r_8)]] (by kernel_rfl) ?_
        exact TC.retF (Fin.body (fin2 (.inr rfl) rfl (.cellN rfl (Src.box 2 rfl) Try.isAgg43 Try.sizeOf43 rfl) (.tmp rfl) [] rfl ⟨rfl, rfl⟩))

end Go.Proofs.Ytiiljfpbcanphaa.G

/- laws.eqByteA6, as a pure function. -/
set_option linter.unusedVariables false
namespace Go.Proofs.Ytiiljfpbcanphaa.G
open Go Go.Sx Go.Proofs

def laws_eqByteA6.b0 (a_1 : Nat → UInt8) (b_1 : Nat → UInt8) : Int → Option (LR Int Bool) := fun i1 => (bif (decide (i1 < 6)) then chk i1 6 ((bif (((a_1 i1.toNat).toNat : Int) != ((b_1 i1.toNat).toNat : Int)) then some (.ret (false)) else some (.next (w64 (i1 + 1))))) else some (.brk i1))

def laws_eqByteA6.f (a_1 : Nat → UInt8) (b_1 : Nat → UInt8) : Option Bool := (loop (laws_eqByteA6.b0 a_1 b_1) 0).bind (ln (fun i1 => some true))

def laws_eqByteA6.R (r : Bool) (v : Value) (L : List Asn) : Prop := v = .bool r ∧ L = []

set_option maxRecDepth 100000 in
set_option maxHeartbeats 4000000 in
theorem laws_eqByteA6.calls (w : World) (a_1 : Nat → UInt8) (b_1 : Nat → UInt8) :
    ∀ r, laws_eqByteA6.f a_1 b_1 = some r → Calls Try.prog 178 #[sval [.arr 6 (enf u8v a_1)], sval [.arr 6 (enf u8v b_1)]] w (Ret w (laws_eqByteA6.R r)) := by

  refine calls_T (n := 17) (Γ := [(0, sval [.arr 6 (enf u8v a_1)]), (1, sval [.arr 6 (enf u8v b_1)])]) (R := laws_eqByteA6.R) Try.func178 rfl rfl (Nat.le_of_ble_eq_true rfl) ⟨rfl, rfl, trivial⟩ ?_
  unfold laws_eqByteA6.f
  refine TC.seq ?_
  refine TC.region ?_
  refine TL.box [.arr 6 (enf u8v a_1)] rfl rfl rfl rfl fun b_2 => ?_
  refine TL.box [.arr 6 (enf u8v b_1)] rfl rfl rfl rfl fun b_3 => ?_
  refine TL.assign rfl rfl (v := .bool false) rfl ?_
  refine TL.done ?_
  refine TC.seq ?_
  refine TC.seq ?_
  refine TC.region ?_
  refine TL.assign rfl rfl (v := .int .i64 0) rfl ?_
  refine TL.done ?_
  refine TC.loopK (σ := Int) (γ := Unit) (Γ' := (fun i1 _ => [(2, bp b_2 0), (3, bp b_3 0), (5, .int .i64 i1)])) (L' := (fun i1 _ => [box b_2 38 [.arr 6 (enf u8v a_1)], box b_3 38 [.arr 6 (enf u8v b_1)]])) (Γb := (fun i1 _ => [(2, bp b_2 0), (3, bp b_3 0), (5, .int .i64 i1)])) (Lb := (fun i1 _ => [box b_2 38 [.arr 6 (enf u8v a_1)], box b_3 38 [.arr 6 (enf u8v b_1)]])) (0) (()) ⟨rfl, rfl, rfl, trivial⟩ [1, 0] rfl ?_ ?_
  · rintro i1 _
    refine TC.seq ?_
    refine TC.seq ?_
    refine TC.region ?_
    refine TL.move rfl rfl (v := .int .i64 i1) rfl ?_
    refine TL.bin .i64 i1 6 rfl rfl rfl rfl (v := .bool (decide (i1 < 6))) rfl ?_
    refine TL.done ?_
    refine TC.cond (b := (decide (i1 < 6))) rfl (fun c1 => ?_) (fun c2 => ?_)
    · refine TC.skip ?_
      refine TC.seq ?_
      refine TC.block (NoEx.loop rfl NoEx.body) ?_
      refine TC.seq ?_
      refine TC.wk (Γ' := [(2, bp b_2 0), (3, bp b_3 0), (5, .int .i64 i1), (6, .int .i64 i1), (7, .bool (decide (i1 < 6)))]) ⟨rfl, rfl, rfl, rfl, rfl, trivial⟩ ?_
      refine TC.chk fun h1 => ?_
      refine TC.draw [.int .i64 i1, bp b_2 i1.toNat, u8v (a_1 i1.toNat), .int .i64 i1, bp b_3 i1.toNat, u8v (b_1 i1.toNat), .bool (((a_1 i1.toNat).toNat : Int) != ((b_1 i1.toNat).toNat : Int))] 7 [box b_2 38 [.arr 6 (enf u8v a_1)], box b_3 38 [.arr 6 (enf u8v b_1)]] (by kernel_rfl) rfl rfl rfl rfl ?_ ?_
      · refine ⟨?_, ?_, ?_, ?_, ?_, ?_, ?_, trivial⟩
        · refine TL.move rfl rfl (v := .int .i64 i1) rfl ?_
          refine TL.done ?_
          exact TC.nrm () () ⟨rfl, trivial⟩ [0, 0] (by kernel_rfl)
        · refine TL.ixa i1 i1.toNat h1 Try.underlying38 Try.sizeOf5 rfl rfl rfl rfl (by omega) ?_
          refine TL.done ?_
          exact TC.nrm () () ⟨rfl, trivial⟩ [0, 0] (by kernel_rfl)
        · refine TL.loadA i1.toNat 0 (Src.box 0 rfl) Try.isAgg5 rfl (by omega) (v := u8v (a_1 i1.toNat)) rfl (st := 0) rfl (by omega) rfl rfl rfl ?_
          refine TL.done ?_
          exact TC.nrm () () ⟨rfl, trivial⟩ [0, 0] (by kernel_rfl)
        · refine TL.move rfl rfl (v := .int .i64 i1) rfl ?_
          refine TL.done ?_
          exact TC.nrm () () ⟨rfl, trivial⟩ [0, 0] (by kernel_rfl)
        · refine TL.ixa i1 i1.toNat h1 Try.underlying38 Try.sizeOf5 rfl rfl rfl rfl (by omega) ?_
          refine TL.done ?_
          exact TC.nrm () () ⟨rfl, trivial⟩ [0, 0] (by kernel_rfl)
        · refine TL.loadA i1.toNat 0 (Src.box 1 rfl) Try.isAgg5 rfl (by omega) (v := u8v (b_1 i1.toNat)) rfl (st := 0) rfl (by omega) rfl rfl rfl ?_
          refine TL.done ?_
          exact TC.nrm () () ⟨rfl, trivial⟩ [0, 0] (by kernel_rfl)
        · refine TL.bin .u8 ((a_1 i1.toNat).toNat : Int) ((b_1 i1.toNat).toNat : Int) rfl rfl rfl rfl (v := .bool (((a_1 i1.toNat).toNat : Int) != ((b_1 i1.toNat).toNat : Int))) rfl ?_
          refine TL.done ?_
          exact TC.nrm () () ⟨rfl, trivial⟩ [0, 0] (by kernel_rfl)
      · refine TC.cond (b := (((a_1 i1.toNat).toNat : Int) != ((b_1 i1.toNat).toNat : Int))) rfl (fun c3 => ?_) (fun c4 => ?_)
        · refine TC.seq ?_
          refine TC.region ?_
          refine TL.assign rfl rfl (v := .bool false) rfl ?_
          refine TL.done ?_
          exact TC.retF (Fin.loop Far.ret (Fin.body (fin1 (.inr rfl) rfl (.tmp rfl) [] rfl ⟨rfl, rfl⟩)))
        · refine TC.skip ?_
          refine TC.region ?_
          refine TL.move rfl rfl (v := .int .i64 i1) rfl ?_
          refine TL.bin .i64 i1 1 rfl rfl rfl rfl (v := .int .i64 (w64 (i1 + 1))) rfl ?_
          refine TL.assign rfl rfl (v := .int .i64 (w64 (i1 + 1))) rfl ?_
          refine TL.done ?_
          exact TC.next ((w64 (i1 + 1))) (()) ⟨rfl, rfl, rfl, trivial⟩ [0, 0] rfl
    · exact TC.brk (i1) (()) ⟨rfl, rfl, rfl, trivial⟩ [0, 0] rfl
  · rintro i1 _
    refine TC.seq ?_
    refine TC.region ?_
    refine TL.assign rfl rfl (v := .bool true) rfl ?_
    refine TL.done ?_
    exact TC.retF (Fin.body (fin1 (.inr rfl) rfl (.tmp rfl) [] rfl ⟨rfl, rfl⟩))

end Go.Proofs.Ytiiljfpbcanphaa.G

/- laws.eqByteA6A6, as a pure function. -/
set_option linter.unusedVariables false
namespace Go.Proofs.Ytiiljfpbcanphaa.G
open Go Go.Sx Go.Proofs

def laws_eqByteA6A6.b0 (a_1 : Nat → UInt8) (b_1 : Nat → UInt8) : Int → Option (LR Int Bool) := fun i1 => (bif (decide (i1 < 6)) then chk i1 6 ((G.laws_eqByteA6.f (sub a_1 (i1.toNat * 6)) (sub b_1 (i1.toNat * 6))).bind (fun r_1 => (bif (!r_1) then some (.ret (false)) else some (.next (w64 (i1 + 1)))))) else some (.brk i1))

def laws_eqByteA6A6.f (a_1 : Nat → UInt8) (b_1 : Nat → UInt8) : Option Bool := (loop (laws_eqByteA6A6.b0 a_1 b_1) 0).bind (ln (fun i1 => some true))

def laws_eqByteA6A6.R (r : Bool) (v : Value) (L : List Asn) : Prop := v = .bool r ∧ L = []

set_option maxRecDepth 100000 in
set_option maxHeartbeats 4000000 in
theorem laws_eqByteA6A6.calls (w : World) (a_1 : Nat → UInt8) (b_1 : Nat → UInt8) :
    ∀ r, laws_eqByteA6A6.f a_1 b_1 = some r → Calls Try.prog 143 #[sval [.arr 36 (enf u8v a_1)], sval [.arr 36 (enf u8v b_1)]] w (Ret w (laws_eqByteA6A6.R r)) := by

  refine calls_T (n := 18) (Γ := [(0, sval [.arr 36 (enf u8v a_1)]), (1, sval [.arr 36 (enf u8v b_1)])]) (R := laws_eqByteA6A6.R) Try.func143 rfl rfl (Nat.le_of_ble_eq_true rfl) ⟨rfl, rfl, trivial⟩ ?_
  unfold laws_eqByteA6A6.f
  refine TC.seq ?_
  refine TC.region ?_
  refine TL.box [.arr 36 (enf u8v a_1)] rfl rfl rfl rfl fun b_2 => ?_
  refine TL.box [.arr 36 (enf u8v b_1)] rfl rfl rfl rfl fun b_3 => ?_
  refine TL.assign rfl rfl (v := .bool false) rfl ?_
  refine TL.done ?_
  refine TC.seq ?_
  refine TC.seq ?_
  refine TC.region ?_
  refine TL.assign rfl rfl (v := .int .i64 0) rfl ?_
  refine TL.done ?_
  refine TC.loopK (σ := Int) (γ := Unit) (Γ' := (fun i1 _ => [(2, bp b_2 0), (3, bp b_3 0), (5, .int .i64 i1)])) (L' := (fun i1 _ => [box b_2 39 [.arr 36 (enf u8v a_1)], box b_3 39 [.arr 36 (enf u8v b_1)]])) (Γb := (fun i1 _ => [(2, bp b_2 0), (3, bp b_3 0), (5, .int .i64 i1)])) (Lb := (fun i1 _ => [box b_2 39 [.arr 36 (enf u8v a_1)], box b_3 39 [.arr 36 (enf u8v b_1)]])) (0) (()) ⟨rfl, rfl, rfl, trivial⟩ [1, 0] rfl ?_ ?_
  · rintro i1 _
    refine TC.seq ?_
    refine TC.seq ?_
    refine TC.region ?_
    refine TL.move rfl rfl (v := .int .i64 i1) rfl ?_
    refine TL.bin .i64 i1 6 rfl rfl rfl rfl (v := .bool (decide (i1 < 6))) rfl ?_
    refine TL.done ?_
    refine TC.cond (b := (decide (i1 < 6))) rfl (fun c1 => ?_) (fun c2 => ?_)
    · refine TC.skip ?_
      refine TC.seq ?_
      refine TC.block (NoEx.loop rfl NoEx.body) ?_
      refine TC.seq ?_
      refine TC.wk (Γ' := [(2, bp b_2 0), (3, bp b_3 0), (5, .int .i64 i1), (6, .int .i64 i1), (7, .bool (decide (i1 < 6)))]) ⟨rfl, rfl, rfl, rfl, rfl, trivial⟩ ?_
      refine TC.chk fun h1 => ?_
      refine TC.bindE fun r_1 hr1 => ?_
      refine TC.draw [.int .i64 i1, bp b_2 (i1.toNat * 6), sval [.arr 6 (enf u8v (sub a_1 (i1.toNat * 6)))], .int .i64 i1, bp b_3 (i1.toNat * 6), sval [.arr 6 (enf u8v (sub b_1 (i1.toNat * 6)))], .bool r_1, .bool (!r_1)] 8 [box b_2 39 [.arr 36 (enf u8v a_1)], box b_3 39 [.arr 36 (enf u8v b_1)]] (by kernel_rfl) rfl rfl rfl rfl ?_ ?_
      · refine ⟨?_, ?_, ?_, ?_, ?_, ?_, ?_, ?_, trivial⟩
        · refine TL.move rfl rfl (v := .int .i64 i1) rfl ?_
          refine TL.done ?_
          exact TC.nrm () () ⟨rfl, trivial⟩ [0, 0] (by kernel_rfl)
        · refine TL.ixa i1 (i1.toNat * 6) h1 Try.underlying39 Try.sizeOf38 rfl rfl rfl rfl (by omega) ?_
          refine TL.done ?_
          exact TC.nrm () () ⟨rfl, trivial⟩ [0, 0] (by kernel_rfl)
        · refine TL.loadS (i1.toNat * 6) 0 (Src.box 0 rfl) Try.isAgg38 Try.sizeOf38 rfl (by omega) (v := sval [.arr 6 (enf u8v (sub a_1 (i1.toNat * 6)))]) rfl (st := 0) rfl (by omega) rfl rfl rfl ?_
          refine TL.done ?_
          exact TC.nrm () () ⟨rfl, trivial⟩ [0, 0] (by kernel_rfl)
        · refine TL.move rfl rfl (v := .int .i64 i1) rfl ?_
          refine TL.done ?_
          exact TC.nrm () () ⟨rfl, trivial⟩ [0, 0] (by kernel_rfl)
        · refine TL.ixa i1 (i1.toNat * 6) h1 Try.underlying39 Try.sizeOf38 rfl rfl rfl rfl (by omega) ?_
          refine TL.done ?_
          exact TC.nrm () () ⟨rfl, trivial⟩ [0, 0] (by kernel_rfl)
        · refine TL.loadS (i1.toNat * 6) 0 (Src.box 1 rfl) Try.isAgg38 Try.sizeOf38 rfl (by omega) (v := sval [.arr 6 (enf u8v (sub b_1 (i1.toNat * 6)))]) rfl (st := 0) rfl (by omega) rfl rfl rfl ?_
          refine TL.done ?_
          exact TC.nrm () () ⟨rfl, trivial⟩ [0, 0] (by kernel_rfl)
        · refine TL.callH (R := G.laws_eqByteA6.R) hr1 Try.call178 rfl rfl rfl (fun w hS => G.laws_eqByteA6.calls w (sub a_1 (i1.toNat * 6)) (sub b_1 (i1.toNat * 6))) ?_
          rintro _ _ ⟨rfl, rfl⟩
          refine TL.done ?_
          exact TC.nrm () () ⟨rfl, trivial⟩ [0, 0] (by kernel_rfl)
        · refine TL.not r_1 rfl rfl rfl ?_
          refine TL.done ?_
          exact TC.nrm () () ⟨rfl, trivial⟩ [0, 0] (by kernel_rfl)
      · refine TC.cond (b := (!r_1)) rfl (fun c3 => ?_) (fun c4 => ?_)
        · refine TC.seq ?_
          refine TC.region ?_
          refine TL.assign rfl rfl (v := .bool false) rfl ?_
          refine TL.done ?_
          exact TC.retF (Fin.loop Far.ret (Fin.body (fin1 (.inr rfl) rfl (.tmp rfl) [] rfl ⟨rfl, rfl⟩)))
        · refine TC.skip ?_
          refine TC.region ?_
          refine TL.move rfl rfl (v := .int .i64 i1) rfl ?_
          refine TL.bin .i64 i1 1 rfl rfl rfl rfl (v := .int .i64 (w64 (i1 + 1))) rfl ?_
          refine TL.assign rfl rfl (v := .int .i64 (w64 (i1 + 1))) rfl ?_
          refine TL.done ?_
          exact TC.next ((w64 (i1 + 1))) (()) ⟨rfl, rfl, rfl, trivial⟩ [0, 0] rfl
    · exact TC.brk (i1) (()) ⟨rfl, rfl, rfl, trivial⟩ [0, 0] rfl
  · rintro i1 _
    refine TC.seq ?_
    refine TC.region ?_
    refine TL.assign rfl rfl (v := .bool true) rfl ?_
    refine TL.done ?_
    exact TC.retF (Fin.body (fin1 (.inr rfl) rfl (.tmp rfl) [] rfl ⟨rfl, rfl⟩))

end Go.Proofs.Ytiiljfpbcanphaa.G

/- laws.eqByteA6A6A6, as a pure function. -/
set_option linter.unusedVariables false
namespace Go.Proofs.Ytiiljfpbcanphaa.G
open Go Go.Sx Go.Proofs

def laws_eqByteA6A6A6.b0 (a_1 : Nat → UInt8) (b_1 : Nat → UInt8) : Int → Option (LR Int Bool) := fun i1 => (bif (decide (i1 < 6)) then chk i1 6 ((G.laws_eqByteA6A6.f (sub a_1 (i1.toNat * 36)) (sub b_1 (i1.toNat * 36))).bind (fun r_1 => (bif (!r_1) then some (.ret (false)) else some (.next (w64 (i1 + 1)))))) else some (.brk i1))

def laws_eqByteA6A6A6.f (a_1 : Nat → UInt8) (b_1 : Nat → UInt8) : Option Bool := (loop (laws_eqByteA6A6A6.b0 a_1 b_1) 0).bind (ln (fun i1 => some true))

def laws_eqByteA6A6A6.R (r : Bool) (v : Value) (L : List Asn) : Prop := v = .bool r ∧ L = []

set_option maxRecDepth 100000 in
set_option maxHeartbeats 4000000 in
theorem laws_eqByteA6A6A6.calls (w : World) (a_1 : Nat → UInt8) (b_1 : Nat → UInt8) :
    ∀ r, laws_eqByteA6A6A6.f a_1 b_1 = some r → Calls Try.prog 90 #[sval [.arr 216 (enf u8v a_1)], sval [.arr 216 (enf u8v b_1)]] w (Ret w (laws_eqByteA6A6A6.R r)) := by

  refine calls_T (n := 18) (Γ := [(0, sval [.arr 216 (enf u8v a_1)]), (1, sval [.arr 216 (enf u8v b_1)])]) (R := laws_eqByteA6A6A6.R) Try.func90 rfl rfl (Nat.le_of_ble_eq_true rfl) ⟨rfl, rfl, trivial⟩ ?_
  unfold laws_eqByteA6A6A6.f
  refine TC.seq ?_
  refine TC.region ?_
  refine TL.box [.arr 216 (enf u8v a_1)] rfl rfl rfl rfl fun b_2 => ?_
  refine TL.box [.arr 216 (enf u8v b_1)] rfl rfl rfl rfl fun b_3 => ?_
  refine TL.assign rfl rfl (v := .bool false) rfl ?_
  refine TL.done ?_
  refine TC.seq ?_
  refine TC.seq ?_
  refine TC.region ?_
  refine TL.assign rfl rfl (v := .int .i64 0) rfl ?_
  refine TL.done ?_
  refine TC.loopK (σ := Int) (γ := Unit) (Γ' := (fun i1 _ => [(2, bp b_2 0), (3, bp b_3 0), (5, .int .i64 i1)])) (L' := (fun i1 _ => [box b_2 40 [.arr 216 (enf u8v a_1)], box b_3 40 [.arr 216 (enf u8v b_1)]])) (Γb := (fun i1 _ => [(2, bp b_2 0), (3, bp b_3 0), (5, .int .i64 i1)])) (Lb := (fun i1 _ => [box b_2 40 [.arr 216 (enf u8v a_1)], box b_3 40 [.arr 216 (enf u8v b_1)]])) (0) (()) ⟨rfl, rfl, rfl, trivial⟩ [1, 0] rfl ?_ ?_
  · rintro i1 _
    refine TC.seq ?_
    refine TC.seq ?_
    refine TC.region ?_
    refine TL.move rfl rfl (v := .int .i64 i1) rfl ?_
    refine TL.bin .i64 i1 6 rfl rfl rfl rfl (v := .bool (decide (i1 < 6))) rfl ?_
    refine TL.done ?_
    refine TC.cond (b := (decide (i1 < 6))) rfl (fun c1 => ?_) (fun c2 => ?_)
    · refine TC.skip ?_
      refine TC.seq ?_
      refine TC.block (NoEx.loop rfl NoEx.body) ?_
      refine TC.seq ?_
      refine TC.wk (Γ' := [(2, bp b_2 0), (3, bp b_3 0), (5, .int .i64 i1), (6, .int .i64 i1), (7, .bool (decide (i1 < 6)))]) ⟨rfl, rfl, rfl, rfl, rfl, trivial⟩ ?_
      refine TC.chk fun h1 => ?_
      refine TC.bindE fun r_1 hr1 => ?_
      refine TC.draw [.int .i64 i1, bp b_2 (i1.toNat * 36), sval [.arr 36 (enf u8v (sub a_1 (i1.toNat * 36)))], .int .i64 i1, bp b_3 (i1.toNat * 36), sval [.arr 36 (enf u8v (sub b_1 (i1.toNat * 36)))], .bool r_1, .bool (!r_1)] 8 [box b_2 40 [.arr 216 (enf u8v a_1)], box b_3 40 [.arr 216 (enf u8v b_1)]] (by kernel_rfl) rfl rfl rfl rfl ?_ ?_
      · refine ⟨?_, ?_, ?_, ?_, ?_, ?_, ?_, ?_, trivial⟩
        · refine TL.move rfl rfl (v := .int .i64 i1) rfl ?_
          refine TL.done ?_
          exact TC.nrm () () ⟨rfl, trivial⟩ [0, 0] (by kernel_rfl)
        · refine TL.ixa i1 (i1.toNat * 36) h1 Try.underlying40 Try.sizeOf39 rfl rfl rfl rfl (by omega) ?_
          refine TL.done ?_
          exact TC.nrm () () ⟨rfl, trivial⟩ [0, 0] (by kernel_rfl)
        · refine TL.loadS (i1.toNat * 36) 0 (Src.box 0 rfl) Try.isAgg39 Try.sizeOf39 rfl (by omega) (v := sval [.arr 36 (enf u8v (sub a_1 (i1.toNat * 36)))]) rfl (st := 0) rfl (by omega) rfl rfl rfl ?_
          refine TL.done ?_
          exact TC.nrm () () ⟨rfl, trivial⟩ [0, 0] (by kernel_rfl)
        · refine TL.move rfl rfl (v := .int .i64 i1) rfl ?_
          refine TL.done ?_
          exact TC.nrm () () ⟨rfl, trivial⟩ [0, 0] (by kernel_rfl)
        · refine TL.ixa i1 (i1.toNat * 36) h1 Try.underlying40 Try.sizeOf39 rfl rfl rfl rfl (by omega) ?_
          refine TL.done ?_
          exact TC.nrm () () ⟨rfl, trivial⟩ [0, 0] (by kernel_rfl)
        · refine TL.loadS (i1.toNat * 36) 0 (Src.box 1 rfl) Try.isAgg39 Try.sizeOf39 rfl (by omega) (v := sval [.arr 36 (enf u8v (sub b_1 (i1.toNat * 36)))]) rfl (st := 0) rfl (by omega) rfl rfl rfl ?_
          refine TL.done ?_
          exact TC.nrm () () ⟨rfl, trivial⟩ [0, 0] (by kernel_rfl)
        · refine TL.callH (R := G.laws_eqByteA6A6.R) hr1 Try.call143 rfl rfl rfl (fun w hS => G.laws_eqByteA6A6.calls w (sub a_1 (i1.toNat * 36)) (sub b_1 (i1.toNat * 36))) ?_
          rintro _ _ ⟨rfl, rfl⟩
          refine TL.done ?_
          exact TC.nrm () () ⟨rfl, trivial⟩ [0, 0] (by kernel_rfl)
        · refine TL.not r_1 rfl rfl rfl ?_
          refine TL.done ?_
          exact TC.nrm () () ⟨rfl, trivial⟩ [0, 0] (by kernel_rfl)
      · refine TC.cond (b := (!r_1)) rfl (fun c3 => ?_) (fun c4 => ?_)
        · refine TC.seq ?_
          refine TC.region ?_
          refine TL.assign rfl rfl (v := .bool false) rfl ?_
          refine TL.done ?_
          exact TC.retF (Fin.loop Far.ret (Fin.body (fin1 (.inr rfl) rfl (.tmp rfl) [] rfl ⟨rfl, rfl⟩)))
        · refine TC.skip ?_
          refine TC.region ?_
          refine TL.move rfl rfl (v := .int .i64 i1) rfl ?_
          refine TL.bin .i64 i1 1 rfl rfl rfl rfl (v := .int .i64 (w64 (i1 + 1))) rfl ?_
          refine TL.assign rfl rfl (v := .int .i64 (w64 (i1 + 1))) rfl ?_
          refine TL.done ?_
          exact TC.next ((w64 (i1 + 1))) (()) ⟨rfl, rfl, rfl, trivial⟩ [0, 0] rfl
    · exact TC.brk (i1) (()) ⟨rfl, rfl, rfl, trivial⟩ [0, 0] rfl
  · rintro i1 _
    refine TC.seq ?_
    refine TC.region ?_
    refine TL.assign rfl rfl (v := .bool true) rfl ?_
    refine TL.done ?_
    exact TC.retF (Fin.body (fin1 (.inr rfl) rfl (.tmp rfl) [] rfl ⟨rfl, rfl⟩))

end Go.Proofs.Ytiiljfpbcanphaa.G

/- laws.eqVector, as a pure function. -/
set_option linter.unusedVariables false
namespace Go.Proofs.Ytiiljfpbcanphaa.G
open Go Go.Sx Go.Proofs

def laws_eqVector.b0 (a_1 : Nat → UInt8) (b_1 : Nat → UInt8) : Int → Option (LR Int Bool) := fun i1 => (bif (decide (i1 < 6)) then chk i1 6 ((bif (((a_1 i1.toNat).toNat : Int) != ((b_1 i1.toNat).toNat : Int)) then some (.ret (false)) else some (.next (w64 (i1 + 1))))) else some (.brk i1))

def laws_eqVector.f (a_1 : Nat → UInt8) (b_1 : Nat → UInt8) : Option Bool := (loop (laws_eqVector.b0 a_1 b_1) 0).bind (ln (fun i1 => some true))

def laws_eqVector.R (r : Bool) (v : Value) (L : List Asn) : Prop := v = .bool r ∧ L = []

set_option maxRecDepth 100000 in
set_option maxHeartbeats 4000000 in
theorem laws_eqVector.calls (w : World) (a_1 : Nat → UInt8) (b_1 : Nat → UInt8) :
    ∀ r, laws_eqVector.f a_1 b_1 = some r → Calls Try.prog 91 #[sval [.arr 6 (enf u8v a_1)], sval [.arr 6 (enf u8v b_1)]] w (Ret w (laws_eqVector.R r)) := by

  refine calls_T (n := 17) (Γ := [(0, sval [.arr 6 (enf u8v a_1)]), (1, sval [.arr 6 (enf u8v b_1)])]) (R := laws_eqVector.R) Try.func91 rfl rfl (Nat.le_of_ble_eq_true rfl) ⟨rfl, rfl, trivial⟩ ?_
  unfold laws_eqVector.f
  refine TC.seq ?_
  refine TC.region ?_
  refine TL.box [.arr 6 (enf u8v a_1)] rfl rfl rfl rfl fun b_2 => ?_
  refine TL.box [.arr 6 (enf u8v b_1)] rfl rfl rfl rfl fun b_3 => ?_
  refine TL.assign rfl rfl (v := .bool false) rfl ?_
  refine TL.done ?_
  refine TC.seq ?_
  refine TC.seq ?_
  refine TC.region ?_
  refine TL.assign rfl rfl (v := .int .i64 0) rfl ?_
  refine TL.done ?_
  refine TC.loopK (σ := Int) (γ := Unit) (Γ' := (fun i1 _ => [(2, bp b_2 0), (3, bp b_3 0), (5, .int .i64 i1)])) (L' := (fun i1 _ => [box b_2 41 [.arr 6 (enf u8v a_1)], box b_3 41 [.arr 6 (enf u8v b_1)]])) (Γb := (fun i1 _ => [(2, bp b_2 0), (3, bp b_3 0), (5, .int .i64 i1)])) (Lb := (fun i1 _ => [box b_2 41 [.arr 6 (enf u8v a_1)], box b_3 41 [.arr 6 (enf u8v b_1)]])) (0) (()) ⟨rfl, rfl, rfl, trivial⟩ [1, 0] rfl ?_ ?_
  · rintro i1 _
    refine TC.seq ?_
    refine TC.seq ?_
    refine TC.region ?_
    refine TL.move rfl rfl (v := .int .i64 i1) rfl ?_
    refine TL.bin .i64 i1 6 rfl rfl rfl rfl (v := .bool (decide (i1 < 6))) rfl ?_
    refine TL.done ?_
    refine TC.cond (b := (decide (i1 < 6))) rfl (fun c1 => ?_) (fun c2 => ?_)
    · refine TC.skip ?_
      refine TC.seq ?_
      refine TC.block (NoEx.loop rfl NoEx.body) ?_
      refine TC.seq ?_
      refine TC.wk (Γ' := [(2, bp b_2 0), (3, bp b_3 0), (5, .int .i64 i1), (6, .int .i64 i1), (7, .bool (decide (i1 < 6)))]) ⟨rfl, rfl, rfl, rfl, rfl, trivial⟩ ?_
      refine TC.chk fun h1 => ?_
      refine TC.draw [.int .i64 i1, bp b_2 i1.toNat, u8v (a_1 i1.toNat), .int .i64 i1, bp b_3 i1.toNat, u8v (b_1 i1.toNat), .bool (((a_1 i1.toNat).toNat : Int) != ((b_1 i1.toNat).toNat : Int))] 7 [box b_2 41 [.arr 6 (enf u8v a_1)], box b_3 41 [.arr 6 (enf u8v b_1)]] (by kernel_rfl) rfl rfl rfl rfl ?_ ?_
      · refine ⟨?_, ?_, ?_, ?_, ?_, ?_, ?_, trivial⟩
        · refine TL.move rfl rfl (v := .int .i64 i1) rfl ?_
          refine TL.done ?_
          exact TC.nrm () () ⟨rfl, trivial⟩ [0, 0] (by kernel_rfl)
        · refine TL.ixa i1 i1.toNat h1 Try.underlying41 Try.sizeOf5 rfl rfl rfl rfl (by omega) ?_
          refine TL.done ?_
          exact TC.nrm () () ⟨rfl, trivial⟩ [0, 0] (by kernel_rfl)
        · refine TL.loadA i1.toNat 0 (Src.box 0 rfl) Try.isAgg5 rfl (by omega) (v := u8v (a_1 i1.toNat)) rfl (st := 0) rfl (by omega) rfl rfl rfl ?_
          refine TL.done ?_
          exact TC.nrm () () ⟨rfl, trivial⟩ [0, 0] (by kernel_rfl)
        · refine TL.move rfl rfl (v := .int .i64 i1) rfl ?_
          refine TL.done ?_
          exact TC.nrm () () ⟨rfl, trivial⟩ [0, 0] (by kernel_rfl)
        · refine TL.ixa i1 i1.toNat h1 Try.underlying41 Try.sizeOf5 rfl rfl rfl rfl (by omega) ?_
          refine TL.done ?_
          exact TC.nrm () () ⟨rfl, trivial⟩ [0, 0] (by kernel_rfl)
        · refine TL.loadA i1.toNat 0 (Src.box 1 rfl) Try.isAgg5 rfl (by omega) (v := u8v (b_1 i1.toNat)) rfl (st := 0) rfl (by omega) rfl rfl rfl ?_
          refine TL.done ?_
          exact TC.nrm () () ⟨rfl, trivial⟩ [0, 0] (by kernel_rfl)
        · refine TL.bin .u8 ((a_1 i1.toNat).toNat : Int) ((b_1 i1.toNat).toNat : Int) rfl rfl rfl rfl (v := .bool (((a_1 i1.toNat).toNat : Int) != ((b_1 i1.toNat).toNat : Int))) rfl ?_
          refine TL.done ?_
          exact TC.nrm () () ⟨rfl, trivial⟩ [0, 0] (by kernel_rfl)
      · refine TC.cond (b := (((a_1 i1.toNat).toNat : Int) != ((b_1 i1.toNat).toNat : Int))) rfl (fun c3 => ?_) (fun c4 => ?_)
        · refine TC.seq ?_
          refine TC.region ?_
          refine TL.assign rfl rfl (v := .bool false) rfl ?_
          refine TL.done ?_
          exact TC.retF (Fin.loop Far.ret (Fin.body (fin1 (.inr rfl) rfl (.tmp rfl) [] rfl ⟨rfl, rfl⟩)))
        · refine TC.skip ?_
          refine TC.region ?_
          refine TL.move rfl rfl (v := .int .i64 i1) rfl ?_
          refine TL.bin .i64 i1 1 rfl rfl rfl rfl (v := .int .i64 (w64 (i1 + 1))) rfl ?_
          refine TL.assign rfl rfl (v := .int .i64 (w64 (i1 + 1))) rfl ?_
          refine TL.done ?_
          exact TC.next ((w64 (i1 + 1))) (()) ⟨rfl, rfl, rfl, trivial⟩ [0, 0] rfl
    · exact TC.brk (i1) (()) ⟨rfl, rfl, rfl, trivial⟩ [0, 0] rfl
  · rintro i1 _
    refine TC.seq ?_
    refine TC.region ?_
    refine TL.assign rfl rfl (v := .bool true) rfl ?_
    refine TL.done ?_
    exact TC.retF (Fin.body (fin1 (.inr rfl) rfl (.tmp rfl) [] rfl ⟨rfl, rfl⟩))

end Go.Proofs.Ytiiljfpbcanphaa.G
