/- Functions of the program, as pure functions. -/
import Derived.Test.YtiiljfpbcanphaaMRootNumber2
import Derived.Test.YtiiljfpbcanphaaProg
/- impl.rest, as a pure function. -/
set_option linter.unusedVariables false
namespace Go.Proofs.Ytiiljfpbcanphaa.G
open Go Go.Sx Go.Proofs

def impl_rest.f (n_1 : Int) (p1 : Int) : Option Int := nz p1 (some (Int.tmod (w64 ((Int.tmod n_1 p1) + p1)) p1))

def impl_rest.R (r : Int) (v : Value) (L : List Asn) : Prop := v = .int .i64 r ∧ L = []

set_option maxRecDepth 100000 in
set_option maxHeartbeats 4000000 in
theorem impl_rest.calls (w : World) (n_1 : Int) (p1 : Int) :
    ∀ r, impl_rest.f n_1 p1 = some r → Calls Try.prog 203 #[.int .i64 n_1, .int .i64 p1] w (Ret w (impl_rest.R r)) := by

  refine calls_T (n := 12) (Γ := [(0, .int .i64 n_1), (1, .int .i64 p1)]) (R := impl_rest.R) Try.func203 rfl rfl (Nat.le_of_ble_eq_true rfl) ⟨rfl, rfl, trivial⟩ ?_
  unfold impl_rest.f
  refine TC.seq ?_
  refine TC.region ?_
  refine TL.assign rfl rfl (v := .int .i64 0) rfl ?_
  refine TL.done ?_
  refine TC.seq ?_
  refine TC.region ?_
  refine TL.move rfl rfl (v := .int .i64 n_1) rfl ?_
  refine TL.move rfl rfl (v := .int .i64 p1) rfl ?_
  refine TL.nz fun z1 => ?_
  refine TL.rem .i64 n_1 p1 z1 rfl rfl rfl rfl ?_
  refine TL.move rfl rfl (v := .int .i64 p1) rfl ?_
  refine TL.bin .i64 (Int.tmod n_1 p1) p1 rfl rfl rfl rfl (v := .int .i64 (w64 ((Int.tmod n_1 p1) + p1))) rfl ?_
  refine TL.move rfl rfl (v := .int .i64 p1) rfl ?_
  refine TL.rem .i64 (w64 ((Int.tmod n_1 p1) + p1)) p1 z1 rfl rfl rfl rfl ?_
  refine TL.assign rfl rfl (v := .int .i64 (Int.tmod (w64 ((Int.tmod n_1 p1) + p1)) p1)) rfl ?_
  refine TL.done ?_
  exact TC.retF (Fin.body (fin1 (.inr rfl) rfl (.tmp rfl) [] rfl ⟨rfl, rfl⟩))

end Go.Proofs.Ytiiljfpbcanphaa.G

/- laws.szInt64S, as a pure function. -/
set_option linter.unusedVariables false
namespace Go.Proofs.Ytiiljfpbcanphaa.G
open Go Go.Sx Go.Proofs

def laws_szInt64S.f (a_1 : List Int) (left_1 : Int) : Option Int := (bif (decide ((w64 (left_1 - (a_1.length : Int))) < 0)) then some (-1) else some (w64 (left_1 - (a_1.length : Int))))

def laws_szInt64S.R (r : Int) (v : Value) (L : List Asn) : Prop := v = .int .i64 r ∧ L = []

set_option maxRecDepth 100000 in
set_option maxHeartbeats 4000000 in
theorem laws_szInt64S.calls (w : World) (s1 : SV) (a_1 : List Int) (left_1 : Int) (h1 : Reads Ei (hp w) s1 a_1) :
    ∀ r, laws_szInt64S.f a_1 left_1 = some r → Calls Try.prog 99 #[SV.v s1, .int .i64 left_1] w (Ret w (laws_szInt64S.R r)) := by

  refine calls_T (n := 12) (Γ := [(0, SV.v s1), (1, .int .i64 left_1)]) (R := laws_szInt64S.R) Try.func99 rfl rfl (Nat.le_of_ble_eq_true rfl) ⟨rfl, rfl, trivial⟩ ?_
  unfold laws_szInt64S.f
  refine TC.seq ?_
  refine TC.region ?_
  refine TL.assign rfl rfl (v := .int .i64 0) rfl ?_
  refine TL.done ?_
  refine TC.seq ?_
  refine TC.region ?_
  refine TL.move rfl rfl (v := .int .i64 left_1) rfl ?_
  refine TL.move rfl rfl (v := SV.v s1) rfl ?_
  refine TL.len (Rd.old h1) Try.underlying22 rfl rfl rfl ?_
  refine TL.bin .i64 left_1 (a_1.length : Int) rfl rfl rfl rfl (v := .int .i64 (w64 (left_1 - (a_1.length : Int)))) rfl ?_
  refine TL.assign rfl rfl (v := .int .i64 (w64 (left_1 - (a_1.length : Int)))) rfl ?_
  refine TL.done ?_
  refine TC.seq ?_
  refine TC.seq ?_
  refine TC.region ?_
  refine TL.move rfl rfl (v := .int .i64 (w64 (left_1 - (a_1.length : Int)))) rfl ?_
  refine TL.bin .i64 (w64 (left_1 - (a_1.length : Int))) 0 rfl rfl rfl rfl (v := .bool (decide ((w64 (left_1 - (a_1.length : Int))) < 0))) rfl ?_
  refine TL.done ?_
  refine TC.cond (b := (decide ((w64 (left_1 - (a_1.length : Int))) < 0))) rfl (fun c1 => ?_) (fun c2 => ?_)
  · refine TC.seq ?_
    refine TC.region ?_
    refine TL.assign rfl rfl (v := .int .i64 (-1)) rfl ?_
    refine TL.done ?_
    exact TC.retF (Fin.body (fin1 (.inr rfl) rfl (.tmp rfl) [] rfl ⟨rfl, rfl⟩))
  · refine TC.skip ?_
    refine TC.seq ?_
    refine TC.region ?_
    refine TL.move rfl rfl (v := .int .i64 (w64 (left_1 - (a_1.length : Int)))) rfl ?_
    refine TL.assign rfl rfl (v := .int .i64 (w64 (left_1 - (a_1.length : Int)))) rfl ?_
    refine TL.done ?_
    exact TC.retF (Fin.body (fin1 (.inr rfl) rfl (.tmp rfl) [] rfl ⟨rfl, rfl⟩))

end Go.Proofs.Ytiiljfpbcanphaa.G

/- laws.markInt64S, as a pure function. -/
set_option linter.unusedVariables false
namespace Go.Proofs.Ytiiljfpbcanphaa.G
open Go Go.Sx Go.Proofs

def laws_markInt64S.b0 : (List Int) × Int × Int → Option (LB ((List Int) × Int × Int)) := fun p => match p with | (a_2, k_2, i1) => (bif (decide (i1 < (a_2.length : Int))) then chk i1 a_2.length (some (.next ((a_2.set i1.toNat k_2), (w64 (k_2 + 1)), (w64 (i1 + 1))))) else some (.brk (a_2, k_2, i1)))

def laws_markInt64S.f (a_1 : List Int) (k_1 : Int) : Option (Int × (List Int)) := (loop1 (laws_markInt64S.b0) (a_1, k_1, 0)).bind (fun p => match p with | (a_2, k_2, i1) => some (k_2, a_2))

def laws_markInt64S.R (s1 : SV) (r : Int × (List Int)) (v : Value) (L : List Asn) : Prop := v = .int .i64 r.1 ∧ L = [row Ei 2 s1 r.2]

set_option maxRecDepth 100000 in
set_option maxHeartbeats 4000000 in
theorem laws_markInt64S.calls (w0 : World) (I : Hp) (w : World) (s1 : SV) (a_1 : List Int) (k_1 : Int) (hS : St w0 I [row Ei 2 s1 a_1] w) :
    ∀ r, laws_markInt64S.f a_1 k_1 = some r → Calls Try.prog 18 #[SV.v s1, .int .i64 k_1] w (RetM w0 I ((laws_markInt64S.R s1) r)) := by

  refine calls_TM (w0 := w0) (I := I) (L := [row Ei 2 s1 a_1]) (n := 19) (Γ := [(0, SV.v s1), (1, .int .i64 k_1)]) (R := (laws_markInt64S.R s1)) Try.func18 rfl rfl (Nat.le_of_ble_eq_true rfl) ⟨rfl, rfl, trivial⟩ ?_ w hS
  unfold laws_markInt64S.f
  refine TC.seq ?_
  refine TC.region ?_
  refine TL.assign rfl rfl (v := .int .i64 0) rfl ?_
  refine TL.done ?_
  refine TC.seq ?_
  refine TC.seq ?_
  refine TC.region ?_
  refine TL.assign rfl rfl (v := .int .i64 0) rfl ?_
  refine TL.done ?_
  refine TC.loop1 (σ := (List Int) × Int × Int) (γ := Unit) (Γ' := (fun p q => match p, q with | (a_2, k_2, i1), _ => [(0, SV.v s1), (1, .int .i64 k_2), (5, .int .i64 i1)])) (L' := (fun p q => match p, q with | (a_2, k_2, i1), _ => [row Ei 2 s1 a_2])) (Γb := (fun p q => match p, q with | (a_2, k_2, i1), _ => [(0, SV.v s1), (1, .int .i64 k_2), (5, .int .i64 i1)])) (Lb := (fun p q => match p, q with | (a_2, k_2, i1), _ => [row Ei 2 s1 a_2])) ((a_1, k_1, 0)) (()) ⟨rfl, rfl, rfl, trivial⟩ [0] rfl ?_ ?_
  · rintro ⟨a_2, k_2, i1⟩ _
    refine TC.seq ?_
    refine TC.seq ?_
    refine TC.region ?_
    refine TL.move rfl rfl (v := .int .i64 i1) rfl ?_
    refine TL.move rfl rfl (v := SV.v s1) rfl ?_
    refine TL.len (Rd.row 0 rfl) Try.underlying22 rfl rfl rfl ?_
    refine TL.bin .i64 i1 (a_2.length : Int) rfl rfl rfl rfl (v := .bool (decide (i1 < (a_2.length : Int)))) rfl ?_
    refine TL.done ?_
    refine TC.cond (b := (decide (i1 < (a_2.length : Int)))) rfl (fun c1 => ?_) (fun c2 => ?_)
    · refine TC.skip ?_
      refine TC.seq ?_
      refine TC.block (NoEx.loop1 rfl) ?_
      refine TC.seq ?_
      refine TC.region ?_
      refine TL.move rfl rfl (v := SV.v s1) rfl ?_
      refine TL.move rfl rfl (v := .int .i64 i1) rfl ?_
      refine TL.move rfl rfl (v := .int .i64 k_2) rfl ?_
      refine TL.chk fun h1 => ?_
      refine TL.ixs i1 i1.toNat (Rd.row 0 rfl) h1 Try.underlying22 Try.sizeOf2 rfl rfl rfl rfl (by omega) ?_
      refine TL.stE 0 (i1.toNat) k_2 (v := .int .i64 k_2) rfl Try.sizeOf2 rfl rfl rfl (by have h_ := h1; omega) (by simp only [show Ei.sz = 1 from rfl] <;> omega) rfl rfl rfl ?_
      refine TL.done ?_
      refine TC.region ?_
      refine TL.move rfl rfl (v := .int .i64 k_2) rfl ?_
      refine TL.bin .i64 k_2 1 rfl rfl rfl rfl (v := .int .i64 (w64 (k_2 + 1))) rfl ?_
      refine TL.assign rfl rfl (v := .int .i64 (w64 (k_2 + 1))) rfl ?_
      refine TL.done ?_
      refine TC.region ?_
      refine TL.move rfl rfl (v := .int .i64 i1) rfl ?_
      refine TL.bin .i64 i1 1 rfl rfl rfl rfl (v := .int .i64 (w64 (i1 + 1))) rfl ?_
      refine TL.assign rfl rfl (v := .int .i64 (w64 (i1 + 1))) rfl ?_
      refine TL.done ?_
      exact TC.next1 (((a_2.set i1.toNat k_2), (w64 (k_2 + 1)), (w64 (i1 + 1)))) (()) ⟨rfl, rfl, rfl, trivial⟩ [0] rfl
    · exact TC.brk1 ((a_2, k_2, i1)) (()) ⟨rfl, rfl, rfl, trivial⟩ [0] rfl
  · rintro ⟨a_2, k_2, i1⟩ _
    refine TC.seq ?_
    refine TC.region ?_
    refine TL.move rfl rfl (v := .int .i64 k_2) rfl ?_
    refine TL.assign rfl rfl (v := .int .i64 k_2) rfl ?_
    refine TL.done ?_
    exact TC.retF (Fin.body (fin1 (.inr rfl) rfl (.tmp rfl) [0] rfl ⟨rfl, rfl⟩))

end Go.Proofs.Ytiiljfpbcanphaa.G

/- laws.heldInt64S, as a pure function. -/
set_option linter.unusedVariables false
namespace Go.Proofs.Ytiiljfpbcanphaa.G
open Go Go.Sx Go.Proofs

def laws_heldInt64S.b0 (a_1 : List Int) : Int × Int → Option (LR (Int × Int) Int) := fun p => match p with | (k_2, i1) => (bif (decide (i1 < (a_1.length : Int))) then chk i1 a_1.length ((bif ((gt a_1 i1) != k_2) then some (.ret ((-1))) else some (.next ((w64 (k_2 + 1)), (w64 (i1 + 1)))))) else some (.brk (k_2, i1)))

def laws_heldInt64S.f (a_1 : List Int) (k_1 : Int) : Option Int := (loop (laws_heldInt64S.b0 a_1) (k_1, 0)).bind (ln (fun p => match p with | (k_2, i1) => some k_2))

def laws_heldInt64S.R (r : Int) (v : Value) (L : List Asn) : Prop := v = .int .i64 r ∧ L = []

set_option maxRecDepth 100000 in
set_option maxHeartbeats 4000000 in
theorem laws_heldInt64S.calls (w : World) (s1 : SV) (a_1 : List Int) (k_1 : Int) (h1 : Reads Ei (hp w) s1 a_1) :
    ∀ r, laws_heldInt64S.f a_1 k_1 = some r → Calls Try.prog 19 #[SV.v s1, .int .i64 k_1] w (Ret w (laws_heldInt64S.R r)) := by

  refine calls_T (n := 21) (Γ := [(0, SV.v s1), (1, .int .i64 k_1)]) (R := laws_heldInt64S.R) Try.func19 rfl rfl (Nat.le_of_ble_eq_true rfl) ⟨rfl, rfl, trivial⟩ ?_
  unfold laws_heldInt64S.f
  refine TC.seq ?_
  refine TC.region ?_
  refine TL.assign rfl rfl (v := .int .i64 0) rfl ?_
  refine TL.done ?_
  refine TC.seq ?_
  refine TC.seq ?_
  refine TC.region ?_
  refine TL.assign rfl rfl (v := .int .i64 0) rfl ?_
  refine TL.done ?_
  refine TC.loopK (σ := Int × Int) (γ := Unit) (Γ' := (fun p q => match p, q with | (k_2, i1), _ => [(0, SV.v s1), (1, .int .i64 k_2), (5, .int .i64 i1)])) (L' := (fun p q => match p, q with | (k_2, i1), _ => [])) (Γb := (fun p q => match p, q with | (k_2, i1), _ => [(0, SV.v s1), (1, .int .i64 k_2), (5, .int .i64 i1)])) (Lb := (fun p q => match p, q with | (k_2, i1), _ => [])) ((k_1, 0)) (()) ⟨rfl, rfl, rfl, trivial⟩ [] rfl ?_ ?_
  · rintro ⟨k_2, i1⟩ _
    refine TC.seq ?_
    refine TC.seq ?_
    refine TC.region ?_
    refine TL.move rfl rfl (v := .int .i64 i1) rfl ?_
    refine TL.move rfl rfl (v := SV.v s1) rfl ?_
    refine TL.len (Rd.old h1) Try.underlying22 rfl rfl rfl ?_
    refine TL.bin .i64 i1 (a_1.length : Int) rfl rfl rfl rfl (v := .bool (decide (i1 < (a_1.length : Int)))) rfl ?_
    refine TL.done ?_
    refine TC.cond (b := (decide (i1 < (a_1.length : Int)))) rfl (fun c1 => ?_) (fun c2 => ?_)
    · refine TC.skip ?_
      refine TC.seq ?_
      refine TC.block (NoEx.loop rfl NoEx.body) ?_
      refine TC.seq ?_
      refine TC.seq ?_
      refine TC.region ?_
      refine TL.move rfl rfl (v := SV.v s1) rfl ?_
      refine TL.move rfl rfl (v := .int .i64 i1) rfl ?_
      refine TL.chk fun h2 => ?_
      refine TL.ixs i1 i1.toNat (Rd.old h1) h2 Try.underlying22 Try.sizeOf2 rfl rfl rfl rfl (by omega) ?_
      refine TL.loadE (Rd.old h1) Try.isAgg2 i1.toNat 0 (gt_spec h2) (v := .int .i64 (gt a_1 i1)) rfl (by simp only [show Ei.sz = 1 from rfl] <;> omega) rfl rfl rfl ?_
      refine TL.move rfl rfl (v := .int .i64 k_2) rfl ?_
      refine TL.bin .i64 (gt a_1 i1) k_2 rfl rfl rfl rfl (v := .bool ((gt a_1 i1) != k_2)) rfl ?_
      refine TL.done ?_
      refine TC.cond (b := ((gt a_1 i1) != k_2)) rfl (fun c3 => ?_) (fun c4 => ?_)
      · refine TC.seq ?_
        refine TC.region ?_
        refine TL.assign rfl rfl (v := .int .i64 (-1)) rfl ?_
        refine TL.done ?_
        exact TC.retF (Fin.loop Far.ret (Fin.body (fin1 (.inr rfl) rfl (.tmp rfl) [] rfl ⟨rfl, rfl⟩)))
      · refine TC.skip ?_
        refine TC.region ?_
        refine TL.move rfl rfl (v := .int .i64 k_2) rfl ?_
        refine TL.bin .i64 k_2 1 rfl rfl rfl rfl (v := .int .i64 (w64 (k_2 + 1))) rfl ?_
        refine TL.assign rfl rfl (v := .int .i64 (w64 (k_2 + 1))) rfl ?_
        refine TL.done ?_
        refine TC.region ?_
        refine TL.move rfl rfl (v := .int .i64 i1) rfl ?_
        refine TL.bin .i64 i1 1 rfl rfl rfl rfl (v := .int .i64 (w64 (i1 + 1))) rfl ?_
        refine TL.assign rfl rfl (v := .int .i64 (w64 (i1 + 1))) rfl ?_
        refine TL.done ?_
        exact TC.next (((w64 (k_2 + 1)), (w64 (i1 + 1)))) (()) ⟨rfl, rfl, rfl, trivial⟩ [] rfl
    · exact TC.brk ((k_2, i1)) (()) ⟨rfl, rfl, rfl, trivial⟩ [] rfl
  · rintro ⟨k_2, i1⟩ _
    refine TC.seq ?_
    refine TC.region ?_
    refine TL.move rfl rfl (v := .int .i64 k_2) rfl ?_
    refine TL.assign rfl rfl (v := .int .i64 k_2) rfl ?_
    refine TL.done ?_
    exact TC.retF (Fin.body (fin1 (.inr rfl) rfl (.tmp rfl) [] rfl ⟨rfl, rfl⟩))

end Go.Proofs.Ytiiljfpbcanphaa.G
