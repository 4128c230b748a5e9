/- Functions of the program, as pure functions. -/
import Derived.Test.YtiiljfpbcanphaaMIsAlgebra5
import Derived.Test.YtiiljfpbcanphaaProg
/- impl.poolOf, as a pure function. -/
set_option linter.unusedVariables false
namespace Go.Proofs.Ytiiljfpbcanphaa.G
open Go Go.Sx Go.Proofs

def impl_poolOf.b0 (n_1 : Int) : (List Int) × Int → Option (LB ((List Int) × Int)) := fun p => match p with | (p1, x1) => (bif (decide (x1 < n_1)) then (G.impl_pool_add.f p1).bind (fun p => match p with | (r_1, p2) => some (.next (p2, (w64 (x1 + 1))))) else some (.brk (p1, x1)))

def impl_poolOf.f (n_1 : Int) : Option (List Int) := (loop1 (impl_poolOf.b0 n_1) (([] : List Int), 0)).bind (fun p => match p with | (p1, x1) => some p1)

def impl_poolOf.R (r : List Int) (v : Value) (L : List Asn) : Prop := ∃ (s0 : SV), v = SV.v s0 ∧ L = [row Ei 3 s0 r]

set_option maxRecDepth 100000 in
set_option maxHeartbeats 4000000 in
theorem impl_poolOf.calls (w : World) (n_1 : Int) :
    ∀ r, impl_poolOf.f n_1 = some r → Calls Try.prog 170 #[.int .i64 n_1] w (Ret w (impl_poolOf.R r)) := by

  refine calls_T (n := 11) (Γ := [(0, .int .i64 n_1)]) (R := impl_poolOf.R) Try.func170 rfl rfl (Nat.le_of_ble_eq_true rfl) ⟨rfl, trivial⟩ ?_
  unfold impl_poolOf.f
  refine TC.seq ?_
  refine TC.region ?_
  refine TL.assign rfl rfl (v := SV.v ⟨none, 0, 0⟩) rfl ?_
  refine TL.done ?_
  refine TC.seq ?_
  refine TC.region ?_
  refine TL.bslice0 Ei Try.underlying150 Try.sizeOf3 rfl rfl fun s1 => ?_
  refine TL.alloc [.one (SV.v ⟨none, 0, 0⟩)] rfl rfl Try.zeroValue150 rfl fun b_1 => ?_
  refine TL.st1 0 0 rfl Try.sizeOf150 rfl rfl rfl rfl rfl rfl rfl ?_
  refine TL.done ?_
  refine TC.seq ?_
  refine TC.seq ?_
  refine TC.region ?_
  refine TL.move rfl rfl (v := .int .i64 n_1) rfl ?_
  refine TL.move rfl rfl (v := .int .i64 0) rfl ?_
  refine TL.done ?_
  refine TC.loop1 (σ := (List Int) × Int) (γ := SV) (Γ' := (fun p q => match p, q with | (p1, x1), s2 => [(3, bp b_1 0), (5, .int .i64 n_1), (6, .int .i64 x1)])) (L' := (fun p q => match p, q with | (p1, x1), s2 => [box b_1 150 [.one (SV.v s2)], row Ei 3 s2 p1])) (Γb := (fun p q => match p, q with | (p1, x1), s2 => [(3, bp b_1 0), (5, .int .i64 n_1), (6, .int .i64 x1)])) (Lb := (fun p q => match p, q with | (p1, x1), s2 => [box b_1 150 [.one (SV.v s2)], row Ei 3 s2 p1])) ((([] : List Int), 0)) (s1) ⟨rfl, rfl, rfl, trivial⟩ [0, 0] rfl ?_ ?_
  · rintro ⟨p1, x1⟩ s2
    refine TC.seq ?_
    refine TC.region ?_
    refine TL.bin .i64 x1 n_1 rfl rfl rfl rfl (v := .bool (decide (x1 < n_1))) rfl ?_
    refine TL.done ?_
    refine TC.seq ?_
    refine TC.cond (b := (decide (x1 < n_1))) rfl (fun c1 => ?_) (fun c2 => ?_)
    · refine TC.skip ?_
      refine TC.seq ?_
      refine TC.block (NoEx.loop1 rfl) ?_
      refine TC.region ?_
      refine TL.callX (R := G.impl_pool_add.R b_1) [0, 0] [box b_1 150 [.one (SV.v s2)], row Ei 3 s2 p1] [] rfl Try.call188 rfl rfl rfl (fun w I_ hle hB hS => G.impl_pool_add.calls _ I_ w b_1 s2 p1 hS) ?_
      rintro ⟨r_1, p2⟩ _ _ ⟨s3, rfl, rfl⟩
      refine TL.done ?_
      refine TC.region ?_
      refine TL.bin .i64 x1 1 rfl rfl rfl rfl (v := .int .i64 (w64 (x1 + 1))) rfl ?_
      refine TL.move rfl rfl (v := .int .i64 (w64 (x1 + 1))) rfl ?_
      refine TL.done ?_
      exact TC.next1 ((p2, (w64 (x1 + 1)))) (s3) ⟨rfl, rfl, rfl, trivial⟩ [0, 0] rfl
    · exact TC.brk1 ((p1, x1)) (s2) ⟨rfl, rfl, rfl, trivial⟩ [0, 0] rfl
  · rintro ⟨p1, x1⟩ s2
    refine TC.seq ?_
    refine TC.region ?_
    refine TL.load1 0 (Src.box 0 rfl) Try.isAgg150 rfl rfl rfl rfl rfl ?_
    refine TL.assign rfl rfl (v := SV.v s2) rfl ?_
    refine TL.done ?_
    exact TC.retF (Fin.body (fin1 (.inr rfl) rfl (.tmp rfl) [1] rfl ⟨s2, rfl, rfl⟩))

end Go.Proofs.Ytiiljfpbcanphaa.G

/- impl.pool).find, as a pure function. -/
set_option linter.unusedVariables false
namespace Go.Proofs.Ytiiljfpbcanphaa.G
open Go Go.Sx Go.Proofs

def impl_pool_find.b0 (p1 : List Int) : Int → Option (LB Int) := fun i2 => chk i2 p1.length ((bif ((gt p1 i2) != i2) then some (.next (gt p1 i2)) else some (.brk i2)))

def impl_pool_find.f (p1 : List Int) (i1 : Int) : Option Int := (loop1 (impl_pool_find.b0 p1) i1).bind (fun i2 => some i2)

def impl_pool_find.R (r : Int) (v : Value) (L : List Asn) : Prop := v = .int .i64 r ∧ L = []

set_option maxRecDepth 100000 in
set_option maxHeartbeats 4000000 in
theorem impl_pool_find.calls (w : World) (s1 : SV) (p1 : List Int) (i1 : Int) (h1 : Reads Ei (hp w) s1 p1) :
    ∀ r, impl_pool_find.f p1 i1 = some r → Calls Try.prog 189 #[SV.v s1, .int .i64 i1] w (Ret w (impl_pool_find.R r)) := by

  refine calls_T (n := 16) (Γ := [(0, SV.v s1), (1, .int .i64 i1)]) (R := impl_pool_find.R) Try.func189 rfl rfl (Nat.le_of_ble_eq_true rfl) ⟨rfl, rfl, trivial⟩ ?_
  unfold impl_pool_find.f
  refine TC.seq ?_
  refine TC.region ?_
  refine TL.assign rfl rfl (v := .int .i64 0) rfl ?_
  refine TL.done ?_
  refine TC.seq ?_
  refine TC.loop1 (σ := Int) (γ := Unit) (Γ' := (fun i2 _ => [(0, SV.v s1), (1, .int .i64 i2)])) (L' := (fun i2 _ => [])) (Γb := (fun i2 _ => [(0, SV.v s1), (1, .int .i64 i2)])) (Lb := (fun i2 _ => [])) (i1) (()) ⟨rfl, rfl, trivial⟩ [] rfl ?_ ?_
  · rintro i2 _
    refine TC.seq ?_
    refine TC.seq ?_
    refine TC.region ?_
    refine TL.move rfl rfl (v := SV.v s1) rfl ?_
    refine TL.move rfl rfl (v := .int .i64 i2) rfl ?_
    refine TL.chk fun h2 => ?_
    refine TL.ixs i2 i2.toNat (Rd.old h1) h2 Try.underlying150 Try.sizeOf3 rfl rfl rfl rfl (by omega) ?_
    refine TL.loadE (Rd.old h1) Try.isAgg3 i2.toNat 0 (gt_spec h2) (v := .int .i64 (gt p1 i2)) rfl (by simp only [show Ei.sz = 1 from rfl] <;> omega) rfl rfl rfl ?_
    refine TL.move rfl rfl (v := .int .i64 i2) rfl ?_
    refine TL.bin .i64 (gt p1 i2) i2 rfl rfl rfl rfl (v := .bool ((gt p1 i2) != i2)) rfl ?_
    refine TL.done ?_
    refine TC.cond (b := ((gt p1 i2) != i2)) rfl (fun c1 => ?_) (fun c2 => ?_)
    · refine TC.skip ?_
      refine TC.block (NoEx.loop1 rfl) ?_
      refine TC.region ?_
      refine TL.move rfl rfl (v := SV.v s1) rfl ?_
      refine TL.move rfl rfl (v := .int .i64 i2) rfl ?_
      refine TL.ixs i2 i2.toNat (Rd.old h1) h2 Try.underlying150 Try.sizeOf3 rfl rfl rfl rfl (by omega) ?_
      refine TL.loadE (Rd.old h1) Try.isAgg3 i2.toNat 0 (gt_spec h2) (v := .int .i64 (gt p1 i2)) rfl (by simp only [show Ei.sz = 1 from rfl] <;> omega) rfl rfl rfl ?_
      refine TL.assign rfl rfl (v := .int .i64 (gt p1 i2)) rfl ?_
      refine TL.done ?_
      exact TC.next1 ((gt p1 i2)) (()) ⟨rfl, rfl, trivial⟩ [] rfl
    · exact TC.brk1 (i2) (()) ⟨rfl, rfl, trivial⟩ [] rfl
  · rintro i2 _
    refine TC.seq ?_
    refine TC.region ?_
    refine TL.move rfl rfl (v := .int .i64 i2) rfl ?_
    refine TL.assign rfl rfl (v := .int .i64 i2) rfl ?_
    refine TL.done ?_
    exact TC.retF (Fin.body (fin1 (.inr rfl) rfl (.tmp rfl) [] rfl ⟨rfl, rfl⟩))

end Go.Proofs.Ytiiljfpbcanphaa.G

/- impl.pool).join, as a pure function. -/
set_option linter.unusedVariables false
namespace Go.Proofs.Ytiiljfpbcanphaa.G
open Go Go.Sx Go.Proofs

def impl_pool_join.f (p1 : List Int) (i1 : Int) (k_1 : Int) : Option (List Int) := (G.impl_pool_find.f p1 i1).bind (fun r_1 => (G.impl_pool_find.f p1 k_1).bind (fun r_2 => chk (if r_2 > r_1 then r_2 else r_1) p1.length (some (p1.set (if r_2 > r_1 then r_2 else r_1).toNat (if r_2 < r_1 then r_2 else r_1)))))

def impl_pool_join.R (s1 : SV) (r : List Int) (v : Value) (L : List Asn) : Prop := v = .tuple #[] ∧ L = [row Ei 3 s1 r]

set_option maxRecDepth 100000 in
set_option maxHeartbeats 4000000 in
theorem impl_pool_join.calls (w0 : World) (I : Hp) (w : World) (s1 : SV) (p1 : List Int) (i1 : Int) (k_1 : Int) (hS : St w0 I [row Ei 3 s1 p1] w) :
    ∀ r, impl_pool_join.f p1 i1 k_1 = some r → Calls Try.prog 172 #[SV.v s1, .int .i64 i1, .int .i64 k_1] w (RetM w0 I ((impl_pool_join.R s1) r)) := by

  refine calls_TM (w0 := w0) (I := I) (L := [row Ei 3 s1 p1]) (n := 22) (Γ := [(0, SV.v s1), (1, .int .i64 i1), (2, .int .i64 k_1)]) (R := (impl_pool_join.R s1)) Try.func172 rfl rfl (Nat.le_of_ble_eq_true rfl) ⟨rfl, rfl, rfl, trivial⟩ ?_ w hS
  unfold impl_pool_join.f
  refine TC.seq ?_
  refine TC.region ?_
  refine TL.move rfl rfl (v := SV.v s1) rfl ?_
  refine TL.move rfl rfl (v := .int .i64 i1) rfl ?_
  refine TL.call (R := G.impl_pool_find.R) Try.call189 rfl rfl rfl (fun w hS => G.impl_pool_find.calls w s1 p1 i1 ((Rd.row 0 rfl) w hS)) ?_
  rintro r_1 _ _ ⟨rfl, rfl⟩
  refine TL.move rfl rfl (v := SV.v s1) rfl ?_
  refine TL.move rfl rfl (v := .int .i64 k_1) rfl ?_
  refine TL.call (R := G.impl_pool_find.R) Try.call189 rfl rfl rfl (fun w hS => G.impl_pool_find.calls w s1 p1 k_1 ((Rd.row 0 rfl) w hS)) ?_
  rintro r_2 _ _ ⟨rfl, rfl⟩
  refine TL.assign rfl rfl (v := .int .i64 r_1) rfl ?_
  refine TL.assign rfl rfl (v := .int .i64 r_2) rfl ?_
  refine TL.done ?_
  refine TC.region ?_
  refine TL.move rfl rfl (v := SV.v s1) rfl ?_
  refine TL.move rfl rfl (v := .int .i64 r_1) rfl ?_
  refine TL.move rfl rfl (v := .int .i64 r_2) rfl ?_
  refine TL.max2 rfl rfl rfl rfl ?_
  refine TL.move rfl rfl (v := .int .i64 r_1) rfl ?_
  refine TL.move rfl rfl (v := .int .i64 r_2) rfl ?_
  refine TL.min2 rfl rfl rfl rfl ?_
  refine TL.chk fun h1 => ?_
  refine TL.ixs (if r_2 > r_1 then r_2 else r_1) ((if r_2 > r_1 then r_2 else r_1).toNat) (Rd.row 0 rfl) h1 Try.underlying150 Try.sizeOf3 rfl rfl rfl rfl (by omega) ?_
  refine TL.stE 0 ((if r_2 > r_1 then r_2 else r_1).toNat) (if r_2 < r_1 then r_2 else r_1) (v := .int .i64 (if r_2 < r_1 then r_2 else r_1)) rfl Try.sizeOf3 rfl rfl rfl (by have h_ := h1; omega) (by simp only [show Ei.sz = 1 from rfl] <;> omega) rfl rfl rfl ?_
  refine TL.done ?_
  exact TC.nilF (Fin.body (fin0 (.inl rfl) rfl [0] rfl ⟨rfl, rfl⟩))

end Go.Proofs.Ytiiljfpbcanphaa.G

/- impl.pool).distinct, as a pure function. -/
set_option linter.unusedVariables false
namespace Go.Proofs.Ytiiljfpbcanphaa.G
open Go Go.Sx Go.Proofs

def impl_pool_distinct.b0 (p1 : List Int) : Int × Int → Option (LB (Int × Int)) := fun p => match p with | (many_1, x1) => (bif (decide (x1 < (p1.length : Int))) then (G.impl_pool_find.f p1 x1).bind (fun r_1 => ((bif (r_1 == x1) then some (w64 (many_1 + 1)) else some many_1)).bind (fun many_2 => some (.next (many_2, (w64 (x1 + 1)))))) else some (.brk (many_1, x1)))

def impl_pool_distinct.f (p1 : List Int) : Option Int := (loop1 (impl_pool_distinct.b0 p1) (0, 0)).bind (fun p => match p with | (many_1, x1) => some many_1)

def impl_pool_distinct.R (r : Int) (v : Value) (L : List Asn) : Prop := v = .int .i64 r ∧ L = []

set_option maxRecDepth 100000 in
set_option maxHeartbeats 4000000 in
theorem impl_pool_distinct.calls (w : World) (s1 : SV) (p1 : List Int) (h1 : Reads Ei (hp w) s1 p1) :
    ∀ r, impl_pool_distinct.f p1 = some r → Calls Try.prog 173 #[SV.v s1] w (Ret w (impl_pool_distinct.R r)) := by

  refine calls_T (n := 19) (Γ := [(0, SV.v s1)]) (R := impl_pool_distinct.R) Try.func173 rfl rfl (Nat.le_of_ble_eq_true rfl) ⟨rfl, trivial⟩ ?_
  unfold impl_pool_distinct.f
  refine TC.seq ?_
  refine TC.region ?_
  refine TL.assign rfl rfl (v := .int .i64 0) rfl ?_
  refine TL.done ?_
  refine TC.seq ?_
  refine TC.region ?_
  refine TL.assign rfl rfl (v := .int .i64 0) rfl ?_
  refine TL.done ?_
  refine TC.seq ?_
  refine TC.seq ?_
  refine TC.region ?_
  refine TL.move rfl rfl (v := SV.v s1) rfl ?_
  refine TL.len (Rd.old h1) Try.underlying150 rfl rfl rfl ?_
  refine TL.move rfl rfl (v := .int .i64 0) rfl ?_
  refine TL.done ?_
  refine TC.loop1 (σ := Int × Int) (γ := Unit) (Γ' := (fun p q => match p, q with | (many_1, x1), _ => [(0, SV.v s1), (3, .int .i64 many_1), (6, .int .i64 (p1.length : Int)), (7, .int .i64 x1)])) (L' := (fun p q => match p, q with | (many_1, x1), _ => [])) (Γb := (fun p q => match p, q with | (many_1, x1), _ => [(0, SV.v s1), (3, .int .i64 many_1), (6, .int .i64 (p1.length : Int)), (7, .int .i64 x1)])) (Lb := (fun p q => match p, q with | (many_1, x1), _ => [])) ((0, 0)) (()) ⟨rfl, rfl, rfl, rfl, trivial⟩ [] rfl ?_ ?_
  · rintro ⟨many_1, x1⟩ _
    refine TC.seq ?_
    refine TC.region ?_
    refine TL.bin .i64 x1 (p1.length : Int) rfl rfl rfl rfl (v := .bool (decide (x1 < (p1.length : Int)))) rfl ?_
    refine TL.done ?_
    refine TC.seq ?_
    refine TC.cond (b := (decide (x1 < (p1.length : Int)))) rfl (fun c1 => ?_) (fun c2 => ?_)
    · refine TC.skip ?_
      refine TC.seq ?_
      refine TC.block (NoEx.loop1 rfl) ?_
      refine TC.seq ?_
      refine TC.region ?_
      refine TL.move rfl rfl (v := .int .i64 x1) rfl ?_
      refine TL.assign rfl rfl (v := .int .i64 x1) rfl ?_
      refine TL.done ?_
      refine TC.seq ?_
      refine TC.region ?_
      refine TL.move rfl rfl (v := SV.v s1) rfl ?_
      refine TL.move rfl rfl (v := .int .i64 x1) rfl ?_
      refine TL.call (R := G.impl_pool_find.R) Try.call189 rfl rfl rfl (fun w hS => G.impl_pool_find.calls w s1 p1 x1 ((Rd.old h1) w hS)) ?_
      rintro r_1 _ _ ⟨rfl, rfl⟩
      refine TL.move rfl rfl (v := .int .i64 x1) rfl ?_
      refine TL.bin .i64 r_1 x1 rfl rfl rfl rfl (v := .bool (r_1 == x1)) rfl ?_
      refine TL.done ?_
      refine TC.join1 (σ := Int) (γ := Unit) (Γ' := (fun many_2 _ => [(0, SV.v s1), (3, .int .i64 many_2), (6, .int .i64 (p1.length : Int)), (7, .int .i64 x1)])) (L' := (fun many_2 _ => [])) ?_ ?_
      · refine TC.cond (b := (r_1 == x1)) rfl (fun c3 => ?_) (fun c4 => ?_)
        · refine TC.region ?_
          refine TL.move rfl rfl (v := .int .i64 many_1) rfl ?_
          refine TL.bin .i64 many_1 1 rfl rfl rfl rfl (v := .int .i64 (w64 (many_1 + 1))) rfl ?_
          refine TL.assign rfl rfl (v := .int .i64 (w64 (many_1 + 1))) rfl ?_
          refine TL.done ?_
          exact TC.nrm ((w64 (many_1 + 1))) (()) ⟨rfl, rfl, rfl, rfl, trivial⟩ [] rfl
        · refine TC.skip ?_
          exact TC.nrm (many_1) (()) ⟨rfl, rfl, rfl, rfl, trivial⟩ [] rfl
      · rintro many_2 _
        refine TC.region ?_
        refine TL.bin .i64 x1 1 rfl rfl rfl rfl (v := .int .i64 (w64 (x1 + 1))) rfl ?_
        refine TL.move rfl rfl (v := .int .i64 (w64 (x1 + 1))) rfl ?_
        refine TL.done ?_
        exact TC.next1 ((many_2, (w64 (x1 + 1)))) (()) ⟨rfl, rfl, rfl, rfl, trivial⟩ [] rfl
    · exact TC.brk1 ((many_1, x1)) (()) ⟨rfl, rfl, rfl, rfl, trivial⟩ [] rfl
  · rintro ⟨many_1, x1⟩ _
    refine TC.seq ?_
    refine TC.region ?_
    refine TL.move rfl rfl (v := .int .i64 many_1) rfl ?_
    refine TL.assign rfl rfl (v := .int .i64 many_1) rfl ?_
    refine TL.done ?_
    exact TC.retF (Fin.body (fin1 (.inr rfl) rfl (.tmp rfl) [] rfl ⟨rfl, rfl⟩))

end Go.Proofs.Ytiiljfpbcanphaa.G

/- spec.l07Join, as a pure function. -/
set_option linter.unusedVariables false
namespace Go.Proofs.Ytiiljfpbcanphaa.G
open Go Go.Sx Go.Proofs

def spec_l07Join.b0 (leaders1 : List Int) (k_1 : Int) (i1 : Int) : (List Int) × Int → Option (LB ((List Int) × Int)) := fun p => match p with | (out1, j1) => (bif (decide (j1 < (out1.length : Int))) then chk j1 out1.length (((bif ((gt out1 j1) == (gt leaders1 k_1)) then some (out1.set j1.toNat (gt leaders1 i1)) else some out1)).bind (fun out2 => some (.next (out2, (w64 (j1 + 1)))))) else some (.brk (out1, j1)))

def spec_l07Join.f (leaders1 : List Int) (i1 : Int) (k_1 : Int) : Option (List Int) := (G.spec_l01Own.f leaders1).bind (fun r_1 => chk i1 leaders1.length (chk k_1 leaders1.length ((loop1 (spec_l07Join.b0 leaders1 k_1 i1) (r_1, 0)).bind (fun p => match p with | (out1, j1) => some out1))))

def spec_l07Join.R (r : List Int) (v : Value) (L : List Asn) : Prop := ∃ (s0 : SV), v = SV.v s0 ∧ L = [row Ei 2 s0 r]

set_option maxRecDepth 100000 in
set_option maxHeartbeats 4000000 in
theorem spec_l07Join.calls (w : World) (s1 : SV) (leaders1 : List Int) (i1 : Int) (k_1 : Int) (h1 : Reads Ei (hp w) s1 leaders1) :
    ∀ r, spec_l07Join.f leaders1 i1 k_1 = some r → Calls Try.prog 175 #[SV.v s1, .int .i64 i1, .int .i64 k_1] w (Ret w (spec_l07Join.R r)) := by

  refine calls_T (n := 38) (Γ := [(0, SV.v s1), (1, .int .i64 i1), (2, .int .i64 k_1)]) (R := spec_l07Join.R) Try.func175 rfl rfl (Nat.le_of_ble_eq_true rfl) ⟨rfl, rfl, rfl, trivial⟩ ?_
  unfold spec_l07Join.f
  refine TC.seq ?_
  refine TC.region ?_
  refine TL.assign rfl rfl (v := SV.v ⟨none, 0, 0⟩) rfl ?_
  refine TL.done ?_
  refine TC.seq ?_
  refine TC.wk (Γ' := [(0, SV.v s1), (1, .int .i64 i1), (2, .int .i64 k_1), (6, SV.v ⟨none, 0, 0⟩)]) ⟨rfl, rfl, rfl, rfl, trivial⟩ ?_
  refine TC.bindE ?_
  rintro r_1 hr1
  refine TC.chk fun h2 => ?_
  refine TC.chk fun h3 => ?_
  refine TC.drawG [(0, SV.v s1), (1, .int .i64 i1), (2, .int .i64 k_1), (6, SV.v ⟨none, 0, 0⟩)] [] ⟨rfl, rfl, rfl, rfl, trivial⟩ trivial (fun l_ g1 => [(bif nb l_ 1 then row Ei 2 (gs (g1 8)) r_1 else emp)]) (fun g1 => [SV.v s1, SV.v (gs (g1 8)), SV.v s1, .int .i64 i1, ep s1 i1.toNat, .int .i64 (gt leaders1 i1), SV.v s1, .int .i64 k_1, ep s1 k_1.toNat, .int .i64 (gt leaders1 k_1), SV.v (gs (g1 8)), .int .i64 (gt leaders1 i1), .int .i64 (gt leaders1 k_1)]) [[], [0], [], [], [2, 3], [2, 3, 4], [], [], [6, 7], [6, 7, 8], [0, 1], [0, 1, 2, 3, 4, 5, 10], [0, 1, 2, 3, 4, 5, 6, 7, 8, 9, 10, 11]] [[some false, some false, none, none, none, none, none, none, none, none, some false, some false, some false], [some true, some false, none, none, none, none, none, none, none, none, some false, some false, some false], [none, none, some false, none, some false, some false, none, none, none, none, none, some false, some false], [none, none, none, some false, some false, some false, none, none, none, none, none, some false, some false], [none, none, some true, some true, some false, some false, none, none, none, none, none, some false, some false], [none, none, some true, some true, some true, some false, none, none, none, none, none, some false, some false], [none, none, none, none, none, none, some false, none, some false, some false, none, none, some false], [none, none, none, none, none, none, none, some false, some false, some false, none, none, some false], [none, none, none, none, none, none, some true, some true, some false, some false, none, none, some false], [none, none, none, none, none, none, some true, some true, some true, some false, none, none, some false], [some true, some true, none, none, none, none, none, none, none, none, some false, some false, some false], [some true, some true, some true, some true, some true, some true, none, none, none, none, some true, some false, some false], [some true, some true, some true, some true, some true, some true, some true, some true, some true, some true, some true, some true, some false]] (by kernel_rfl) (fun _ => rfl) rfl rfl rfl rfl rfl (fun _ _ => ⟨⟨⟨⟨⟨⟨⟨⟨⟨⟨⟨⟨⟨trivial, rfl⟩, rfl⟩, rfl⟩, rfl⟩, rfl⟩, rfl⟩, rfl⟩, rfl⟩, rfl⟩, rfl⟩, rfl⟩, rfl⟩, rfl⟩) 1 [0] (fun _ => by kernel_rfl) ?_ ?_
  · refine ⟨rfl, ?_, rfl, ?_, rfl, ?_, rfl, ?_, rfl, ?_, rfl, ?_, rfl, ?_, rfl, ?_, rfl, ?_, rfl, ?_, rfl, ?_, rfl, ?_, rfl, ?_, trivial⟩
    · intro b2_ b3_ b4_ b5_ b6_ b7_ b8_ b9_ g1
      refine TL.move rfl rfl (v := SV.v s1) rfl ?_
      refine TL.done ?_
      exact TC.nrm () [] ⟨rfl, trivial⟩ [0] (by kernel_rfl)
    · intro b2_ b3_ b4_ b5_ b6_ b7_ b8_ b9_ g1
      refine TL.asL [emp] (by kernel_rfl) ?_
      refine TL.callH (R := G.spec_l01Own.R) hr1 Try.call165 rfl rfl rfl (fun w hS => G.spec_l01Own.calls w s1 leaders1 ((Rd.old h1) w hS)) ?_
      rintro _ _ ⟨s2, rfl, rfl⟩
      refine TL.done ?_
      exact TC.nrm () [[s2]] ⟨rfl, trivial⟩ [0] (by kernel_rfl)
    · intro b0_ b1_ b3_ b6_ b7_ b8_ b9_ b10_ g1
      refine TL.move rfl rfl (v := SV.v s1) rfl ?_
      refine TL.done ?_
      exact TC.nrm () [] ⟨rfl, trivial⟩ [0] (by kernel_rfl)
    · intro b0_ b1_ b2_ b6_ b7_ b8_ b9_ b10_ g1
      refine TL.move rfl rfl (v := .int .i64 i1) rfl ?_
      refine TL.done ?_
      exact TC.nrm () [] ⟨rfl, trivial⟩ [0] (by kernel_rfl)
    · intro b0_ b1_ b6_ b7_ b8_ b9_ b10_ g1
      refine TL.asL [(bif b1_ then row Ei 2 (gs (g1 8)) r_1 else emp)] (by kernel_rfl) ?_
      refine TL.ixs i1 i1.toNat (Rd.old h1) h2 Try.underlying22 Try.sizeOf2 rfl rfl rfl rfl (by omega) ?_
      refine TL.done ?_
      exact TC.nrm () [] ⟨rfl, trivial⟩ [0] (by kernel_rfl)
    · intro b0_ b1_ b6_ b7_ b8_ b9_ b10_ g1
      refine TL.asL [(bif b1_ then row Ei 2 (gs (g1 8)) r_1 else emp)] (by kernel_rfl) ?_
      refine TL.loadE (Rd.old h1) Try.isAgg2 i1.toNat 0 (gt_spec h2) (v := .int .i64 (gt leaders1 i1)) rfl (by simp only [show Ei.sz = 1 from rfl] <;> omega) rfl rfl rfl ?_
      refine TL.done ?_
      exact TC.nrm () [] ⟨rfl, trivial⟩ [0] (by kernel_rfl)
    · intro b0_ b1_ b2_ b3_ b4_ b5_ b7_ b10_ b11_ g1
      refine TL.move rfl rfl (v := SV.v s1) rfl ?_
      refine TL.done ?_
      exact TC.nrm () [] ⟨rfl, trivial⟩ [0] (by kernel_rfl)
    · intro b0_ b1_ b2_ b3_ b4_ b5_ b6_ b10_ b11_ g1
      refine TL.move rfl rfl (v := .int .i64 k_1) rfl ?_
      refine TL.done ?_
      exact TC.nrm () [] ⟨rfl, trivial⟩ [0] (by kernel_rfl)
    · intro b0_ b1_ b2_ b3_ b4_ b5_ b10_ b11_ g1
      refine TL.asL [(bif b1_ then row Ei 2 (gs (g1 8)) r_1 else emp)] (by kernel_rfl) ?_
      refine TL.ixs k_1 k_1.toNat (Rd.old h1) h3 Try.underlying22 Try.sizeOf2 rfl rfl rfl rfl (by omega) ?_
      refine TL.done ?_
      exact TC.nrm () [] ⟨rfl, trivial⟩ [0] (by kernel_rfl)
    · intro b0_ b1_ b2_ b3_ b4_ b5_ b10_ b11_ g1
      refine TL.asL [(bif b1_ then row Ei 2 (gs (g1 8)) r_1 else emp)] (by kernel_rfl) ?_
      refine TL.loadE (Rd.old h1) Try.isAgg2 k_1.toNat 0 (gt_spec h3) (v := .int .i64 (gt leaders1 k_1)) rfl (by simp only [show Ei.sz = 1 from rfl] <;> omega) rfl rfl rfl ?_
      refine TL.done ?_
      exact TC.nrm () [] ⟨rfl, trivial⟩ [0] (by kernel_rfl)
    · intro b2_ b3_ b4_ b5_ b6_ b7_ b8_ b9_ g1
      refine TL.assign rfl rfl (v := SV.v (gs (g1 8))) rfl ?_
      refine TL.done ?_
      exact TC.nrm () [] ⟨rfl, trivial⟩ [0] (by kernel_rfl)
    · intro b6_ b7_ b8_ b9_ g1
      refine TL.assign rfl rfl (v := .int .i64 (gt leaders1 i1)) rfl ?_
      refine TL.done ?_
      exact TC.nrm () [] ⟨rfl, trivial⟩ [0] (by kernel_rfl)
    · intro g1
      refine TL.assign rfl rfl (v := .int .i64 (gt leaders1 k_1)) rfl ?_
      refine TL.done ?_
      exact TC.nrm () [] ⟨rfl, trivial⟩ [0] (by kernel_rfl)
  · intro g1
    refine TC.asL [row Ei 2 (gs (g1 8)) r_1] (by kernel_rfl) ?_
    refine TC.seq ?_
    refine TC.seq ?_
    refine TC.region ?_
    refine TL.assign rfl rfl (v := .int .i64 0) rfl ?_
    refine TL.done ?_
    refine TC.loop1 (σ := (List Int) × Int) (γ := Unit) (Γ' := (fun p q => match p, q with | (out1, j1), _ => [(7, SV.v (gs (g1 8))), (8, .int .i64 (gt leaders1 i1)), (9, .int .i64 (gt leaders1 k_1)), (10, .int .i64 j1)])) (L' := (fun p q => match p, q with | (out1, j1), _ => [row Ei 2 (gs (g1 8)) out1])) (Γb := (fun p q => match p, q with | (out1, j1), _ => [(7, SV.v (gs (g1 8))), (8, .int .i64 (gt leaders1 i1)), (9, .int .i64 (gt leaders1 k_1)), (10, .int .i64 j1)])) (Lb := (fun p q => match p, q with | (out1, j1), _ => [row Ei 2 (gs (g1 8)) out1])) ((r_1, 0)) (()) ⟨rfl, rfl, rfl, rfl, trivial⟩ [0] rfl ?_ ?_
    · rintro ⟨out1, j1⟩ _
      refine TC.seq ?_
      refine TC.seq ?_
      refine TC.region ?_
      refine TL.move rfl rfl (v := .int .i64 j1) rfl ?_
      refine TL.move rfl rfl (v := SV.v (gs (g1 8))) rfl ?_
      refine TL.len (Rd.row 0 rfl) Try.underlying22 rfl rfl rfl ?_
      refine TL.bin .i64 j1 (out1.length : Int) rfl rfl rfl rfl (v := .bool (decide (j1 < (out1.length : Int)))) rfl ?_
      refine TL.done ?_
      refine TC.cond (b := (decide (j1 < (out1.length : Int)))) rfl (fun c1 => ?_) (fun c2 => ?_)
      · refine TC.skip ?_
        refine TC.seq ?_
        refine TC.block (NoEx.loop1 rfl) ?_
        refine TC.seq ?_
        refine TC.region ?_
        refine TL.move rfl rfl (v := SV.v (gs (g1 8))) rfl ?_
        refine TL.move rfl rfl (v := .int .i64 j1) rfl ?_
        refine TL.chk fun h4 => ?_
        refine TL.ixs j1 j1.toNat (Rd.row 0 rfl) h4 Try.underlying22 Try.sizeOf2 rfl rfl rfl rfl (by omega) ?_
        refine TL.loadE (Rd.row 0 rfl) Try.isAgg2 j1.toNat 0 (gt_spec h4) (v := .int .i64 (gt out1 j1)) rfl (by simp only [show Ei.sz = 1 from rfl] <;> omega) rfl rfl rfl ?_
        refine TL.move rfl rfl (v := .int .i64 (gt leaders1 k_1)) rfl ?_
        refine TL.bin .i64 (gt out1 j1) (gt leaders1 k_1) rfl rfl rfl rfl (v := .bool ((gt out1 j1) == (gt leaders1 k_1))) rfl ?_
        refine TL.done ?_
        refine TC.join1 (σ := (List Int)) (γ := Unit) (Γ' := (fun out2 _ => [(7, SV.v (gs (g1 8))), (8, .int .i64 (gt leaders1 i1)), (9, .int .i64 (gt leaders1 k_1)), (10, .int .i64 j1)])) (L' := (fun out2 _ => [row Ei 2 (gs (g1 8)) out2])) ?_ ?_
        · refine TC.cond (b := ((gt out1 j1) == (gt leaders1 k_1))) rfl (fun c3 => ?_) (fun c4 => ?_)
          · refine TC.region ?_
            refine TL.move rfl rfl (v := SV.v (gs (g1 8))) rfl ?_
            refine TL.move rfl rfl (v := .int .i64 j1) rfl ?_
            refine TL.move rfl rfl (v := .int .i64 (gt leaders1 i1)) rfl ?_
            refine TL.ixs j1 j1.toNat (Rd.row 0 rfl) h4 Try.underlying22 Try.sizeOf2 rfl rfl rfl rfl (by omega) ?_
            refine TL.stE 0 (j1.toNat) (gt leaders1 i1) (v := .int .i64 (gt leaders1 i1)) rfl Try.sizeOf2 rfl rfl rfl (by have h_ := h4; omega) (by simp only [show Ei.sz = 1 from rfl] <;> omega) rfl rfl rfl ?_
            refine TL.done ?_
            exact TC.nrm ((out1.set j1.toNat (gt leaders1 i1))) (()) ⟨rfl, rfl, rfl, rfl, trivial⟩ [0] rfl
          · refine TC.skip ?_
            exact TC.nrm (out1) (()) ⟨rfl, rfl, rfl, rfl, trivial⟩ [0] rfl
        · rintro out2 _
          refine TC.region ?_
          refine TL.move rfl rfl (v := .int .i64 j1) rfl ?_
          refine TL.bin .i64 j1 1 rfl rfl rfl rfl (v := .int .i64 (w64 (j1 + 1))) rfl ?_
          refine TL.assign rfl rfl (v := .int .i64 (w64 (j1 + 1))) rfl ?_
          refine TL.done ?_
          exact TC.next1 ((out2, (w64 (j1 + 1)))) (()) ⟨rfl, rfl, rfl, rfl, trivial⟩ [0] rfl
      · exact TC.brk1 ((out1, j1)) (()) ⟨rfl, rfl, rfl, rfl, trivial⟩ [0] rfl
    · rintro ⟨out1, j1⟩ _
      refine TC.seq ?_
      refine TC.region ?_
      refine TL.move rfl rfl (v := SV.v (gs (g1 8))) rfl ?_
      refine TL.assign rfl rfl (v := SV.v (gs (g1 8))) rfl ?_
      refine TL.done ?_
      exact TC.retF (Fin.body (fin1 (.inr rfl) rfl (.tmp rfl) [0] rfl ⟨(gs (g1 8)), rfl, rfl⟩))

end Go.Proofs.Ytiiljfpbcanphaa.G

/- spec.l07Different, as a pure function. -/
set_option linter.unusedVariables false
namespace Go.Proofs.Ytiiljfpbcanphaa.G
open Go Go.Sx Go.Proofs

def spec_l07Different.b0 (i1 : Int) (list_1 : List Int) : Bool × Int → Option (LB (Bool × Int)) := fun p => match p with | (first1, k_1) => (bif (decide (k_1 < i1)) then (bif first1 then chk k_1 list_1.length (chk i1 list_1.length (some (.next (((gt list_1 k_1) != (gt list_1 i1)), (w64 (k_1 + 1)))))) else some (.next (false, (w64 (k_1 + 1))))) else some (.brk (first1, k_1)))

def spec_l07Different.b1 (list_1 : List Int) : Int × Int → Option (LB (Int × Int)) := fun p => match p with | (count1, i1) => (bif (decide (i1 < (list_1.length : Int))) then (loop1 (spec_l07Different.b0 i1 list_1) (true, 0)).bind (fun p => match p with | (first1, k_1) => ((bif first1 then some (w64 (count1 + 1)) else some count1)).bind (fun count2 => some (.next (count2, (w64 (i1 + 1)))))) else some (.brk (count1, i1)))

def spec_l07Different.f (list_1 : List Int) : Option Int := (loop1 (spec_l07Different.b1 list_1) (0, 0)).bind (fun p => match p with | (count1, i1) => some count1)

def spec_l07Different.R (r : Int) (v : Value) (L : List Asn) : Prop := v = .int .i64 r ∧ L = []

set_option maxRecDepth 100000 in
set_option maxHeartbeats 4000000 in
theorem spec_l07Different.calls (w : World) (s1 : SV) (list_1 : List Int) (h1 : Reads Ei (hp w) s1 list_1) :
    ∀ r, spec_l07Different.f list_1 = some r → Calls Try.prog 133 #[SV.v s1] w (Ret w (spec_l07Different.R r)) := by

  refine calls_T (n := 34) (Γ := [(0, SV.v s1)]) (R := spec_l07Different.R) Try.func133 rfl rfl (Nat.le_of_ble_eq_true rfl) ⟨rfl, trivial⟩ ?_
  unfold spec_l07Different.f
  refine TC.seq ?_
  refine TC.region ?_
  refine TL.assign rfl rfl (v := .int .i64 0) rfl ?_
  refine TL.done ?_
  refine TC.seq ?_
  refine TC.region ?_
  refine TL.assign rfl rfl (v := .int .i64 0) rfl ?_
  refine TL.done ?_
  refine TC.seq ?_
  refine TC.seq ?_
  refine TC.region ?_
  refine TL.assign rfl rfl (v := .int .i64 0) rfl ?_
  refine TL.done ?_
  refine TC.loop1 (σ := Int × Int) (γ := Unit) (Γ' := (fun p q => match p, q with | (count1, i1), _ => [(0, SV.v s1), (3, .int .i64 count1), (4, .int .i64 i1)])) (L' := (fun p q => match p, q with | (count1, i1), _ => [])) (Γb := (fun p q => match p, q with | (count1, i1), _ => [(0, SV.v s1), (3, .int .i64 count1), (4, .int .i64 i1)])) (Lb := (fun p q => match p, q with | (count1, i1), _ => [])) ((0, 0)) (()) ⟨rfl, rfl, rfl, trivial⟩ [] rfl ?_ ?_
  · rintro ⟨count1, i1⟩ _
    refine TC.seq ?_
    refine TC.seq ?_
    refine TC.region ?_
    refine TL.move rfl rfl (v := .int .i64 i1) rfl ?_
    refine TL.move rfl rfl (v := SV.v s1) rfl ?_
    refine TL.len (Rd.old h1) Try.underlying22 rfl rfl rfl ?_
    refine TL.bin .i64 i1 (list_1.length : Int) rfl rfl rfl rfl (v := .bool (decide (i1 < (list_1.length : Int)))) rfl ?_
    refine TL.done ?_
    refine TC.cond (b := (decide (i1 < (list_1.length : Int)))) rfl (fun c1 => ?_) (fun c2 => ?_)
    · refine TC.skip ?_
      refine TC.seq ?_
      refine TC.block (NoEx.loop1 rfl) ?_
      refine TC.seq ?_
      refine TC.region ?_
      refine TL.assign rfl rfl (v := .bool true) rfl ?_
      refine TL.done ?_
      refine TC.seq ?_
      refine TC.seq ?_
      refine TC.region ?_
      refine TL.assign rfl rfl (v := .int .i64 0) rfl ?_
      refine TL.done ?_
      refine TC.loop1 (σ := Bool × Int) (γ := Unit) (Γ' := (fun p q => match p, q with | (first1, k_1), _ => [(0, SV.v s1), (3, .int .i64 count1), (4, .int .i64 i1), (5, .bool first1), (6, .int .i64 k_1)])) (L' := (fun p q => match p, q with | (first1, k_1), _ => [])) (Γb := (fun p q => match p, q with | (first1, k_1), _ => [(0, SV.v s1), (3, .int .i64 count1), (4, .int .i64 i1), (5, .bool first1), (6, .int .i64 k_1)])) (Lb := (fun p q => match p, q with | (first1, k_1), _ => [])) ((true, 0)) (()) ⟨rfl, rfl, rfl, rfl, rfl, trivial⟩ [] rfl ?_ ?_
      · rintro ⟨first1, k_1⟩ _
        refine TC.seq ?_
        refine TC.seq ?_
        refine TC.region ?_
        refine TL.move rfl rfl (v := .int .i64 k_1) rfl ?_
        refine TL.move rfl rfl (v := .int .i64 i1) rfl ?_
        refine TL.bin .i64 k_1 i1 rfl rfl rfl rfl (v := .bool (decide (k_1 < i1))) rfl ?_
        refine TL.done ?_
        refine TC.cond (b := (decide (k_1 < i1))) rfl (fun c3 => ?_) (fun c4 => ?_)
        · refine TC.skip ?_
          refine TC.seq ?_
          refine TC.block (NoEx.loop1 rfl) ?_
          refine TC.ifB first1 (fun c5 => ?_) (fun c5 => ?_)
          · refine TC.wk (Γ' := [(0, SV.v s1), (3, .int .i64 count1), (4, .int .i64 i1), (6, .int .i64 k_1), (13, .int .i64 k_1), (14, .int .i64 i1), (15, .bool (decide (k_1 < i1))), (5, .bool first1)]) ⟨rfl, rfl, rfl, rfl, rfl, rfl, rfl, rfl, trivial⟩ ?_
            refine TC.chk fun h2 => ?_
            refine TC.chk fun h3 => ?_
            refine TC.drawG [(0, SV.v s1), (3, .int .i64 count1), (4, .int .i64 i1), (6, .int .i64 k_1), (13, .int .i64 k_1), (14, .int .i64 i1), (15, .bool (decide (k_1 < i1)))] [(5, .bool first1, 12)] ⟨rfl, rfl, rfl, rfl, rfl, rfl, rfl, trivial⟩ ⟨rfl, trivial⟩ (fun l_ g2 => []) (fun g2 => [.bool true, .bool true, SV.v s1, .int .i64 k_1, ep s1 k_1.toNat, .int .i64 (gt list_1 k_1), SV.v s1, .int .i64 i1, ep s1 i1.toNat, .int .i64 (gt list_1 i1), .bool ((gt list_1 k_1) != (gt list_1 i1)), .bool ((gt list_1 k_1) != (gt list_1 i1)), .bool ((gt list_1 k_1) != (gt list_1 i1))]) [[], [0], [0, 1], [0, 1], [0, 1, 2, 3], [0, 1, 2, 3, 4], [0, 1], [0, 1], [0, 1, 6, 7], [0, 1, 6, 7, 8], [0, 1, 2, 3, 4, 5, 6, 7, 8, 9], [0, 1, 2, 3, 4, 5, 6, 7, 8, 9, 10], [0, 1, 2, 3, 4, 5, 6, 7, 8, 9, 10, 11]] [[some false, some false, some false, some false, some false, some false, some false, some false, some false, some false, some false, some false, some false], [some true, some false, some false, some false, some false, some false, some false, some false, some false, some false, some false, some false, some false], [some true, some true, some false, none, some false, some false, none, none, none, none, some false, some false, some false], [some true, some true, none, some false, some false, some false, none, none, none, none, some false, some false, some false], [some true, some true, some true, some true, some false, some false, none, none, none, none, some false, some false, some false], [some true, some true, some true, some true, some true, some false, none, none, none, none, some false, some false, some false], [some true, some true, none, none, none, none, some false, none, some false, some false, some false, some false, some false], [some true, some true, none, none, none, none, none, some false, some false, some false, some false, some false, some false], [some true, some true, none, none, none, none, some true, some true, some false, some false, some false, some false, some false], [some true, some true, none, none, none, none, some true, some true, some true, some false, some false, some false, some false], [some true, some true, some true, some true, some true, some true, some true, some true, some true, some true, some false, some false, some false], [some true, some true, some true, some true, some true, some true, some true, some true, some true, some true, some true, some false, some false], [some true, some true, some true, some true, some true, some true, some true, some true, some true, some true, some true, some true, some false]] (by kernel_rfl) (fun _ => rfl) rfl rfl rfl rfl rfl (fun _ _ => ⟨⟨⟨⟨⟨⟨⟨⟨⟨⟨⟨⟨⟨trivial, rfl⟩, rfl⟩, rfl⟩, rfl⟩, rfl⟩, rfl⟩, rfl⟩, rfl⟩, rfl⟩, rfl⟩, rfl⟩, rfl⟩, rfl⟩) 0 [] (fun _ => by kernel_rfl) ?_ ?_
            · refine ⟨rfl, ?_, rfl, ?_, rfl, ?_, rfl, ?_, rfl, ?_, rfl, ?_, rfl, ?_, rfl, ?_, rfl, ?_, rfl, ?_, rfl, ?_, rfl, ?_, rfl, ?_, trivial⟩
              · intro g2
                refine TL.move rfl rfl (v := .bool first1) rfl ?_
                refine TL.done ?_
                exact TC.nrm () [] ⟨(by rw [c5]; rfl), trivial⟩ [] (by kernel_rfl)
              · intro g2
                refine TL.move rfl rfl (v := .bool true) rfl ?_
                refine TL.done ?_
                exact TC.nrm () [] ⟨rfl, trivial⟩ [] (by kernel_rfl)
              · intro b3_ b6_ b7_ b8_ b9_ g2
                refine TL.move rfl rfl (v := SV.v s1) rfl ?_
                refine TL.done ?_
                exact TC.nrm () [] ⟨rfl, trivial⟩ [] (by kernel_rfl)
              · intro b2_ b6_ b7_ b8_ b9_ g2
                refine TL.move rfl rfl (v := .int .i64 k_1) rfl ?_
                refine TL.done ?_
                exact TC.nrm () [] ⟨rfl, trivial⟩ [] (by kernel_rfl)
              · intro b6_ b7_ b8_ b9_ g2
                refine TL.asL [] (by kernel_rfl) ?_
                refine TL.ixs k_1 k_1.toNat (Rd.old h1) h2 Try.underlying22 Try.sizeOf2 rfl rfl rfl rfl (by omega) ?_
                refine TL.done ?_
                exact TC.nrm () [] ⟨rfl, trivial⟩ [] (by kernel_rfl)
              · intro b6_ b7_ b8_ b9_ g2
                refine TL.asL [] (by kernel_rfl) ?_
                refine TL.loadE (Rd.old h1) Try.isAgg2 k_1.toNat 0 (gt_spec h2) (v := .int .i64 (gt list_1 k_1)) rfl (by simp only [show Ei.sz = 1 from rfl] <;> omega) rfl rfl rfl ?_
                refine TL.done ?_
                exact TC.nrm () [] ⟨rfl, trivial⟩ [] (by kernel_rfl)
              · intro b2_ b3_ b4_ b5_ b7_ g2
                refine TL.move rfl rfl (v := SV.v s1) rfl ?_
                refine TL.done ?_
                exact TC.nrm () [] ⟨rfl, trivial⟩ [] (by kernel_rfl)
              · intro b2_ b3_ b4_ b5_ b6_ g2
                refine TL.move rfl rfl (v := .int .i64 i1) rfl ?_
                refine TL.done ?_
                exact TC.nrm () [] ⟨rfl, trivial⟩ [] (by kernel_rfl)
              · intro b2_ b3_ b4_ b5_ g2
                refine TL.asL [] (by kernel_rfl) ?_
                refine TL.ixs i1 i1.toNat (Rd.old h1) h3 Try.underlying22 Try.sizeOf2 rfl rfl rfl rfl (by omega) ?_
                refine TL.done ?_
                exact TC.nrm () [] ⟨rfl, trivial⟩ [] (by kernel_rfl)
              · intro b2_ b3_ b4_ b5_ g2
                refine TL.asL [] (by kernel_rfl) ?_
                refine TL.loadE (Rd.old h1) Try.isAgg2 i1.toNat 0 (gt_spec h3) (v := .int .i64 (gt list_1 i1)) rfl (by simp only [show Ei.sz = 1 from rfl] <;> omega) rfl rfl rfl ?_
                refine TL.done ?_
                exact TC.nrm () [] ⟨rfl, trivial⟩ [] (by kernel_rfl)
              · intro g2
                refine TL.bin .i64 (gt list_1 k_1) (gt list_1 i1) rfl rfl rfl rfl (v := .bool ((gt list_1 k_1) != (gt list_1 i1))) rfl ?_
                refine TL.done ?_
                exact TC.nrm () [] ⟨rfl, trivial⟩ [] (by kernel_rfl)
              · intro g2
                refine TL.pick rfl rfl (b := true) rfl (r := .bool ((gt list_1 k_1) != (gt list_1 i1))) rfl ?_
                refine TL.done ?_
                exact TC.nrm () [] ⟨rfl, trivial⟩ [] (by kernel_rfl)
              · intro g2
                refine TL.assign rfl rfl (v := .bool ((gt list_1 k_1) != (gt list_1 i1))) rfl ?_
                refine TL.done ?_
                exact TC.nrm () [] ⟨rfl, trivial⟩ [] (by kernel_rfl)
            · intro g2
              refine TC.asL [] (by kernel_rfl) ?_
              refine TC.region ?_
              refine TL.move rfl rfl (v := .int .i64 k_1) rfl ?_
              refine TL.bin .i64 k_1 1 rfl rfl rfl rfl (v := .int .i64 (w64 (k_1 + 1))) rfl ?_
              refine TL.assign rfl rfl (v := .int .i64 (w64 (k_1 + 1))) rfl ?_
              refine TL.done ?_
              exact TC.next1 ((((gt list_1 k_1) != (gt list_1 i1)), (w64 (k_1 + 1)))) (()) ⟨rfl, rfl, rfl, rfl, rfl, trivial⟩ [] rfl
          · refine TC.wk (Γ' := [(0, SV.v s1), (3, .int .i64 count1), (4, .int .i64 i1), (6, .int .i64 k_1), (13, .int .i64 k_1), (14, .int .i64 i1), (15, .bool (decide (k_1 < i1))), (5, .bool first1)]) ⟨rfl, rfl, rfl, rfl, rfl, rfl, rfl, rfl, trivial⟩ ?_
            refine TC.drawG [(0, SV.v s1), (3, .int .i64 count1), (4, .int .i64 i1), (6, .int .i64 k_1), (13, .int .i64 k_1), (14, .int .i64 i1), (15, .bool (decide (k_1 < i1)))] [(5, .bool first1, 12)] ⟨rfl, rfl, rfl, rfl, rfl, rfl, rfl, trivial⟩ ⟨rfl, trivial⟩ (fun l_ g3 => []) (fun g3 => [.bool false, .bool false, undef, undef, undef, undef, undef, undef, undef, undef, undef, .bool false, .bool false]) [[], [0], [0, 1], [0, 1], [0, 1, 2, 3], [0, 1, 2, 3, 4], [0, 1], [0, 1], [0, 1, 6, 7], [0, 1, 6, 7, 8], [0, 1, 2, 3, 4, 5, 6, 7, 8, 9], [0, 1, 2, 3, 4, 5, 6, 7, 8, 9, 10], [0, 1, 2, 3, 4, 5, 6, 7, 8, 9, 10, 11]] [[some false, some false, some false, some false, some false, some false, some false, some false, some false, some false, some false, some false, some false], [some true, some false, some false, some false, some false, some false, some false, some false, some false, some false, some false, some false, some false], [some true, some true, some false, none, some false, some false, none, none, none, none, some false, some false, some false], [some true, some true, none, some false, some false, some false, none, none, none, none, some false, some false, some false], [some true, some true, some true, some true, some false, some false, none, none, none, none, some false, some false, some false], [some true, some true, some true, some true, some true, some false, none, none, none, none, some false, some false, some false], [some true, some true, none, none, none, none, some false, none, some false, some false, some false, some false, some false], [some true, some true, none, none, none, none, none, some false, some false, some false, some false, some false, some false], [some true, some true, none, none, none, none, some true, some true, some false, some false, some false, some false, some false], [some true, some true, none, none, none, none, some true, some true, some true, some false, some false, some false, some false], [some true, some true, some true, some true, some true, some true, some true, some true, some true, some true, some false, some false, some false], [some true, some true, some true, some true, some true, some true, some true, some true, some true, some true, some true, some false, some false], [some true, some true, some true, some true, some true, some true, some true, some true, some true, some true, some true, some true, some false]] (by kernel_rfl) (fun _ => rfl) rfl rfl rfl rfl rfl (fun _ _ => ⟨⟨⟨⟨⟨⟨⟨⟨⟨⟨⟨⟨⟨trivial, rfl⟩, rfl⟩, rfl⟩, rfl⟩, rfl⟩, rfl⟩, rfl⟩, rfl⟩, rfl⟩, rfl⟩, rfl⟩, rfl⟩, rfl⟩) 0 [] (fun _ => by kernel_rfl) ?_ ?_
            · refine ⟨rfl, ?_, rfl, ?_, rfl, ?_, rfl, ?_, rfl, ?_, rfl, ?_, rfl, ?_, rfl, ?_, rfl, ?_, rfl, ?_, rfl, ?_, rfl, ?_, rfl, ?_, trivial⟩
              · intro g3
                refine TL.move rfl rfl (v := .bool first1) rfl ?_
                refine TL.done ?_
                exact TC.nrm () [] ⟨(by rw [c5]; rfl), trivial⟩ [] (by kernel_rfl)
              · intro g3
                refine TL.move rfl rfl (v := .bool false) rfl ?_
                refine TL.done ?_
                exact TC.nrm () [] ⟨rfl, trivial⟩ [] (by kernel_rfl)
              · intro b3_ b6_ b7_ b8_ b9_ g3
                refine TL.skip rfl rfl (by decide) ?_
                refine TL.done ?_
                exact TC.nrm () [] ⟨rfl, trivial⟩ [] (by kernel_rfl)
              · intro b2_ b6_ b7_ b8_ b9_ g3
                refine TL.skip rfl rfl (by decide) ?_
                refine TL.done ?_
                exact TC.nrm () [] ⟨rfl, trivial⟩ [] (by kernel_rfl)
              · intro b6_ b7_ b8_ b9_ g3
                refine TL.asL [] (by kernel_rfl) ?_
                refine TL.skip rfl rfl (by decide) ?_
                refine TL.done ?_
                exact TC.nrm () [] ⟨rfl, trivial⟩ [] (by kernel_rfl)
              · intro b6_ b7_ b8_ b9_ g3
                refine TL.asL [] (by kernel_rfl) ?_
                refine TL.skip rfl rfl (by decide) ?_
                refine TL.done ?_
                exact TC.nrm () [] ⟨rfl, trivial⟩ [] (by kernel_rfl)
              · intro b2_ b3_ b4_ b5_ b7_ g3
                refine TL.skip rfl rfl (by decide) ?_
                refine TL.done ?_
                exact TC.nrm () [] ⟨rfl, trivial⟩ [] (by kernel_rfl)
              · intro b2_ b3_ b4_ b5_ b6_ g3
                refine TL.skip rfl rfl (by decide) ?_
                refine TL.done ?_
                exact TC.nrm () [] ⟨rfl, trivial⟩ [] (by kernel_rfl)
              · intro b2_ b3_ b4_ b5_ g3
                refine TL.asL [] (by kernel_rfl) ?_
                refine TL.skip rfl rfl (by decide) ?_
                refine TL.done ?_
                exact TC.nrm () [] ⟨rfl, trivial⟩ [] (by kernel_rfl)
              · intro b2_ b3_ b4_ b5_ g3
                refine TL.asL [] (by kernel_rfl) ?_
                refine TL.skip rfl rfl (by decide) ?_
                refine TL.done ?_
                exact TC.nrm () [] ⟨rfl, trivial⟩ [] (by kernel_rfl)
              · intro g3
                refine TL.skip rfl rfl (by decide) ?_
                refine TL.done ?_
                exact TC.nrm () [] ⟨rfl, trivial⟩ [] (by kernel_rfl)
              · intro g3
                refine TL.pick rfl rfl (b := false) rfl (r := .bool false) rfl ?_
                refine TL.done ?_
                exact TC.nrm () [] ⟨rfl, trivial⟩ [] (by kernel_rfl)
              · intro g3
                refine TL.assign rfl rfl (v := .bool false) rfl ?_
                refine TL.done ?_
                exact TC.nrm () [] ⟨rfl, trivial⟩ [] (by kernel_rfl)
            · intro g3
              refine TC.asL [] (by kernel_rfl) ?_
              refine TC.region ?_
              refine TL.move rfl rfl (v := .int .i64 k_1) rfl ?_
              refine TL.bin .i64 k_1 1 rfl rfl rfl rfl (v := .int .i64 (w64 (k_1 + 1))) rfl ?_
              refine TL.assign rfl rfl (v := .int .i64 (w64 (k_1 + 1))) rfl ?_
              refine TL.done ?_
              exact TC.next1 ((false, (w64 (k_1 + 1)))) (()) ⟨rfl, rfl, rfl, rfl, rfl, trivial⟩ [] rfl
        · exact TC.brk1 ((first1, k_1)) (()) ⟨rfl, rfl, rfl, rfl, rfl, trivial⟩ [] rfl
      · rintro ⟨first1, k_1⟩ _
        refine TC.seq ?_
        refine TC.region ?_
        refine TL.move rfl rfl (v := .bool first1) rfl ?_
        refine TL.done ?_
        refine TC.join1 (σ := Int) (γ := Unit) (Γ' := (fun count2 _ => [(0, SV.v s1), (3, .int .i64 count2), (4, .int .i64 i1)])) (L' := (fun count2 _ => [])) ?_ ?_
        · refine TC.cond (b := first1) rfl (fun c6 => ?_) (fun c7 => ?_)
          · refine TC.region ?_
            refine TL.move rfl rfl (v := .int .i64 count1) rfl ?_
            refine TL.bin .i64 count1 1 rfl rfl rfl rfl (v := .int .i64 (w64 (count1 + 1))) rfl ?_
            refine TL.assign rfl rfl (v := .int .i64 (w64 (count1 + 1))) rfl ?_
            refine TL.done ?_
            exact TC.nrm ((w64 (count1 + 1))) (()) ⟨rfl, rfl, rfl, trivial⟩ [] rfl
          · refine TC.skip ?_
            exact TC.nrm (count1) (()) ⟨rfl, rfl, rfl, trivial⟩ [] rfl
        · rintro count2 _
          refine TC.region ?_
          refine TL.move rfl rfl (v := .int .i64 i1) rfl ?_
          refine TL.bin .i64 i1 1 rfl rfl rfl rfl (v := .int .i64 (w64 (i1 + 1))) rfl ?_
          refine TL.assign rfl rfl (v := .int .i64 (w64 (i1 + 1))) rfl ?_
          refine TL.done ?_
          exact TC.next1 ((count2, (w64 (i1 + 1)))) (()) ⟨rfl, rfl, rfl, trivial⟩ [] rfl
    · exact TC.brk1 ((count1, i1)) (()) ⟨rfl, rfl, rfl, trivial⟩ [] rfl
  · rintro ⟨count1, i1⟩ _
    refine TC.seq ?_
    refine TC.region ?_
    refine TL.move rfl rfl (v := .int .i64 count1) rfl ?_
    refine TL.assign rfl rfl (v := .int .i64 count1) rfl ?_
    refine TL.done ?_
    exact TC.retF (Fin.body (fin1 (.inr rfl) rfl (.tmp rfl) [] rfl ⟨rfl, rfl⟩))

end Go.Proofs.Ytiiljfpbcanphaa.G

/- spec.l07Numbers, as a pure function. -/
set_option linter.unusedVariables false
namespace Go.Proofs.Ytiiljfpbcanphaa.G
open Go Go.Sx Go.Proofs

def spec_l07Numbers.b0 (n_1 : Int) : (List Int) × Int → Option (LB ((List Int) × Int)) := fun p => match p with | (out1, i1) => (bif (decide (i1 < n_1)) then small (out1.length + ([i1] : List Int).length) (some (.next ((out1 ++ ([i1] : List Int)), (w64 (i1 + 1))))) else some (.brk (out1, i1)))

def spec_l07Numbers.f (n_1 : Int) : Option (List Int) := (loop1 (spec_l07Numbers.b0 n_1) (([] : List Int), 0)).bind (fun p => match p with | (out1, i1) => some out1)

def spec_l07Numbers.R (r : List Int) (v : Value) (L : List Asn) : Prop := ∃ (s0 : SV), v = SV.v s0 ∧ L = [row Ei 2 s0 r]

set_option maxRecDepth 100000 in
set_option maxHeartbeats 4000000 in
theorem spec_l07Numbers.calls (w : World) (n_1 : Int) :
    ∀ r, spec_l07Numbers.f n_1 = some r → Calls Try.prog 174 #[.int .i64 n_1] w (Ret w (spec_l07Numbers.R r)) := by

  refine calls_T (n := 16) (Γ := [(0, .int .i64 n_1)]) (R := spec_l07Numbers.R) Try.func174 rfl rfl (Nat.le_of_ble_eq_true rfl) ⟨rfl, trivial⟩ ?_
  unfold spec_l07Numbers.f
  refine TC.seq ?_
  refine TC.region ?_
  refine TL.assign rfl rfl (v := SV.v ⟨none, 0, 0⟩) rfl ?_
  refine TL.done ?_
  refine TC.seq ?_
  refine TC.region ?_
  refine TL.bslice0 Ei Try.underlying22 Try.sizeOf2 rfl rfl fun s1 => ?_
  refine TL.assign rfl rfl (v := SV.v s1) rfl ?_
  refine TL.done ?_
  refine TC.seq ?_
  refine TC.seq ?_
  refine TC.region ?_
  refine TL.assign rfl rfl (v := .int .i64 0) rfl ?_
  refine TL.done ?_
  refine TC.loop1 (σ := (List Int) × Int) (γ := SV) (Γ' := (fun p q => match p, q with | (out1, i1), s2 => [(0, .int .i64 n_1), (3, SV.v s2), (4, .int .i64 i1)])) (L' := (fun p q => match p, q with | (out1, i1), s2 => [row Ei 2 s2 out1])) (Γb := (fun p q => match p, q with | (out1, i1), s2 => [(0, .int .i64 n_1), (3, SV.v s2), (4, .int .i64 i1)])) (Lb := (fun p q => match p, q with | (out1, i1), s2 => [row Ei 2 s2 out1])) ((([] : List Int), 0)) (s1) ⟨rfl, rfl, rfl, trivial⟩ [0] rfl ?_ ?_
  · rintro ⟨out1, i1⟩ s2
    refine TC.seq ?_
    refine TC.seq ?_
    refine TC.region ?_
    refine TL.move rfl rfl (v := .int .i64 i1) rfl ?_
    refine TL.move rfl rfl (v := .int .i64 n_1) rfl ?_
    refine TL.bin .i64 i1 n_1 rfl rfl rfl rfl (v := .bool (decide (i1 < n_1))) rfl ?_
    refine TL.done ?_
    refine TC.cond (b := (decide (i1 < n_1))) rfl (fun c1 => ?_) (fun c2 => ?_)
    · refine TC.skip ?_
      refine TC.seq ?_
      refine TC.block (NoEx.loop1 rfl) ?_
      refine TC.region ?_
      refine TL.move rfl rfl (v := SV.v s2) rfl ?_
      refine TL.move rfl rfl (v := .int .i64 i1) rfl ?_
      refine TL.blit Ei ([i1] : List Int) Try.underlying22 Try.sizeOf2 Try.zeroValue2 rfl rfl rfl [(0, .int .i64 i1)] rfl ⟨rfl, rfl, trivial⟩ rfl rfl fun s3 => ?_
      refine TL.small fun h1 => ?_
      refine TL.append 1 rfl (Rd.row 0 rfl) Try.underlying22 (info_of Try.type2) (zv := (Try.t2.zero.getD (.bool false))) rfl rfl rfl (by decide) h1 rfl rfl rfl rfl fun s4 => ?_
      refine TL.assign rfl rfl (v := SV.v s4) rfl ?_
      refine TL.done ?_
      refine TC.region ?_
      refine TL.move rfl rfl (v := .int .i64 i1) rfl ?_
      refine TL.bin .i64 i1 1 rfl rfl rfl rfl (v := .int .i64 (w64 (i1 + 1))) rfl ?_
      refine TL.assign rfl rfl (v := .int .i64 (w64 (i1 + 1))) rfl ?_
      refine TL.done ?_
      exact TC.next1 (((out1 ++ ([i1] : List Int)), (w64 (i1 + 1)))) (s4) ⟨rfl, rfl, rfl, trivial⟩ [1] rfl
    · exact TC.brk1 ((out1, i1)) (s2) ⟨rfl, rfl, rfl, trivial⟩ [0] rfl
  · rintro ⟨out1, i1⟩ s2
    refine TC.seq ?_
    refine TC.region ?_
    refine TL.move rfl rfl (v := SV.v s2) rfl ?_
    refine TL.assign rfl rfl (v := SV.v s2) rfl ?_
    refine TL.done ?_
    exact TC.retF (Fin.body (fin1 (.inr rfl) rfl (.tmp rfl) [0] rfl ⟨s2, rfl, rfl⟩))

end Go.Proofs.Ytiiljfpbcanphaa.G

/- laws.toInt64S, as a pure function. -/
set_option linter.unusedVariables false
namespace Go.Proofs.Ytiiljfpbcanphaa.G
open Go Go.Sx Go.Proofs

def laws_toInt64S.b0 (a_1 : List Int) : (List Int) × Int → Option (LB ((List Int) × Int)) := fun p => match p with | (out1, i1) => (bif (decide (i1 < (a_1.length : Int))) then chk i1 a_1.length (chk i1 out1.length (some (.next ((out1.set i1.toNat (gt a_1 i1)), (w64 (i1 + 1)))))) else some (.brk (out1, i1)))

def laws_toInt64S.f (a_1 : List Int) : Option (List Int) := small a_1.length ((loop1 (laws_toInt64S.b0 a_1) ((List.replicate (a_1.length : Int).toNat (0 : Int)), 0)).bind (fun p => match p with | (out1, i1) => some out1))

def laws_toInt64S.R (r : List Int) (v : Value) (L : List Asn) : Prop := ∃ (s0 : SV), v = SV.v s0 ∧ L = [row Ei 2 s0 r]

set_option maxRecDepth 100000 in
set_option maxHeartbeats 4000000 in
theorem laws_toInt64S.calls (w : World) (s1 : SV) (a_1 : List Int) (h1 : Reads Ei (hp w) s1 a_1) :
    ∀ r, laws_toInt64S.f a_1 = some r → Calls Try.prog 13 #[SV.v s1] w (Ret w (laws_toInt64S.R r)) := by

  refine calls_T (n := 22) (Γ := [(0, SV.v s1)]) (R := laws_toInt64S.R) Try.func13 rfl rfl (Nat.le_of_ble_eq_true rfl) ⟨rfl, trivial⟩ ?_
  unfold laws_toInt64S.f
  refine TC.seq ?_
  refine TC.region ?_
  refine TL.assign rfl rfl (v := SV.v ⟨none, 0, 0⟩) rfl ?_
  refine TL.done ?_
  refine TC.seq ?_
  refine TC.region ?_
  refine TL.move rfl rfl (v := SV.v s1) rfl ?_
  refine TL.len (Rd.old h1) Try.underlying22 rfl rfl rfl ?_
  refine TL.small fun h2 => ?_
  refine TL.mkslice Ei (0 : Int) (a_1.length : Int) Try.underlying22 (info_of Try.type2) (zv := (Try.t2.zero.getD (.bool false))) rfl rfl rfl (by simp [Ei, flat, Seg.cells]) (by decide) (by omega) (by omega) rfl rfl rfl rfl fun s2 => ?_
  refine TL.assign rfl rfl (v := SV.v s2) rfl ?_
  refine TL.done ?_
  refine TC.seq ?_
  refine TC.seq ?_
  refine TC.region ?_
  refine TL.assign rfl rfl (v := .int .i64 0) rfl ?_
  refine TL.done ?_
  refine TC.loop1 (σ := (List Int) × Int) (γ := Unit) (Γ' := (fun p q => match p, q with | (out1, i1), _ => [(0, SV.v s1), (3, SV.v s2), (4, .int .i64 i1)])) (L' := (fun p q => match p, q with | (out1, i1), _ => [row Ei 2 s2 out1])) (Γb := (fun p q => match p, q with | (out1, i1), _ => [(0, SV.v s1), (3, SV.v s2), (4, .int .i64 i1)])) (Lb := (fun p q => match p, q with | (out1, i1), _ => [row Ei 2 s2 out1])) (((List.replicate (a_1.length : Int).toNat (0 : Int)), 0)) (()) ⟨rfl, rfl, rfl, trivial⟩ [0] rfl ?_ ?_
  · rintro ⟨out1, i1⟩ _
    refine TC.seq ?_
    refine TC.seq ?_
    refine TC.region ?_
    refine TL.move rfl rfl (v := .int .i64 i1) rfl ?_
    refine TL.move rfl rfl (v := SV.v s1) rfl ?_
    refine TL.len (Rd.old h1) Try.underlying22 rfl rfl rfl ?_
    refine TL.bin .i64 i1 (a_1.length : Int) rfl rfl rfl rfl (v := .bool (decide (i1 < (a_1.length : Int)))) rfl ?_
    refine TL.done ?_
    refine TC.cond (b := (decide (i1 < (a_1.length : Int)))) rfl (fun c1 => ?_) (fun c2 => ?_)
    · refine TC.skip ?_
      refine TC.seq ?_
      refine TC.block (NoEx.loop1 rfl) ?_
      refine TC.region ?_
      refine TL.move rfl rfl (v := SV.v s2) rfl ?_
      refine TL.move rfl rfl (v := .int .i64 i1) rfl ?_
      refine TL.move rfl rfl (v := SV.v s1) rfl ?_
      refine TL.move rfl rfl (v := .int .i64 i1) rfl ?_
      refine TL.chk fun h4 => ?_
      refine TL.ixs i1 i1.toNat (Rd.old h1) h4 Try.underlying22 Try.sizeOf2 rfl rfl rfl rfl (by omega) ?_
      refine TL.loadE (Rd.old h1) Try.isAgg2 i1.toNat 0 (gt_spec h4) (v := .int .i64 (gt a_1 i1)) rfl (by simp only [show Ei.sz = 1 from rfl] <;> omega) rfl rfl rfl ?_
      refine TL.chk fun h5 => ?_
      refine TL.ixs i1 i1.toNat (Rd.row 0 rfl) h5 Try.underlying22 Try.sizeOf2 rfl rfl rfl rfl (by omega) ?_
      refine TL.stE 0 (i1.toNat) (gt a_1 i1) (v := .int .i64 (gt a_1 i1)) rfl Try.sizeOf2 rfl rfl rfl (by have h_ := h5; omega) (by simp only [show Ei.sz = 1 from rfl] <;> omega) rfl rfl rfl ?_
      refine TL.done ?_
      refine TC.region ?_
      refine TL.move rfl rfl (v := .int .i64 i1) rfl ?_
      refine TL.bin .i64 i1 1 rfl rfl rfl rfl (v := .int .i64 (w64 (i1 + 1))) rfl ?_
      refine TL.assign rfl rfl (v := .int .i64 (w64 (i1 + 1))) rfl ?_
      refine TL.done ?_
      exact TC.next1 (((out1.set i1.toNat (gt a_1 i1)), (w64 (i1 + 1)))) (()) ⟨rfl, rfl, rfl, trivial⟩ [0] rfl
    · exact TC.brk1 ((out1, i1)) (()) ⟨rfl, rfl, rfl, trivial⟩ [0] rfl
  · rintro ⟨out1, i1⟩ _
    refine TC.seq ?_
    refine TC.region ?_
    refine TL.move rfl rfl (v := SV.v s2) rfl ?_
    refine TL.assign rfl rfl (v := SV.v s2) rfl ?_
    refine TL.done ?_
    exact TC.retF (Fin.body (fin1 (.inr rfl) rfl (.tmp rfl) [0] rfl ⟨s2, rfl, rfl⟩))

end Go.Proofs.Ytiiljfpbcanphaa.G

/- laws.szInt64S, as a pure function. -/
set_option linter.unusedVariables false
namespace Go.Proofs.Ytiiljfpbcanphaa.G
open Go Go.Sx Go.Proofs

def laws_szInt64S.f (a_1 : List Int) (left_1 : Int) : Option Int := (bif (decide ((w64 (left_1 - (a_1.length : Int))) < 0)) then some (-1) else some (w64 (left_1 - (a_1.length : Int))))

def laws_szInt64S.R (r : Int) (v : Value) (L : List Asn) : Prop := v = .int .i64 r ∧ L = []

set_option maxRecDepth 100000 in
set_option maxHeartbeats 4000000 in
theorem laws_szInt64S.calls (w : World) (s1 : SV) (a_1 : List Int) (left_1 : Int) (h1 : Reads Ei (hp w) s1 a_1) :
    ∀ r, laws_szInt64S.f a_1 left_1 = some r → Calls Try.prog 99 #[SV.v s1, .int .i64 left_1] w (Ret w (laws_szInt64S.R r)) := by

  refine calls_T (n := 12) (Γ := [(0, SV.v s1), (1, .int .i64 left_1)]) (R := laws_szInt64S.R) Try.func99 rfl rfl (Nat.le_of_ble_eq_true rfl) ⟨rfl, rfl, trivial⟩ ?_
  unfold laws_szInt64S.f
  refine TC.seq ?_
  refine TC.region ?_
  refine TL.assign rfl rfl (v := .int .i64 0) rfl ?_
  refine TL.done ?_
  refine TC.seq ?_
  refine TC.region ?_
  refine TL.move rfl rfl (v := .int .i64 left_1) rfl ?_
  refine TL.move rfl rfl (v := SV.v s1) rfl ?_
  refine TL.len (Rd.old h1) Try.underlying22 rfl rfl rfl ?_
  refine TL.bin .i64 left_1 (a_1.length : Int) rfl rfl rfl rfl (v := .int .i64 (w64 (left_1 - (a_1.length : Int)))) rfl ?_
  refine TL.assign rfl rfl (v := .int .i64 (w64 (left_1 - (a_1.length : Int)))) rfl ?_
  refine TL.done ?_
  refine TC.seq ?_
  refine TC.seq ?_
  refine TC.region ?_
  refine TL.move rfl rfl (v := .int .i64 (w64 (left_1 - (a_1.length : Int)))) rfl ?_
  refine TL.bin .i64 (w64 (left_1 - (a_1.length : Int))) 0 rfl rfl rfl rfl (v := .bool (decide ((w64 (left_1 - (a_1.length : Int))) < 0))) rfl ?_
  refine TL.done ?_
  refine TC.cond (b := (decide ((w64 (left_1 - (a_1.length : Int))) < 0))) rfl (fun c1 => ?_) (fun c2 => ?_)
  · refine TC.seq ?_
    refine TC.region ?_
    refine TL.assign rfl rfl (v := .int .i64 (-1)) rfl ?_
    refine TL.done ?_
    exact TC.retF (Fin.body (fin1 (.inr rfl) rfl (.tmp rfl) [] rfl ⟨rfl, rfl⟩))
  · refine TC.skip ?_
    refine TC.seq ?_
    refine TC.region ?_
    refine TL.move rfl rfl (v := .int .i64 (w64 (left_1 - (a_1.length : Int)))) rfl ?_
    refine TL.assign rfl rfl (v := .int .i64 (w64 (left_1 - (a_1.length : Int)))) rfl ?_
    refine TL.done ?_
    exact TC.retF (Fin.body (fin1 (.inr rfl) rfl (.tmp rfl) [] rfl ⟨rfl, rfl⟩))

end Go.Proofs.Ytiiljfpbcanphaa.G

/- laws.toInt64SS, as a pure function. -/
set_option linter.unusedVariables false
namespace Go.Proofs.Ytiiljfpbcanphaa.G
open Go Go.Sx Go.Proofs

def laws_toInt64SS.b0 (a_1 : List (List Int)) : (List (List Int)) × Int → Option (LB ((List (List Int)) × Int)) := fun p => match p with | (out1, i1) => (bif (decide (i1 < (a_1.length : Int))) then chk i1 a_1.length ((G.laws_toInt64S.f (gt a_1 i1)).bind (fun r_1 => chk i1 out1.length (some (.next ((out1.set i1.toNat r_1), (w64 (i1 + 1))))))) else some (.brk (out1, i1)))

def laws_toInt64SS.f (a_1 : List (List Int)) : Option (List (List Int)) := small a_1.length ((loop1 (laws_toInt64SS.b0 a_1) ((List.replicate (a_1.length : Int).toNat ([] : List Int)), 0)).bind (fun p => match p with | (out1, i1) => some out1))

def laws_toInt64SS.R (r : List (List Int)) (v : Value) (L : List Asn) : Prop := ∃ (s0 : SV) (ss0 : List SV), v = SV.v s0 ∧ L = [mat Ei 2 22 s0 ss0 r]

set_option maxRecDepth 100000 in
set_option maxHeartbeats 4000000 in
theorem laws_toInt64SS.calls (w : World) (s1 : SV) (ss1 : List SV) (a_1 : List (List Int)) (h1 : ReadsM Ei (hp w) s1 ss1 a_1) :
    ∀ r, laws_toInt64SS.f a_1 = some r → Calls Try.prog 34 #[SV.v s1] w (Ret w (laws_toInt64SS.R r)) := by

  refine calls_T (n := 23) (Γ := [(0, SV.v s1)]) (R := laws_toInt64SS.R) Try.func34 rfl rfl (Nat.le_of_ble_eq_true rfl) ⟨rfl, trivial⟩ ?_
  unfold laws_toInt64SS.f
  refine TC.seq ?_
  refine TC.region ?_
  refine TL.assign rfl rfl (v := SV.v ⟨none, 0, 0⟩) rfl ?_
  refine TL.done ?_
  refine TC.seq ?_
  refine TC.region ?_
  refine TL.move rfl rfl (v := SV.v s1) rfl ?_
  refine TL.lenM (RdM.old h1) Try.underlying32 rfl rfl rfl ?_
  refine TL.small fun h2 => ?_
  refine TL.mkslice Ev (⟨none, 0, 0⟩ : SV) (a_1.length : Int) Try.underlying32 (info_of Try.type22) (zv := (Try.t22.zero.getD (.bool false))) rfl rfl rfl (by simp [Ev]) (by decide) (by omega) (by omega) rfl rfl rfl rfl fun s2 => ?_
  refine TL.rowsRep Ei 2 ((a_1.length : Int).toNat) ?_
  refine TL.matmk 1 0 rfl rfl ?_
  refine TL.drop 1 rfl ?_
  refine TL.asL [mat Ei 2 22 s2 (List.replicate (a_1.length : Int).toNat (⟨none, 0, 0⟩ : SV)) (List.replicate (a_1.length : Int).toNat ([] : List Int))] rfl ?_
  refine TL.assign rfl rfl (v := SV.v s2) rfl ?_
  refine TL.done ?_
  refine TC.seq ?_
  refine TC.seq ?_
  refine TC.region ?_
  refine TL.assign rfl rfl (v := .int .i64 0) rfl ?_
  refine TL.done ?_
  refine TC.loop1 (σ := (List (List Int)) × Int) (γ := (List SV)) (Γ' := (fun p q => match p, q with | (out1, i1), ss2 => [(0, SV.v s1), (3, SV.v s2), (4, .int .i64 i1)])) (L' := (fun p q => match p, q with | (out1, i1), ss2 => [mat Ei 2 22 s2 ss2 out1])) (Γb := (fun p q => match p, q with | (out1, i1), ss2 => [(0, SV.v s1), (3, SV.v s2), (4, .int .i64 i1)])) (Lb := (fun p q => match p, q with | (out1, i1), ss2 => [mat Ei 2 22 s2 ss2 out1])) (((List.replicate (a_1.length : Int).toNat ([] : List Int)), 0)) ((List.replicate (a_1.length : Int).toNat (⟨none, 0, 0⟩ : SV))) ⟨rfl, rfl, rfl, trivial⟩ [0] rfl ?_ ?_
  · rintro ⟨out1, i1⟩ ss2
    refine TC.seq ?_
    refine TC.seq ?_
    refine TC.region ?_
    refine TL.move rfl rfl (v := .int .i64 i1) rfl ?_
    refine TL.move rfl rfl (v := SV.v s1) rfl ?_
    refine TL.lenM (RdM.old h1) Try.underlying32 rfl rfl rfl ?_
    refine TL.bin .i64 i1 (a_1.length : Int) rfl rfl rfl rfl (v := .bool (decide (i1 < (a_1.length : Int)))) rfl ?_
    refine TL.done ?_
    refine TC.cond (b := (decide (i1 < (a_1.length : Int)))) rfl (fun c1 => ?_) (fun c2 => ?_)
    · refine TC.skip ?_
      refine TC.seq ?_
      refine TC.block (NoEx.loop1 rfl) ?_
      refine TC.region ?_
      refine TL.move rfl rfl (v := SV.v s2) rfl ?_
      refine TL.move rfl rfl (v := .int .i64 i1) rfl ?_
      refine TL.move rfl rfl (v := SV.v s1) rfl ?_
      refine TL.move rfl rfl (v := .int .i64 i1) rfl ?_
      refine TL.chk fun h4 => ?_
      refine TL.ixsM i1 i1.toNat (RdM.old h1) h4 Try.underlying32 Try.sizeOf22 rfl rfl rfl rfl (by omega) ?_
      refine TL.loadM2 (RdM.old h1) Try.isAgg22 i1 h4 (by omega) rfl rfl rfl ?_
      refine TL.call (R := G.laws_toInt64S.R) Try.call13 rfl rfl rfl (fun w hS => G.laws_toInt64S.calls w (gt ss1 i1) (gt a_1 i1) ((RdM.inn (RdM.old h1) h4) w hS)) ?_
      rintro r_1 _ _ ⟨s3, rfl, rfl⟩
      refine TL.chk fun h5 => ?_
      refine TL.ixsM i1 i1.toNat (RdM.mat 1 rfl) h5 Try.underlying32 Try.sizeOf22 rfl rfl rfl rfl (by omega) ?_
      refine TL.matlen 1 rfl fun h6 => ?_
      refine TL.matcut 1 rfl ?_
      refine TL.stE 0 (i1.toNat) s3 (v := SV.v s3) rfl Try.sizeOf22 rfl rfl rfl (by have h_ := h5; have l_ := h6; (try simp only [List.length_set] at h_ l_ ⊢); omega) (by simp only [show Ev.sz = 1 from rfl] <;> omega) rfl rfl rfl ?_
      refine TL.hole 2 i1 rfl h5 ?_
      refine TL.rowsPut 1 2 rfl rfl ?_
      refine TL.matmk 0 2 rfl rfl ?_
      refine TL.drop 0 rfl ?_
      refine TL.asL [emp, mat Ei 2 22 s2 (ss2.set i1.toNat s3) (out1.set i1.toNat r_1)] (by kernel_rfl) ?_
      refine TL.done ?_
      refine TC.region ?_
      refine TL.move rfl rfl (v := .int .i64 i1) rfl ?_
      refine TL.bin .i64 i1 1 rfl rfl rfl rfl (v := .int .i64 (w64 (i1 + 1))) rfl ?_
      refine TL.assign rfl rfl (v := .int .i64 (w64 (i1 + 1))) rfl ?_
      refine TL.done ?_
      exact TC.next1 (((out1.set i1.toNat r_1), (w64 (i1 + 1)))) ((ss2.set i1.toNat s3)) ⟨rfl, rfl, rfl, trivial⟩ [1] rfl
    · exact TC.brk1 ((out1, i1)) (ss2) ⟨rfl, rfl, rfl, trivial⟩ [0] rfl
  · rintro ⟨out1, i1⟩ ss2
    refine TC.seq ?_
    refine TC.region ?_
    refine TL.move rfl rfl (v := SV.v s2) rfl ?_
    refine TL.assign rfl rfl (v := SV.v s2) rfl ?_
    refine TL.done ?_
    exact TC.retF (Fin.body (fin1 (.inr rfl) rfl (.tmp rfl) [0] rfl ⟨s2, ss2, rfl, rfl⟩))

end Go.Proofs.Ytiiljfpbcanphaa.G

/- laws.szInt64SS, as a pure function. -/
set_option linter.unusedVariables false
namespace Go.Proofs.Ytiiljfpbcanphaa.G
open Go Go.Sx Go.Proofs

def laws_szInt64SS.b0 (a_1 : List (List Int)) : Int × Int → Option (LR (Int × Int) Int) := fun p => match p with | (left_2, i1) => (bif (decide (i1 < (a_1.length : Int))) then chk i1 a_1.length ((G.laws_szInt64S.f (gt a_1 i1) left_2).bind (fun r_1 => (bif (decide (r_1 < 0)) then some (.ret ((-1))) else some (.next (r_1, (w64 (i1 + 1))))))) else some (.brk (left_2, i1)))

def laws_szInt64SS.f (a_1 : List (List Int)) (left_1 : Int) : Option Int := (bif (decide ((w64 (left_1 - (a_1.length : Int))) < 0)) then some (-1) else (loop (laws_szInt64SS.b0 a_1) ((w64 (left_1 - (a_1.length : Int))), 0)).bind (ln (fun p => match p with | (left_2, i1) => some left_2)))

def laws_szInt64SS.R (r : Int) (v : Value) (L : List Asn) : Prop := v = .int .i64 r ∧ L = []

set_option maxRecDepth 100000 in
set_option maxHeartbeats 4000000 in
theorem laws_szInt64SS.calls (w : World) (s1 : SV) (ss1 : List SV) (a_1 : List (List Int)) (left_1 : Int) (h1 : ReadsM Ei (hp w) s1 ss1 a_1) :
    ∀ r, laws_szInt64SS.f a_1 left_1 = some r → Calls Try.prog 32 #[SV.v s1, .int .i64 left_1] w (Ret w (laws_szInt64SS.R r)) := by

  refine calls_T (n := 27) (Γ := [(0, SV.v s1), (1, .int .i64 left_1)]) (R := laws_szInt64SS.R) Try.func32 rfl rfl (Nat.le_of_ble_eq_true rfl) ⟨rfl, rfl, trivial⟩ ?_
  unfold laws_szInt64SS.f
  refine TC.seq ?_
  refine TC.region ?_
  refine TL.assign rfl rfl (v := .int .i64 0) rfl ?_
  refine TL.done ?_
  refine TC.seq ?_
  refine TC.region ?_
  refine TL.move rfl rfl (v := .int .i64 left_1) rfl ?_
  refine TL.move rfl rfl (v := SV.v s1) rfl ?_
  refine TL.lenM (RdM.old h1) Try.underlying32 rfl rfl rfl ?_
  refine TL.bin .i64 left_1 (a_1.length : Int) rfl rfl rfl rfl (v := .int .i64 (w64 (left_1 - (a_1.length : Int)))) rfl ?_
  refine TL.assign rfl rfl (v := .int .i64 (w64 (left_1 - (a_1.length : Int)))) rfl ?_
  refine TL.done ?_
  refine TC.seq ?_
  refine TC.seq ?_
  refine TC.region ?_
  refine TL.move rfl rfl (v := .int .i64 (w64 (left_1 - (a_1.length : Int)))) rfl ?_
  refine TL.bin .i64 (w64 (left_1 - (a_1.length : Int))) 0 rfl rfl rfl rfl (v := .bool (decide ((w64 (left_1 - (a_1.length : Int))) < 0))) rfl ?_
  refine TL.done ?_
  refine TC.cond (b := (decide ((w64 (left_1 - (a_1.length : Int))) < 0))) rfl (fun c1 => ?_) (fun c2 => ?_)
  · refine TC.seq ?_
    refine TC.region ?_
    refine TL.assign rfl rfl (v := .int .i64 (-1)) rfl ?_
    refine TL.done ?_
    exact TC.retF (Fin.body (fin1 (.inr rfl) rfl (.tmp rfl) [] rfl ⟨rfl, rfl⟩))
  · refine TC.skip ?_
    refine TC.seq ?_
    refine TC.seq ?_
    refine TC.region ?_
    refine TL.assign rfl rfl (v := .int .i64 0) rfl ?_
    refine TL.done ?_
    refine TC.loopK (σ := Int × Int) (γ := Unit) (Γ' := (fun p q => match p, q with | (left_2, i1), _ => [(0, SV.v s1), (1, .int .i64 left_2), (5, .int .i64 i1)])) (L' := (fun p q => match p, q with | (left_2, i1), _ => [])) (Γb := (fun p q => match p, q with | (left_2, i1), _ => [(0, SV.v s1), (1, .int .i64 left_2), (5, .int .i64 i1)])) (Lb := (fun p q => match p, q with | (left_2, i1), _ => [])) (((w64 (left_1 - (a_1.length : Int))), 0)) (()) ⟨rfl, rfl, rfl, trivial⟩ [] rfl ?_ ?_
    · rintro ⟨left_2, i1⟩ _
      refine TC.seq ?_
      refine TC.seq ?_
      refine TC.region ?_
      refine TL.move rfl rfl (v := .int .i64 i1) rfl ?_
      refine TL.move rfl rfl (v := SV.v s1) rfl ?_
      refine TL.lenM (RdM.old h1) Try.underlying32 rfl rfl rfl ?_
      refine TL.bin .i64 i1 (a_1.length : Int) rfl rfl rfl rfl (v := .bool (decide (i1 < (a_1.length : Int)))) rfl ?_
      refine TL.done ?_
      refine TC.cond (b := (decide (i1 < (a_1.length : Int)))) rfl (fun c3 => ?_) (fun c4 => ?_)
      · refine TC.skip ?_
        refine TC.seq ?_
        refine TC.block (NoEx.loop rfl NoEx.body) ?_
        refine TC.seq ?_
        refine TC.region ?_
        refine TL.move rfl rfl (v := SV.v s1) rfl ?_
        refine TL.move rfl rfl (v := .int .i64 i1) rfl ?_
        refine TL.chk fun h2 => ?_
        refine TL.ixsM i1 i1.toNat (RdM.old h1) h2 Try.underlying32 Try.sizeOf22 rfl rfl rfl rfl (by omega) ?_
        refine TL.loadM2 (RdM.old h1) Try.isAgg22 i1 h2 (by omega) rfl rfl rfl ?_
        refine TL.move rfl rfl (v := .int .i64 left_2) rfl ?_
        refine TL.call (R := G.laws_szInt64S.R) Try.call99 rfl rfl rfl (fun w hS => G.laws_szInt64S.calls w (gt ss1 i1) (gt a_1 i1) left_2 ((RdM.inn (RdM.old h1) h2) w hS)) ?_
        rintro r_1 _ _ ⟨rfl, rfl⟩
        refine TL.assign rfl rfl (v := .int .i64 r_1) rfl ?_
        refine TL.done ?_
        refine TC.seq ?_
        refine TC.region ?_
        refine TL.move rfl rfl (v := .int .i64 r_1) rfl ?_
        refine TL.bin .i64 r_1 0 rfl rfl rfl rfl (v := .bool (decide (r_1 < 0))) rfl ?_
        refine TL.done ?_
        refine TC.cond (b := (decide (r_1 < 0))) rfl (fun c5 => ?_) (fun c6 => ?_)
        · refine TC.seq ?_
          refine TC.region ?_
          refine TL.assign rfl rfl (v := .int .i64 (-1)) rfl ?_
          refine TL.done ?_
          exact TC.retF (Fin.loop Far.ret (Fin.body (fin1 (.inr rfl) rfl (.tmp rfl) [] rfl ⟨rfl, rfl⟩)))
        · refine TC.skip ?_
          refine TC.region ?_
          refine TL.move rfl rfl (v := .int .i64 i1) rfl ?_
          refine TL.bin .i64 i1 1 rfl rfl rfl rfl (v := .int .i64 (w64 (i1 + 1))) rfl ?_
          refine TL.assign rfl rfl (v := .int .i64 (w64 (i1 + 1))) rfl ?_
          refine TL.done ?_
          exact TC.next ((r_1, (w64 (i1 + 1)))) (()) ⟨rfl, rfl, rfl, trivial⟩ [] rfl
      · exact TC.brk ((left_2, i1)) (()) ⟨rfl, rfl, rfl, trivial⟩ [] rfl
    · rintro ⟨left_2, i1⟩ _
      refine TC.seq ?_
      refine TC.region ?_
      refine TL.move rfl rfl (v := .int .i64 left_2) rfl ?_
      refine TL.assign rfl rfl (v := .int .i64 left_2) rfl ?_
      refine TL.done ?_
      exact TC.retF (Fin.body (fin1 (.inr rfl) rfl (.tmp rfl) [] rfl ⟨rfl, rfl⟩))

end Go.Proofs.Ytiiljfpbcanphaa.G

/- spec.l07Is, as a pure function. -/
set_option linter.unusedVariables false
namespace Go.Proofs.Ytiiljfpbcanphaa.G
open Go Go.Sx Go.Proofs

def spec_l07Is.b0 (x1 : List (List Int)) (x2 : Int) : (List Int) × Int → Option (LR ((List Int) × Int) (LR ((List Int) × Int) Bool)) := fun p => match p with | (l2, x3) => (bif (decide (x3 < 3)) then chk x3 ((gt x1 x2).length) ((G.spec_l01In.f (gt (gt x1 x2) x3) (w64 (0 - (w64 (Int.tdiv (w64 ((x1.length : Int) * 3)) 2)))) (w64 (Int.tdiv (w64 ((x1.length : Int) * 3)) 2))).bind (fun r_1 => (bif ((!r_1) || ((gt (gt x1 x2) x3) == 0)) then some (.ret (.ret (false))) else chk (if (w64 (0 - (gt (gt x1 x2) x3))) > (gt (gt x1 x2) x3) then (w64 (0 - (gt (gt x1 x2) x3))) else (gt (gt x1 x2) x3)) l2.length (some (.next ((l2.set (if (w64 (0 - (gt (gt x1 x2) x3))) > (gt (gt x1 x2) x3) then (w64 (0 - (gt (gt x1 x2) x3))) else (gt (gt x1 x2) x3)).toNat (w64 ((gt l2 (if (w64 (0 - (gt (gt x1 x2) x3))) > (gt (gt x1 x2) x3) then (w64 (0 - (gt (gt x1 x2) x3))) else (gt (gt x1 x2) x3))) + 1))), (w64 (x3 + 1)))))))) else some (.brk (l2, x3)))

def spec_l07Is.b1 (x1 : List (List Int)) : (List Int) × Int → Option (LR ((List Int) × Int) Bool) := fun p => match p with | (l1, x2) => (bif (decide (x2 < (x1.length : Int))) then chk x2 x1.length ((bif (((gt x1 x2).length : Int) != 3) then some (.ret (false)) else (loop (spec_l07Is.b0 x1 x2) (l1, 0)).bind (ln (fun p => match p with | (l2, x3) => some (.next (l2, (w64 (x2 + 1)))))))) else some (.brk (l1, x2)))

def spec_l07Is.b2 (x1 : List (List Int)) (l1 : List Int) : Int → Option (LR Int Bool) := fun x4 => (bif (decide (x4 ≤ (w64 (Int.tdiv (w64 ((x1.length : Int) * 3)) 2)))) then chk x4 l1.length ((bif ((gt l1 x4) != 2) then some (.ret (false)) else some (.next (w64 (x4 + 1))))) else some (.brk x4))

def spec_l07Is.f (x1 : List (List Int)) : Option Bool := (bif (((decide ((x1.length : Int) < 2)) || (decide ((x1.length : Int) > 12))) || ((Int.tmod (x1.length : Int) 2) != 0)) then some false else grd (decide (0 ≤ (w64 ((w64 (Int.tdiv (w64 ((x1.length : Int) * 3)) 2)) + 1)))) (small (w64 ((w64 (Int.tdiv (w64 ((x1.length : Int) * 3)) 2)) + 1)).toNat ((loop (spec_l07Is.b1 x1) ((List.replicate (w64 ((w64 (Int.tdiv (w64 ((x1.length : Int) * 3)) 2)) + 1)).toNat (0 : Int)), 0)).bind (ln (fun p => match p with | (l1, x2) => (loop (spec_l07Is.b2 x1 l1) 1).bind (ln (fun x4 => some true)))))))

def spec_l07Is.R (r : Bool) (v : Value) (L : List Asn) : Prop := v = .bool r ∧ L = []

set_option maxRecDepth 100000 in
set_option maxHeartbeats 4000000 in
theorem spec_l07Is.calls (w : World) (s1 : SV) (ss1 : List SV) (x1 : List (List Int)) (h1 : ReadsM Ei (hp w) s1 ss1 x1) :
    ∀ r, spec_l07Is.f x1 = some r → Calls Try.prog 100 #[SV.v s1] w (Ret w (spec_l07Is.R r)) := by

  refine calls_T (n := 98) (Γ := [(0, SV.v s1)]) (R := spec_l07Is.R) Try.func100 rfl rfl (Nat.le_of_ble_eq_true rfl) ⟨rfl, trivial⟩ ?_
  unfold spec_l07Is.f
  refine TC.seq ?_
  refine TC.region ?_
  refine TL.assign rfl rfl (v := .bool false) rfl ?_
  refine TL.done ?_
  refine TC.seq ?_
  refine TC.seq ?_
  refine TC.region ?_
  refine TL.move rfl rfl (v := SV.v s1) rfl ?_
  refine TL.lenM (RdM.old h1) Try.underlying32 rfl rfl rfl ?_
  refine TL.bin .i64 (x1.length : Int) 2 rfl rfl rfl rfl (v := .bool (decide ((x1.length : Int) < 2))) rfl ?_
  refine TL.move rfl rfl (v := .bool (decide ((x1.length : Int) < 2))) rfl ?_
  refine TL.cutU 4 [(15, .bool ((decide ((x1.length : Int) < 2)) || (decide ((x1.length : Int) > 12)))), (0, SV.v s1), (2, .bool false), (8, SV.v s1), (9, .int .i64 (x1.length : Int)), (10, .bool (decide ((x1.length : Int) < 2))), (11, .bool (decide ((x1.length : Int) < 2)))] [] ?_ ?_
  · refine TL.cases (t := 11) (b := (decide ((x1.length : Int) < 2))) rfl (fun c1 => ?_) (fun c2 => ?_)
    · refine TL.skip rfl rfl (by decide) ?_
      refine TL.skip rfl rfl (by decide) ?_
      refine TL.skip rfl rfl (by decide) ?_
      refine TL.pick rfl rfl (b := true) rfl (r := .bool true) rfl ?_
      refine TL.done ?_
      exact TC.nrm () () ⟨(by rw [c1]; rfl), rfl, rfl, rfl, rfl, rfl, (by rw [c1]; rfl), trivial⟩ [] (by kernel_rfl)
    · refine TL.move rfl rfl (v := SV.v s1) rfl ?_
      refine TL.lenM (RdM.old h1) Try.underlying32 rfl rfl rfl ?_
      refine TL.bin .i64 (x1.length : Int) 12 rfl rfl rfl rfl (v := .bool (decide ((x1.length : Int) > 12))) rfl ?_
      refine TL.pick rfl rfl (b := false) rfl (r := .bool (decide ((x1.length : Int) > 12))) rfl ?_
      refine TL.done ?_
      exact TC.nrm () () ⟨(by rw [c2]; rfl), rfl, rfl, rfl, rfl, rfl, (by rw [c2]; rfl), trivial⟩ [] (by kernel_rfl)
  · refine TL.move rfl rfl (v := .bool ((decide ((x1.length : Int) < 2)) || (decide ((x1.length : Int) > 12)))) rfl ?_
    refine TL.cutU 5 [(21, .bool (((decide ((x1.length : Int) < 2)) || (decide ((x1.length : Int) > 12))) || ((Int.tmod (x1.length : Int) 2) != 0))), (0, SV.v s1), (2, .bool false), (8, SV.v s1), (9, .int .i64 (x1.length : Int)), (10, .bool (decide ((x1.length : Int) < 2))), (11, .bool (decide ((x1.length : Int) < 2))), (15, .bool ((decide ((x1.length : Int) < 2)) || (decide ((x1.length : Int) > 12)))), (16, .bool ((decide ((x1.length : Int) < 2)) || (decide ((x1.length : Int) > 12))))] [] ?_ ?_
    · refine TL.cases (t := 16) (b := ((decide ((x1.length : Int) < 2)) || (decide ((x1.length : Int) > 12)))) rfl (fun c3 => ?_) (fun c4 => ?_)
      · refine TL.skip rfl rfl (by decide) ?_
        refine TL.skip rfl rfl (by decide) ?_
        refine TL.skip rfl rfl (by decide) ?_
        refine TL.skip rfl rfl (by decide) ?_
        refine TL.pick rfl rfl (b := true) rfl (r := .bool true) rfl ?_
        refine TL.done ?_
        exact TC.nrm () () ⟨(by rw [c3]; rfl), rfl, rfl, rfl, rfl, rfl, rfl, rfl, (by rw [c3]; rfl), trivial⟩ [] (by kernel_rfl)
      · refine TL.move rfl rfl (v := SV.v s1) rfl ?_
        refine TL.lenM (RdM.old h1) Try.underlying32 rfl rfl rfl ?_
        refine TL.rem .i64 (x1.length : Int) 2 (by decide) rfl rfl rfl rfl ?_
        refine TL.bin .i64 (Int.tmod (x1.length : Int) 2) 0 rfl rfl rfl rfl (v := .bool ((Int.tmod (x1.length : Int) 2) != 0)) rfl ?_
        refine TL.pick rfl rfl (b := false) rfl (r := .bool ((Int.tmod (x1.length : Int) 2) != 0)) rfl ?_
        refine TL.done ?_
        exact TC.nrm () () ⟨(by rw [c4]; rfl), rfl, rfl, rfl, rfl, rfl, rfl, rfl, (by rw [c4]; rfl), trivial⟩ [] (by kernel_rfl)
    · refine TL.done ?_
      refine TC.cond (b := (((decide ((x1.length : Int) < 2)) || (decide ((x1.length : Int) > 12))) || ((Int.tmod (x1.length : Int) 2) != 0))) rfl (fun c5 => ?_) (fun c6 => ?_)
      · refine TC.seq ?_
        refine TC.region ?_
        refine TL.assign rfl rfl (v := .bool false) rfl ?_
        refine TL.done ?_
        exact TC.retF (Fin.body (fin1 (.inr rfl) rfl (.tmp rfl) [] rfl ⟨rfl, rfl⟩))
      · refine TC.skip ?_
        refine TC.seq ?_
        refine TC.region ?_
        refine TL.move rfl rfl (v := SV.v s1) rfl ?_
        refine TL.lenM (RdM.old h1) Try.underlying32 rfl rfl rfl ?_
        refine TL.bin .i64 (x1.length : Int) 3 rfl rfl rfl rfl (v := .int .i64 (w64 ((x1.length : Int) * 3))) rfl ?_
        refine TL.quo .i64 (w64 ((x1.length : Int) * 3)) 2 (by decide) rfl rfl rfl rfl ?_
        refine TL.assign rfl rfl (v := .int .i64 (w64 (Int.tdiv (w64 ((x1.length : Int) * 3)) 2))) rfl ?_
        refine TL.done ?_
        refine TC.seq ?_
        refine TC.region ?_
        refine TL.move rfl rfl (v := .int .i64 (w64 (Int.tdiv (w64 ((x1.length : Int) * 3)) 2))) rfl ?_
        refine TL.bin .i64 (w64 (Int.tdiv (w64 ((x1.length : Int) * 3)) 2)) 1 rfl rfl rfl rfl (v := .int .i64 (w64 ((w64 (Int.tdiv (w64 ((x1.length : Int) * 3)) 2)) + 1))) rfl ?_
        refine TL.grd fun h3 => ?_
        refine TL.small fun h2 => ?_
        refine TL.mkslice Ei (0 : Int) (w64 ((w64 (Int.tdiv (w64 ((x1.length : Int) * 3)) 2)) + 1)) Try.underlying22 (info_of Try.type2) (zv := (Try.t2.zero.getD (.bool false))) rfl rfl rfl (by simp [Ei, flat, Seg.cells]) (by decide) (by simpa using h3) (by omega) rfl rfl rfl rfl fun s2 => ?_
        refine TL.assign rfl rfl (v := SV.v s2) rfl ?_
        refine TL.done ?_
        refine TC.seq ?_
        refine TC.seq ?_
        refine TC.region ?_
        refine TL.assign rfl rfl (v := .int .i64 0) rfl ?_
        refine TL.done ?_
        refine TC.loopK (σ := (List Int) × Int) (γ := Unit) (Γ' := (fun p q => match p, q with | (l1, x2), _ => [(0, SV.v s1), (3, .int .i64 (w64 (Int.tdiv (w64 ((x1.length : Int) * 3)) 2))), (4, SV.v s2), (5, .int .i64 x2)])) (L' := (fun p q => match p, q with | (l1, x2), _ => [row Ei 2 s2 l1])) (Γb := (fun p q => match p, q with | (l1, x2), _ => [(0, SV.v s1), (3, .int .i64 (w64 (Int.tdiv (w64 ((x1.length : Int) * 3)) 2))), (4, SV.v s2), (5, .int .i64 x2)])) (Lb := (fun p q => match p, q with | (l1, x2), _ => [row Ei 2 s2 l1])) (((List.replicate (w64 ((w64 (Int.tdiv (w64 ((x1.length : Int) * 3)) 2)) + 1)).toNat (0 : Int)), 0)) (()) ⟨rfl, rfl, rfl, rfl, trivial⟩ [0] rfl ?_ ?_
        · rintro ⟨l1, x2⟩ _
          refine TC.seq ?_
          refine TC.seq ?_
          refine TC.region ?_
          refine TL.move rfl rfl (v := .int .i64 x2) rfl ?_
          refine TL.move rfl rfl (v := SV.v s1) rfl ?_
          refine TL.lenM (RdM.old h1) Try.underlying32 rfl rfl rfl ?_
          refine TL.bin .i64 x2 (x1.length : Int) rfl rfl rfl rfl (v := .bool (decide (x2 < (x1.length : Int)))) rfl ?_
          refine TL.done ?_
          refine TC.cond (b := (decide (x2 < (x1.length : Int)))) rfl (fun c7 => ?_) (fun c8 => ?_)
          · refine TC.skip ?_
            refine TC.seq ?_
            refine TC.block (NoEx.loop rfl NoEx.body) ?_
            refine TC.seq ?_
            refine TC.seq ?_
            refine TC.region ?_
            refine TL.move rfl rfl (v := SV.v s1) rfl ?_
            refine TL.move rfl rfl (v := .int .i64 x2) rfl ?_
            refine TL.chk fun h4 => ?_
            refine TL.ixsM x2 x2.toNat (RdM.old h1) h4 Try.underlying32 Try.sizeOf22 rfl rfl rfl rfl (by omega) ?_
            refine TL.loadM2 (RdM.old h1) Try.isAgg22 x2 h4 (by omega) rfl rfl rfl ?_
            refine TL.len (RdM.inn (RdM.old h1) h4) Try.underlying22 rfl rfl rfl ?_
            refine TL.bin .i64 ((gt x1 x2).length : Int) 3 rfl rfl rfl rfl (v := .bool (((gt x1 x2).length : Int) != 3)) rfl ?_
            refine TL.done ?_
            refine TC.cond (b := (((gt x1 x2).length : Int) != 3)) rfl (fun c9 => ?_) (fun c10 => ?_)
            · refine TC.seq ?_
              refine TC.region ?_
              refine TL.assign rfl rfl (v := .bool false) rfl ?_
              refine TL.done ?_
              exact TC.retF (Fin.loop Far.ret (Fin.body (fin1 (.inr rfl) rfl (.tmp rfl) [] rfl ⟨rfl, rfl⟩)))
            · refine TC.skip ?_
              refine TC.seq ?_
              refine TC.region ?_
              refine TL.assign rfl rfl (v := .int .i64 0) rfl ?_
              refine TL.done ?_
              refine TC.loopK (σ := (List Int) × Int) (γ := Unit) (Γ' := (fun p q => match p, q with | (l2, x3), _ => [(0, SV.v s1), (3, .int .i64 (w64 (Int.tdiv (w64 ((x1.length : Int) * 3)) 2))), (4, SV.v s2), (5, .int .i64 x2), (6, .int .i64 x3)])) (L' := (fun p q => match p, q with | (l2, x3), _ => [row Ei 2 s2 l2])) (Γb := (fun p q => match p, q with | (l2, x3), _ => [(0, SV.v s1), (3, .int .i64 (w64 (Int.tdiv (w64 ((x1.length : Int) * 3)) 2))), (4, SV.v s2), (5, .int .i64 x2), (6, .int .i64 x3)])) (Lb := (fun p q => match p, q with | (l2, x3), _ => [row Ei 2 s2 l2])) ((l1, 0)) (()) ⟨rfl, rfl, rfl, rfl, rfl, trivial⟩ [0] rfl ?_ ?_
              · rintro ⟨l2, x3⟩ _
                refine TC.seq ?_
                refine TC.seq ?_
                refine TC.region ?_
                refine TL.move rfl rfl (v := .int .i64 x3) rfl ?_
                refine TL.bin .i64 x3 3 rfl rfl rfl rfl (v := .bool (decide (x3 < 3))) rfl ?_
                refine TL.done ?_
                refine TC.cond (b := (decide (x3 < 3))) rfl (fun c11 => ?_) (fun c12 => ?_)
                · refine TC.skip ?_
                  refine TC.seq ?_
                  refine TC.block (NoEx.loop rfl (NoEx.loop rfl NoEx.body)) ?_
                  refine TC.seq ?_
                  refine TC.seq ?_
                  refine TC.region ?_
                  refine TL.move rfl rfl (v := SV.v s1) rfl ?_
                  refine TL.move rfl rfl (v := .int .i64 x2) rfl ?_
                  refine TL.ixsM x2 x2.toNat (RdM.old h1) h4 Try.underlying32 Try.sizeOf22 rfl rfl rfl rfl (by omega) ?_
                  refine TL.loadM2 (RdM.old h1) Try.isAgg22 x2 h4 (by omega) rfl rfl rfl ?_
                  refine TL.move rfl rfl (v := .int .i64 x3) rfl ?_
                  refine TL.chk fun h5 => ?_
                  refine TL.ixs x3 x3.toNat (RdM.inn (RdM.old h1) h4) h5 Try.underlying22 Try.sizeOf2 rfl rfl rfl rfl (by omega) ?_
                  refine TL.loadE (RdM.inn (RdM.old h1) h4) Try.isAgg2 x3.toNat 0 (gt_spec h5) (v := .int .i64 (gt (gt x1 x2) x3)) rfl (by simp only [show Ei.sz = 1 from rfl] <;> omega) rfl rfl rfl ?_
                  refine TL.move rfl rfl (v := .int .i64 (w64 (Int.tdiv (w64 ((x1.length : Int) * 3)) 2))) rfl ?_
                  refine TL.neg .i64 (w64 (Int.tdiv (w64 ((x1.length : Int) * 3)) 2)) rfl rfl rfl ?_
                  refine TL.move rfl rfl (v := .int .i64 (w64 (Int.tdiv (w64 ((x1.length : Int) * 3)) 2))) rfl ?_
                  refine TL.call (R := G.spec_l01In.R) Try.call69 rfl rfl rfl (fun w hS => G.spec_l01In.calls w (gt (gt x1 x2) x3) (w64 (0 - (w64 (Int.tdiv (w64 ((x1.length : Int) * 3)) 2)))) (w64 (Int.tdiv (w64 ((x1.length : Int) * 3)) 2))) ?_
                  rintro r_1 _ _ ⟨rfl, rfl⟩
                  refine TL.not r_1 rfl rfl rfl ?_
                  refine TL.move rfl rfl (v := .bool (!r_1)) rfl ?_
                  refine TL.cutU 9 [(66, .bool ((!r_1) || ((gt (gt x1 x2) x3) == 0))), (0, SV.v s1), (3, .int .i64 (w64 (Int.tdiv (w64 ((x1.length : Int) * 3)) 2))), (4, SV.v s2), (5, .int .i64 x2), (6, .int .i64 x3), (41, .int .i64 x3), (42, .bool (decide (x3 < 3))), (45, SV.v s1), (46, .int .i64 x2), (47, ep s1 x2.toNat), (48, SV.v (gt ss1 x2)), (49, .int .i64 x3), (50, ep (gt ss1 x2) x3.toNat), (51, .int .i64 (gt (gt x1 x2) x3)), (52, .int .i64 (w64 (Int.tdiv (w64 ((x1.length : Int) * 3)) 2))), (53, .int .i64 (w64 (0 - (w64 (Int.tdiv (w64 ((x1.length : Int) * 3)) 2))))), (54, .int .i64 (w64 (Int.tdiv (w64 ((x1.length : Int) * 3)) 2))), (55, .bool r_1), (56, .bool (!r_1)), (57, .bool (!r_1))] [row Ei 2 s2 l2] ?_ ?_
                  · refine TL.cases (t := 57) (b := (!r_1)) rfl (fun c13 => ?_) (fun c14 => ?_)
                    · refine TL.skip rfl rfl (by decide) ?_
                      refine TL.skip rfl rfl (by decide) ?_
                      refine TL.skip rfl rfl (by decide) ?_
                      refine TL.skip rfl rfl (by decide) ?_
                      refine TL.skip rfl rfl (by decide) ?_
                      refine TL.skip rfl rfl (by decide) ?_
                      refine TL.skip rfl rfl (by decide) ?_
                      refine TL.skip rfl rfl (by decide) ?_
                      refine TL.pick rfl rfl (b := true) rfl (r := .bool true) rfl ?_
                      refine TL.done ?_
                      exact TC.nrm () () ⟨(by rw [c13]; rfl), rfl, rfl, rfl, rfl, rfl, rfl, rfl, rfl, rfl, rfl, rfl, rfl, rfl, rfl, rfl, rfl, rfl, rfl, rfl, (by rw [c13]; rfl), trivial⟩ [0] (by kernel_rfl)
                    · refine TL.move rfl rfl (v := SV.v s1) rfl ?_
                      refine TL.move rfl rfl (v := .int .i64 x2) rfl ?_
                      refine TL.ixsM x2 x2.toNat (RdM.old h1) h4 Try.underlying32 Try.sizeOf22 rfl rfl rfl rfl (by omega) ?_
                      refine TL.loadM2 (RdM.old h1) Try.isAgg22 x2 h4 (by omega) rfl rfl rfl ?_
                      refine TL.move rfl rfl (v := .int .i64 x3) rfl ?_
                      refine TL.ixs x3 x3.toNat (RdM.inn (RdM.old h1) h4) h5 Try.underlying22 Try.sizeOf2 rfl rfl rfl rfl (by omega) ?_
                      refine TL.loadE (RdM.inn (RdM.old h1) h4) Try.isAgg2 x3.toNat 0 (gt_spec h5) (v := .int .i64 (gt (gt x1 x2) x3)) rfl (by simp only [show Ei.sz = 1 from rfl] <;> omega) rfl rfl rfl ?_
                      refine TL.bin .i64 (gt (gt x1 x2) x3) 0 rfl rfl rfl rfl (v := .bool ((gt (gt x1 x2) x3) == 0)) rfl ?_
                      refine TL.pick rfl rfl (b := false) rfl (r := .bool ((gt (gt x1 x2) x3) == 0)) rfl ?_
                      refine TL.done ?_
                      exact TC.nrm () () ⟨(by rw [c14]; rfl), rfl, rfl, rfl, rfl, rfl, rfl, rfl, rfl, rfl, rfl, rfl, rfl, rfl, rfl, rfl, rfl, rfl, rfl, rfl, (by rw [c14]; rfl), trivial⟩ [0] (by kernel_rfl)
                  · refine TL.done ?_
                    refine TC.cond (b := ((!r_1) || ((gt (gt x1 x2) x3) == 0))) rfl (fun c15 => ?_) (fun c16 => ?_)
                    · refine TC.seq ?_
                      refine TC.region ?_
                      refine TL.assign rfl rfl (v := .bool false) rfl ?_
                      refine TL.done ?_
                      exact TC.retF (Fin.loop Far.ret (Fin.loop Far.ret (Fin.body (fin1 (.inr rfl) rfl (.tmp rfl) [] rfl ⟨rfl, rfl⟩))))
                    · refine TC.skip ?_
                      refine TC.wk (Γ' := [(0, SV.v s1), (3, .int .i64 (w64 (Int.tdiv (w64 ((x1.length : Int) * 3)) 2))), (4, SV.v s2), (5, .int .i64 x2), (6, .int .i64 x3), (41, .int .i64 x3), (42, .bool (decide (x3 < 3))), (45, SV.v s1), (46, .int .i64 x2), (47, ep s1 x2.toNat), (48, SV.v (gt ss1 x2)), (49, .int .i64 x3), (50, ep (gt ss1 x2) x3.toNat), (51, .int .i64 (gt (gt x1 x2) x3)), (52, .int .i64 (w64 (Int.tdiv (w64 ((x1.length : Int) * 3)) 2))), (53, .int .i64 (w64 (0 - (w64 (Int.tdiv (w64 ((x1.length : Int) * 3)) 2))))), (54, .int .i64 (w64 (Int.tdiv (w64 ((x1.length : Int) * 3)) 2))), (55, .bool r_1), (56, .bool (!r_1)), (57, .bool (!r_1)), (66, .bool ((!r_1) || ((gt (gt x1 x2) x3) == 0)))]) ⟨rfl, rfl, rfl, rfl, rfl, rfl, rfl, rfl, rfl, rfl, rfl, rfl, rfl, rfl, rfl, rfl, rfl, rfl, rfl, rfl, rfl, trivial⟩ ?_
                      refine TC.chk fun h6 => ?_
                      refine TC.draw [SV.v s2, SV.v s1, .int .i64 x2, ep s1 x2.toNat, SV.v (gt ss1 x2), .int .i64 x3, ep (gt ss1 x2) x3.toNat, .int .i64 (gt (gt x1 x2) x3), SV.v s1, .int .i64 x2, ep s1 x2.toNat, SV.v (gt ss1 x2), .int .i64 x3, ep (gt ss1 x2) x3.toNat, .int .i64 (gt (gt x1 x2) x3), .int .i64 (w64 (0 - (gt (gt x1 x2) x3))), .int .i64 (if (w64 (0 - (gt (gt x1 x2) x3))) > (gt (gt x1 x2) x3) then (w64 (0 - (gt (gt x1 x2) x3))) else (gt (gt x1 x2) x3)), ep s2 ((if (w64 (0 - (gt (gt x1 x2) x3))) > (gt (gt x1 x2) x3) then (w64 (0 - (gt (gt x1 x2) x3))) else (gt (gt x1 x2) x3)).toNat), .int .i64 (gt l2 (if (w64 (0 - (gt (gt x1 x2) x3))) > (gt (gt x1 x2) x3) then (w64 (0 - (gt (gt x1 x2) x3))) else (gt (gt x1 x2) x3))), .int .i64 (w64 ((gt l2 (if (w64 (0 - (gt (gt x1 x2) x3))) > (gt (gt x1 x2) x3) then (w64 (0 - (gt (gt x1 x2) x3))) else (gt (gt x1 x2) x3))) + 1)), ep s2 ((if (w64 (0 - (gt (gt x1 x2) x3))) > (gt (gt x1 x2) x3) then (w64 (0 - (gt (gt x1 x2) x3))) else (gt (gt x1 x2) x3)).toNat), undef] 21 [row Ei 2 s2 (l2.set (if (w64 (0 - (gt (gt x1 x2) x3))) > (gt (gt x1 x2) x3) then (w64 (0 - (gt (gt x1 x2) x3))) else (gt (gt x1 x2) x3)).toNat (w64 ((gt l2 (if (w64 (0 - (gt (gt x1 x2) x3))) > (gt (gt x1 x2) x3) then (w64 (0 - (gt (gt x1 x2) x3))) else (gt (gt x1 x2) x3))) + 1)))] (by kernel_rfl) rfl rfl rfl rfl ?_ ?_
                      · refine ⟨?_, ?_, ?_, ?_, ?_, ?_, ?_, ?_, ?_, ?_, ?_, ?_, ?_, ?_, ?_, ?_, ?_, ?_, ?_, ?_, ?_, ?_, trivial⟩
                        · refine TL.move rfl rfl (v := SV.v s2) rfl ?_
                          refine TL.done ?_
                          exact TC.nrm () () ⟨rfl, trivial⟩ [0] (by kernel_rfl)
                        · refine TL.move rfl rfl (v := SV.v s1) rfl ?_
                          refine TL.done ?_
                          exact TC.nrm () () ⟨rfl, trivial⟩ [0] (by kernel_rfl)
                        · refine TL.move rfl rfl (v := .int .i64 x2) rfl ?_
                          refine TL.done ?_
                          exact TC.nrm () () ⟨rfl, trivial⟩ [0] (by kernel_rfl)
                        · refine TL.ixsM x2 x2.toNat (RdM.old h1) h4 Try.underlying32 Try.sizeOf22 rfl rfl rfl rfl (by omega) ?_
                          refine TL.done ?_
                          exact TC.nrm () () ⟨rfl, trivial⟩ [0] (by kernel_rfl)
                        · refine TL.loadM2 (RdM.old h1) Try.isAgg22 x2 h4 (by omega) rfl rfl rfl ?_
                          refine TL.done ?_
                          exact TC.nrm () () ⟨rfl, trivial⟩ [0] (by kernel_rfl)
                        · refine TL.move rfl rfl (v := .int .i64 x3) rfl ?_
                          refine TL.done ?_
                          exact TC.nrm () () ⟨rfl, trivial⟩ [0] (by kernel_rfl)
                        · refine TL.ixs x3 x3.toNat (RdM.inn (RdM.old h1) h4) h5 Try.underlying22 Try.sizeOf2 rfl rfl rfl rfl (by omega) ?_
                          refine TL.done ?_
                          exact TC.nrm () () ⟨rfl, trivial⟩ [0] (by kernel_rfl)
                        · refine TL.loadE (RdM.inn (RdM.old h1) h4) Try.isAgg2 x3.toNat 0 (gt_spec h5) (v := .int .i64 (gt (gt x1 x2) x3)) rfl (by simp only [show Ei.sz = 1 from rfl] <;> omega) rfl rfl rfl ?_
                          refine TL.done ?_
                          exact TC.nrm () () ⟨rfl, trivial⟩ [0] (by kernel_rfl)
                        · refine TL.move rfl rfl (v := SV.v s1) rfl ?_
                          refine TL.done ?_
                          exact TC.nrm () () ⟨rfl, trivial⟩ [0] (by kernel_rfl)
                        · refine TL.move rfl rfl (v := .int .i64 x2) rfl ?_
                          refine TL.done ?_
                          exact TC.nrm () () ⟨rfl, trivial⟩ [0] (by kernel_rfl)
                        · refine TL.ixsM x2 x2.toNat (RdM.old h1) h4 Try.underlying32 Try.sizeOf22 rfl rfl rfl rfl (by omega) ?_
                          refine TL.done ?_
                          exact TC.nrm () () ⟨rfl, trivial⟩ [0] (by kernel_rfl)
                        · refine TL.loadM2 (RdM.old h1) Try.isAgg22 x2 h4 (by omega) rfl rfl rfl ?_
                          refine TL.done ?_
                          exact TC.nrm () () ⟨rfl, trivial⟩ [0] (by kernel_rfl)
                        · refine TL.move rfl rfl (v := .int .i64 x3) rfl ?_
                          refine TL.done ?_
                          exact TC.nrm () () ⟨rfl, trivial⟩ [0] (by kernel_rfl)
                        · refine TL.ixs x3 x3.toNat (RdM.inn (RdM.old h1) h4) h5 Try.underlying22 Try.sizeOf2 rfl rfl rfl rfl (by omega) ?_
                          refine TL.done ?_
                          exact TC.nrm () () ⟨rfl, trivial⟩ [0] (by kernel_rfl)
                        · refine TL.loadE (RdM.inn (RdM.old h1) h4) Try.isAgg2 x3.toNat 0 (gt_spec h5) (v := .int .i64 (gt (gt x1 x2) x3)) rfl (by simp only [show Ei.sz = 1 from rfl] <;> omega) rfl rfl rfl ?_
                          refine TL.done ?_
                          exact TC.nrm () () ⟨rfl, trivial⟩ [0] (by kernel_rfl)
                        · refine TL.neg .i64 (gt (gt x1 x2) x3) rfl rfl rfl ?_
                          refine TL.done ?_
                          exact TC.nrm () () ⟨rfl, trivial⟩ [0] (by kernel_rfl)
                        · refine TL.max2 rfl rfl rfl rfl ?_
                          refine TL.done ?_
                          exact TC.nrm () () ⟨rfl, trivial⟩ [0] (by kernel_rfl)
                        · refine TL.ixs (if (w64 (0 - (gt (gt x1 x2) x3))) > (gt (gt x1 x2) x3) then (w64 (0 - (gt (gt x1 x2) x3))) else (gt (gt x1 x2) x3)) ((if (w64 (0 - (gt (gt x1 x2) x3))) > (gt (gt x1 x2) x3) then (w64 (0 - (gt (gt x1 x2) x3))) else (gt (gt x1 x2) x3)).toNat) (Rd.row 0 rfl) h6 Try.underlying22 Try.sizeOf2 rfl rfl rfl rfl (by omega) ?_
                          refine TL.done ?_
                          exact TC.nrm () () ⟨rfl, trivial⟩ [0] (by kernel_rfl)
                        · refine TL.loadE (Rd.row 0 rfl) Try.isAgg2 (if (w64 (0 - (gt (gt x1 x2) x3))) > (gt (gt x1 x2) x3) then (w64 (0 - (gt (gt x1 x2) x3))) else (gt (gt x1 x2) x3)).toNat 0 (gt_spec h6) (v := .int .i64 (gt l2 (if (w64 (0 - (gt (gt x1 x2) x3))) > (gt (gt x1 x2) x3) then (w64 (0 - (gt (gt x1 x2) x3))) else (gt (gt x1 x2) x3)))) rfl (by simp only [show Ei.sz = 1 from rfl] <;> omega) rfl rfl rfl ?_
                          refine TL.done ?_
                          exact TC.nrm () () ⟨rfl, trivial⟩ [0] (by kernel_rfl)
                        · refine TL.bin .i64 (gt l2 (if (w64 (0 - (gt (gt x1 x2) x3))) > (gt (gt x1 x2) x3) then (w64 (0 - (gt (gt x1 x2) x3))) else (gt (gt x1 x2) x3))) 1 rfl rfl rfl rfl (v := .int .i64 (w64 ((gt l2 (if (w64 (0 - (gt (gt x1 x2) x3))) > (gt (gt x1 x2) x3) then (w64 (0 - (gt (gt x1 x2) x3))) else (gt (gt x1 x2) x3))) + 1))) rfl ?_
                          refine TL.done ?_
                          exact TC.nrm () () ⟨rfl, trivial⟩ [0] (by kernel_rfl)
                        · refine TL.ixs (if (w64 (0 - (gt (gt x1 x2) x3))) > (gt (gt x1 x2) x3) then (w64 (0 - (gt (gt x1 x2) x3))) else (gt (gt x1 x2) x3)) ((if (w64 (0 - (gt (gt x1 x2) x3))) > (gt (gt x1 x2) x3) then (w64 (0 - (gt (gt x1 x2) x3))) else (gt (gt x1 x2) x3)).toNat) (Rd.row 0 rfl) h6 Try.underlying22 Try.sizeOf2 rfl rfl rfl rfl (by omega) ?_
                          refine TL.done ?_
                          exact TC.nrm () () ⟨rfl, trivial⟩ [0] (by kernel_rfl)
                        · refine TL.stE 0 ((if (w64 (0 - (gt (gt x1 x2) x3))) > (gt (gt x1 x2) x3) then (w64 (0 - (gt (gt x1 x2) x3))) else (gt (gt x1 x2) x3)).toNat) (w64 ((gt l2 (if (w64 (0 - (gt (gt x1 x2) x3))) > (gt (gt x1 x2) x3) then (w64 (0 - (gt (gt x1 x2) x3))) else (gt (gt x1 x2) x3))) + 1)) (v := .int .i64 (w64 ((gt l2 (if (w64 (0 - (gt (gt x1 x2) x3))) > (gt (gt x1 x2) x3) then (w64 (0 - (gt (gt x1 x2) x3))) else (gt (gt x1 x2) x3))) + 1))) rfl Try.sizeOf2 rfl rfl rfl (by have h_ := h6; omega) (by simp only [show Ei.sz = 1 from rfl] <;> omega) rfl rfl rfl ?_
                          refine TL.done ?_
                          exact TC.nrm () () trivial [0] (by kernel_rfl)
                      · refine TC.region ?_
                        refine TL.move rfl rfl (v := .int .i64 x3) rfl ?_
                        refine TL.bin .i64 x3 1 rfl rfl rfl rfl (v := .int .i64 (w64 (x3 + 1))) rfl ?_
                        refine TL.assign rfl rfl (v := .int .i64 (w64 (x3 + 1))) rfl ?_
                        refine TL.done ?_
                        exact TC.next (((l2.set (if (w64 (0 - (gt (gt x1 x2) x3))) > (gt (gt x1 x2) x3) then (w64 (0 - (gt (gt x1 x2) x3))) else (gt (gt x1 x2) x3)).toNat (w64 ((gt l2 (if (w64 (0 - (gt (gt x1 x2) x3))) > (gt (gt x1 x2) x3) then (w64 (0 - (gt (gt x1 x2) x3))) else (gt (gt x1 x2) x3))) + 1))), (w64 (x3 + 1)))) (()) ⟨rfl, rfl, rfl, rfl, rfl, trivial⟩ [0] rfl
                · exact TC.brk ((l2, x3)) (()) ⟨rfl, rfl, rfl, rfl, rfl, trivial⟩ [0] rfl
              · rintro ⟨l2, x3⟩ _
                refine TC.region ?_
                refine TL.move rfl rfl (v := .int .i64 x2) rfl ?_
                refine TL.bin .i64 x2 1 rfl rfl rfl rfl (v := .int .i64 (w64 (x2 + 1))) rfl ?_
                refine TL.assign rfl rfl (v := .int .i64 (w64 (x2 + 1))) rfl ?_
                refine TL.done ?_
                exact TC.next ((l2, (w64 (x2 + 1)))) (()) ⟨rfl, rfl, rfl, rfl, trivial⟩ [0] rfl
          · exact TC.brk ((l1, x2)) (()) ⟨rfl, rfl, rfl, rfl, trivial⟩ [0] rfl
        · rintro ⟨l1, x2⟩ _
          refine TC.seq ?_
          refine TC.seq ?_
          refine TC.region ?_
          refine TL.assign rfl rfl (v := .int .i64 1) rfl ?_
          refine TL.done ?_
          refine TC.loopK (σ := Int) (γ := Unit) (Γ' := (fun x4 _ => [(3, .int .i64 (w64 (Int.tdiv (w64 ((x1.length : Int) * 3)) 2))), (4, SV.v s2), (7, .int .i64 x4)])) (L' := (fun x4 _ => [row Ei 2 s2 l1])) (Γb := (fun x4 _ => [(3, .int .i64 (w64 (Int.tdiv (w64 ((x1.length : Int) * 3)) 2))), (4, SV.v s2), (7, .int .i64 x4)])) (Lb := (fun x4 _ => [row Ei 2 s2 l1])) (1) (()) ⟨rfl, rfl, rfl, trivial⟩ [0] rfl ?_ ?_
          · rintro x4 _
            refine TC.seq ?_
            refine TC.seq ?_
            refine TC.region ?_
            refine TL.move rfl rfl (v := .int .i64 x4) rfl ?_
            refine TL.move rfl rfl (v := .int .i64 (w64 (Int.tdiv (w64 ((x1.length : Int) * 3)) 2))) rfl ?_
            refine TL.bin .i64 x4 (w64 (Int.tdiv (w64 ((x1.length : Int) * 3)) 2)) rfl rfl rfl rfl (v := .bool (decide (x4 ≤ (w64 (Int.tdiv (w64 ((x1.length : Int) * 3)) 2))))) rfl ?_
            refine TL.done ?_
            refine TC.cond (b := (decide (x4 ≤ (w64 (Int.tdiv (w64 ((x1.length : Int) * 3)) 2))))) rfl (fun c17 => ?_) (fun c18 => ?_)
            · refine TC.skip ?_
              refine TC.seq ?_
              refine TC.block (NoEx.loop rfl NoEx.body) ?_
              refine TC.seq ?_
              refine TC.region ?_
              refine TL.move rfl rfl (v := SV.v s2) rfl ?_
              refine TL.move rfl rfl (v := .int .i64 x4) rfl ?_
              refine TL.chk fun h7 => ?_
              refine TL.ixs x4 x4.toNat (Rd.row 0 rfl) h7 Try.underlying22 Try.sizeOf2 rfl rfl rfl rfl (by omega) ?_
              refine TL.loadE (Rd.row 0 rfl) Try.isAgg2 x4.toNat 0 (gt_spec h7) (v := .int .i64 (gt l1 x4)) rfl (by simp only [show Ei.sz = 1 from rfl] <;> omega) rfl rfl rfl ?_
              refine TL.bin .i64 (gt l1 x4) 2 rfl rfl rfl rfl (v := .bool ((gt l1 x4) != 2)) rfl ?_
              refine TL.done ?_
              refine TC.cond (b := ((gt l1 x4) != 2)) rfl (fun c19 => ?_) (fun c20 => ?_)
              · refine TC.seq ?_
                refine TC.region ?_
                refine TL.assign rfl rfl (v := .bool false) rfl ?_
                refine TL.done ?_
                exact TC.retF (Fin.loop Far.ret (Fin.body (fin1 (.inr rfl) rfl (.tmp rfl) [] rfl ⟨rfl, rfl⟩)))
              · refine TC.skip ?_
                refine TC.region ?_
                refine TL.move rfl rfl (v := .int .i64 x4) rfl ?_
                refine TL.bin .i64 x4 1 rfl rfl rfl rfl (v := .int .i64 (w64 (x4 + 1))) rfl ?_
                refine TL.assign rfl rfl (v := .int .i64 (w64 (x4 + 1))) rfl ?_
                refine TL.done ?_
                exact TC.next ((w64 (x4 + 1))) (()) ⟨rfl, rfl, rfl, trivial⟩ [0] rfl
            · exact TC.brk (x4) (()) ⟨rfl, rfl, rfl, trivial⟩ [0] rfl
          · rintro x4 _
            refine TC.seq ?_
            refine TC.region ?_
            refine TL.assign rfl rfl (v := .bool true) rfl ?_
            refine TL.done ?_
            exact TC.retF (Fin.body (fin1 (.inr rfl) rfl (.tmp rfl) [] rfl ⟨rfl, rfl⟩))

end Go.Proofs.Ytiiljfpbcanphaa.G

/- slices.ContainsFunc[[]int64,int64], as a pure function. -/
set_option linter.unusedVariables false
namespace Go.Proofs.Ytiiljfpbcanphaa.G
open Go Go.Sx Go.Proofs

def slices_ContainsFunc_int64_int64.f (s1 : List Int) (f2 : Int → Option Bool) : Option Bool := (G.slices_IndexFunc_int64_int64.f s1 f2).bind (fun r_1 => some (decide (r_1 ≥ 0)))

def slices_ContainsFunc_int64_int64.R (r : Bool) (v : Value) (L : List Asn) : Prop := v = .bool r ∧ L = []

set_option maxRecDepth 100000 in
set_option maxHeartbeats 4000000 in
theorem slices_ContainsFunc_int64_int64.calls (w : World) (s2 : SV) (s1 : List Int) (f1 : Nat) (fst1 : List Value) (cap1 : List Value) (f2 : Int → Option Bool) (h1 : Reads Ei (hp w) s2 s1) (hc1 : ∀ (args_ : Array Value) (w_ : World), (callFunc f1 args_).run Try.prog w_ = .ok (.enter f1 args_) w_) (hf1 : ∀ w_, Hle (hp w) (hp w_) → ∀ (x0_ : Int), ∀ r_, f2 x0_ = some r_ → Calls Try.prog f1 (fst1 ++ ([.int .i64 x0_] : List Value) ++ cap1).toArray w_ (Ret w_ (fun (v_ : Value) (L_ : List Asn) => v_ = .bool r_ ∧ L_ = []))) :
    ∀ r, slices_ContainsFunc_int64_int64.f s1 f2 = some r → Calls Try.prog 103 #[SV.v s2, .func (.func f1) fst1.toArray cap1.toArray] w (Ret w (slices_ContainsFunc_int64_int64.R r)) := by

  refine calls_T (n := 9) (Γ := [(0, SV.v s2), (1, .func (.func f1) fst1.toArray cap1.toArray)]) (R := slices_ContainsFunc_int64_int64.R) Try.func103 rfl rfl (Nat.le_of_ble_eq_true rfl) ⟨rfl, rfl, trivial⟩ ?_
  unfold slices_ContainsFunc_int64_int64.f
  refine TC.seq ?_
  refine TC.region ?_
  refine TL.assign rfl rfl (v := .bool false) rfl ?_
  refine TL.done ?_
  refine TC.seq ?_
  refine TC.region ?_
  refine TL.move rfl rfl (v := SV.v s2) rfl ?_
  refine TL.move rfl rfl (v := .func (.func f1) fst1.toArray cap1.toArray) rfl ?_
  refine TL.call (R := G.slices_IndexFunc_int64_int64.R) Try.call150 rfl rfl rfl (fun w hS => G.slices_IndexFunc_int64_int64.calls w s2 s1 f1 fst1 cap1 f2 ((Rd.old h1) w hS) hc1 (fun w_ hle_ => hf1 w_ (hS.iw.trans hle_))) ?_
  rintro r_1 _ _ ⟨rfl, rfl⟩
  refine TL.bin .i64 r_1 0 rfl rfl rfl rfl (v := .bool (decide (r_1 ≥ 0))) rfl ?_
  refine TL.assign rfl rfl (v := .bool (decide (r_1 ≥ 0))) rfl ?_
  refine TL.done ?_
  exact TC.retF (Fin.body (fin1 (.inr rfl) rfl (.tmp rfl) [] rfl ⟨rfl, rfl⟩))

end Go.Proofs.Ytiiljfpbcanphaa.G

/- impl.edgesOf, as a pure function. -/
set_option linter.unusedVariables false
namespace Go.Proofs.Ytiiljfpbcanphaa.G
open Go Go.Sx Go.Proofs

def impl_edgesOf.f (s1 : List (List Int)) : Option Int := some (w64 (Int.tdiv (w64 ((s1.length : Int) * 3)) 2))

def impl_edgesOf.R (r : Int) (v : Value) (L : List Asn) : Prop := v = .int .i64 r ∧ L = []

set_option maxRecDepth 100000 in
set_option maxHeartbeats 4000000 in
theorem impl_edgesOf.calls (w : World) (s2 : SV) (ss1 : List SV) (s1 : List (List Int)) (h1 : ReadsM Ei (hp w) s2 ss1 s1) :
    ∀ r, impl_edgesOf.f s1 = some r → Calls Try.prog 118 #[SV.v s2] w (Ret w (impl_edgesOf.R r)) := by

  refine calls_T (n := 7) (Γ := [(0, SV.v s2)]) (R := impl_edgesOf.R) Try.func118 rfl rfl (Nat.le_of_ble_eq_true rfl) ⟨rfl, trivial⟩ ?_
  unfold impl_edgesOf.f
  refine TC.seq ?_
  refine TC.region ?_
  refine TL.assign rfl rfl (v := .int .i64 0) rfl ?_
  refine TL.done ?_
  refine TC.seq ?_
  refine TC.region ?_
  refine TL.move rfl rfl (v := SV.v s2) rfl ?_
  refine TL.lenM (RdM.old h1) Try.underlying32 rfl rfl rfl ?_
  refine TL.bin .i64 (s1.length : Int) 3 rfl rfl rfl rfl (v := .int .i64 (w64 ((s1.length : Int) * 3))) rfl ?_
  refine TL.quo .i64 (w64 ((s1.length : Int) * 3)) 2 (by decide) rfl rfl rfl rfl ?_
  refine TL.assign rfl rfl (v := .int .i64 (w64 (Int.tdiv (w64 ((s1.length : Int) * 3)) 2))) rfl ?_
  refine TL.done ?_
  exact TC.retF (Fin.body (fin1 (.inr rfl) rfl (.tmp rfl) [] rfl ⟨rfl, rfl⟩))

end Go.Proofs.Ytiiljfpbcanphaa.G
