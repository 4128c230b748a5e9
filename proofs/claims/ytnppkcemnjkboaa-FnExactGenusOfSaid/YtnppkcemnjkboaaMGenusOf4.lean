/- Functions of the program, as pure functions. -/
import Derived.Test.YtnppkcemnjkboaaMGenusOf3
import Derived.Test.YtnppkcemnjkboaaProg
/- impl.vertices, as a pure function. -/
set_option linter.unusedVariables false
namespace Go.Proofs.Ytnppkcemnjkboaa.G
open Go Go.Sx Go.Proofs

def impl_vertices.b0 (s1 : List (List Int)) (x1 : Int) : (List Int) × Int → Option (LB ((List Int) × Int)) := fun p => match p with | (p2, x2) => (bif (decide (x2 < ((gt s1 x1).length : Int))) then chk x2 ((gt s1 x1).length) ((G.impl_ends.f (gt (gt s1 x1) x2)).bind (fun p => match p with | (r_3, r_4) => chk (Int.tmod (w64 (x2 + 1)) 3) ((gt s1 x1).length) ((G.impl_ends.f (gt (gt s1 x1) (Int.tmod (w64 (x2 + 1)) 3))).bind (fun p => match p with | (r_5, r_6) => (G.impl_pool_join.f p2 r_4 r_5).bind (fun p3 => some (.next (p3, (w64 (x2 + 1))))))))) else some (.brk (p2, x2)))

def impl_vertices.b1 (s1 : List (List Int)) : (List Int) × Int → Option (LB ((List Int) × Int)) := fun p => match p with | (p1, x1) => (bif (decide (x1 < (s1.length : Int))) then chk x1 s1.length ((loop1 (impl_vertices.b0 s1 x1) (p1, 0)).bind (fun p => match p with | (p2, x2) => some (.next (p2, (w64 (x1 + 1)))))) else some (.brk (p1, x1)))

def impl_vertices.f (s1 : List (List Int)) : Option Int := (G.impl_edgesOf.f s1).bind (fun r_1 => (G.impl_poolOf.f (w64 (2 * r_1))).bind (fun r_2 => (loop1 (impl_vertices.b1 s1) (r_2, 0)).bind (fun p => match p with | (p1, x1) => (G.impl_pool_distinct.f p1).bind (fun r_7 => some r_7))))

def impl_vertices.R (r : Int) (v : Value) (L : List Asn) : Prop := v = .int .i64 r ∧ L = []

set_option maxRecDepth 100000 in
set_option maxHeartbeats 4000000 in
theorem impl_vertices.calls (w : World) (s2 : SV) (ss1 : List SV) (s1 : List (List Int)) (h1 : ReadsM Ei (hp w) s2 ss1 s1) :
    ∀ r, impl_vertices.f s1 = some r → Calls Try.prog 70 #[SV.v s2] w (Ret w (impl_vertices.R r)) := by

  refine calls_T (n := 52) (Γ := [(0, SV.v s2)]) (R := impl_vertices.R) Try.func70 rfl rfl (Nat.le_of_ble_eq_true rfl) ⟨rfl, trivial⟩ ?_
  unfold impl_vertices.f
  refine TC.seq ?_
  refine TC.region ?_
  refine TL.assign rfl rfl (v := .int .i64 0) rfl ?_
  refine TL.done ?_
  refine TC.seq ?_
  refine TC.region ?_
  refine TL.move rfl rfl (v := SV.v s2) rfl ?_
  refine TL.call (R := G.impl_edgesOf.R) Try.call62 rfl rfl rfl (fun w hS => G.impl_edgesOf.calls w s2 ss1 s1 ((RdM.old h1) w hS)) ?_
  rintro r_1 _ _ ⟨rfl, rfl⟩
  refine TL.bin .i64 2 r_1 rfl rfl rfl rfl (v := .int .i64 (w64 (2 * r_1))) rfl ?_
  refine TL.call (R := G.impl_poolOf.R) Try.call104 rfl rfl rfl (fun w hS => G.impl_poolOf.calls w (w64 (2 * r_1))) ?_
  rintro r_2 _ _ ⟨s3, rfl, rfl⟩
  refine TL.assign rfl rfl (v := SV.v s3) rfl ?_
  refine TL.done ?_
  refine TC.seq ?_
  refine TC.seq ?_
  refine TC.region ?_
  refine TL.move rfl rfl (v := SV.v s2) rfl ?_
  refine TL.lenM (RdM.old h1) Try.underlying22 rfl rfl rfl ?_
  refine TL.move rfl rfl (v := .int .i64 0) rfl ?_
  refine TL.done ?_
  refine TC.loop1 (σ := (List Int) × Int) (γ := Unit) (Γ' := (fun p q => match p, q with | (p1, x1), _ => [(3, SV.v s3), (16, SV.v s2), (17, .int .i64 (s1.length : Int)), (18, .int .i64 x1)])) (L' := (fun p q => match p, q with | (p1, x1), _ => [row Ei 3 s3 p1])) (Γb := (fun p q => match p, q with | (p1, x1), _ => [(3, SV.v s3), (16, SV.v s2), (17, .int .i64 (s1.length : Int)), (18, .int .i64 x1)])) (Lb := (fun p q => match p, q with | (p1, x1), _ => [row Ei 3 s3 p1])) ((r_2, 0)) (()) ⟨rfl, rfl, rfl, rfl, trivial⟩ [0] rfl ?_ ?_
  · rintro ⟨p1, x1⟩ _
    refine TC.seq ?_
    refine TC.region ?_
    refine TL.bin .i64 x1 (s1.length : Int) rfl rfl rfl rfl (v := .bool (decide (x1 < (s1.length : Int)))) rfl ?_
    refine TL.done ?_
    refine TC.seq ?_
    refine TC.cond (b := (decide (x1 < (s1.length : Int)))) rfl (fun c1 => ?_) (fun c2 => ?_)
    · refine TC.skip ?_
      refine TC.seq ?_
      refine TC.block (NoEx.loop1 rfl) ?_
      refine TC.seq ?_
      refine TC.region ?_
      refine TL.chk fun h2 => ?_
      refine TL.ixsM x1 x1.toNat (RdM.old h1) h2 Try.underlying22 Try.sizeOf53 rfl rfl rfl rfl (by omega) ?_
      refine TL.loadM2 (RdM.old h1) Try.isAgg53 x1 h2 (by omega) rfl rfl rfl ?_
      refine TL.assign rfl rfl (v := SV.v (gt ss1 x1)) rfl ?_
      refine TL.done ?_
      refine TC.seq ?_
      refine TC.region ?_
      refine TL.move rfl rfl (v := SV.v (gt ss1 x1)) rfl ?_
      refine TL.len (RdM.inn (RdM.old h1) h2) Try.underlying53 rfl rfl rfl ?_
      refine TL.move rfl rfl (v := .int .i64 0) rfl ?_
      refine TL.done ?_
      refine TC.loop1 (σ := (List Int) × Int) (γ := Unit) (Γ' := (fun p q => match p, q with | (p2, x2), _ => [(3, SV.v s3), (5, SV.v (gt ss1 x1)), (16, SV.v s2), (17, .int .i64 (s1.length : Int)), (18, .int .i64 x1), (22, SV.v (gt ss1 x1)), (23, .int .i64 ((gt s1 x1).length : Int)), (24, .int .i64 x2)])) (L' := (fun p q => match p, q with | (p2, x2), _ => [row Ei 3 s3 p2])) (Γb := (fun p q => match p, q with | (p2, x2), _ => [(3, SV.v s3), (5, SV.v (gt ss1 x1)), (16, SV.v s2), (17, .int .i64 (s1.length : Int)), (18, .int .i64 x1), (22, SV.v (gt ss1 x1)), (23, .int .i64 ((gt s1 x1).length : Int)), (24, .int .i64 x2)])) (Lb := (fun p q => match p, q with | (p2, x2), _ => [row Ei 3 s3 p2])) ((p1, 0)) (()) ⟨rfl, rfl, rfl, rfl, rfl, rfl, rfl, rfl, trivial⟩ [0] rfl ?_ ?_
      · rintro ⟨p2, x2⟩ _
        refine TC.seq ?_
        refine TC.region ?_
        refine TL.bin .i64 x2 ((gt s1 x1).length : Int) rfl rfl rfl rfl (v := .bool (decide (x2 < ((gt s1 x1).length : Int)))) rfl ?_
        refine TL.done ?_
        refine TC.seq ?_
        refine TC.cond (b := (decide (x2 < ((gt s1 x1).length : Int)))) rfl (fun c3 => ?_) (fun c4 => ?_)
        · refine TC.skip ?_
          refine TC.seq ?_
          refine TC.block (NoEx.loop1 rfl) ?_
          refine TC.seq ?_
          refine TC.region ?_
          refine TL.move rfl rfl (v := .int .i64 x2) rfl ?_
          refine TL.chk fun h3 => ?_
          refine TL.ixs x2 x2.toNat (RdM.inn (RdM.old h1) h2) h3 Try.underlying53 Try.sizeOf2 rfl rfl rfl rfl (by omega) ?_
          refine TL.loadE (RdM.inn (RdM.old h1) h2) Try.isAgg2 x2.toNat 0 (gt_spec h3) (v := .int .i64 (gt (gt s1 x1) x2)) rfl (by simp only [show Ei.sz = 1 from rfl]; omega) rfl rfl rfl ?_
          refine TL.assign rfl rfl (v := .int .i64 x2) rfl ?_
          refine TL.assign rfl rfl (v := .int .i64 (gt (gt s1 x1) x2)) rfl ?_
          refine TL.done ?_
          refine TC.seq ?_
          refine TC.region ?_
          refine TL.move rfl rfl (v := .int .i64 (gt (gt s1 x1) x2)) rfl ?_
          refine TL.call (R := G.impl_ends.R) Try.call108 rfl rfl rfl (fun w hS => G.impl_ends.calls w (gt (gt s1 x1) x2)) ?_
          rintro ⟨r_3, r_4⟩ _ _ ⟨rfl, rfl⟩
          refine TL.move rfl rfl (v := .tuple #[.int .i64 r_3, .int .i64 r_4]) rfl ?_
          refine TL.extract rfl rfl rfl (v := .int .i64 r_3) rfl ?_
          refine TL.extract rfl rfl rfl (v := .int .i64 r_4) rfl ?_
          refine TL.assign rfl rfl (v := .int .i64 r_3) rfl ?_
          refine TL.assign rfl rfl (v := .int .i64 r_4) rfl ?_
          refine TL.done ?_
          refine TC.seq ?_
          refine TC.region ?_
          refine TL.move rfl rfl (v := SV.v (gt ss1 x1)) rfl ?_
          refine TL.move rfl rfl (v := .int .i64 x2) rfl ?_
          refine TL.bin .i64 x2 1 rfl rfl rfl rfl (v := .int .i64 (w64 (x2 + 1))) rfl ?_
          refine TL.rem .i64 (w64 (x2 + 1)) 3 (by decide) rfl rfl rfl rfl ?_
          refine TL.chk fun h4 => ?_
          refine TL.ixs (Int.tmod (w64 (x2 + 1)) 3) ((Int.tmod (w64 (x2 + 1)) 3).toNat) (RdM.inn (RdM.old h1) h2) h4 Try.underlying53 Try.sizeOf2 rfl rfl rfl rfl (by omega) ?_
          refine TL.loadE (RdM.inn (RdM.old h1) h2) Try.isAgg2 (Int.tmod (w64 (x2 + 1)) 3).toNat 0 (gt_spec h4) (v := .int .i64 (gt (gt s1 x1) (Int.tmod (w64 (x2 + 1)) 3))) rfl (by simp only [show Ei.sz = 1 from rfl]; omega) rfl rfl rfl ?_
          refine TL.call (R := G.impl_ends.R) Try.call108 rfl rfl rfl (fun w hS => G.impl_ends.calls w (gt (gt s1 x1) (Int.tmod (w64 (x2 + 1)) 3))) ?_
          rintro ⟨r_5, r_6⟩ _ _ ⟨rfl, rfl⟩
          refine TL.move rfl rfl (v := .tuple #[.int .i64 r_5, .int .i64 r_6]) rfl ?_
          refine TL.extract rfl rfl rfl (v := .int .i64 r_5) rfl ?_
          refine TL.extract rfl rfl rfl (v := .int .i64 r_6) rfl ?_
          refine TL.assign rfl rfl (v := .int .i64 r_5) rfl ?_
          refine TL.assign rfl rfl (v := .int .i64 r_6) rfl ?_
          refine TL.done ?_
          refine TC.region ?_
          refine TL.move rfl rfl (v := SV.v s3) rfl ?_
          refine TL.move rfl rfl (v := .int .i64 r_4) rfl ?_
          refine TL.move rfl rfl (v := .int .i64 r_5) rfl ?_
          refine TL.callX (R := G.impl_pool_join.R s3) [0] [row Ei 3 s3 p2] [] rfl Try.call105 rfl rfl rfl (fun w I_ hle hB hS => G.impl_pool_join.calls _ I_ w s3 p2 r_4 r_5 hS) ?_
          rintro p3 _ _ ⟨rfl, rfl⟩
          refine TL.done ?_
          refine TC.region ?_
          refine TL.bin .i64 x2 1 rfl rfl rfl rfl (v := .int .i64 (w64 (x2 + 1))) rfl ?_
          refine TL.move rfl rfl (v := .int .i64 (w64 (x2 + 1))) rfl ?_
          refine TL.done ?_
          exact TC.next1 ((p3, (w64 (x2 + 1)))) (()) ⟨rfl, rfl, rfl, rfl, rfl, rfl, rfl, rfl, trivial⟩ [0] rfl
        · exact TC.brk1 ((p2, x2)) (()) ⟨rfl, rfl, rfl, rfl, rfl, rfl, rfl, rfl, trivial⟩ [0] rfl
      · rintro ⟨p2, x2⟩ _
        refine TC.region ?_
        refine TL.bin .i64 x1 1 rfl rfl rfl rfl (v := .int .i64 (w64 (x1 + 1))) rfl ?_
        refine TL.move rfl rfl (v := .int .i64 (w64 (x1 + 1))) rfl ?_
        refine TL.done ?_
        exact TC.next1 ((p2, (w64 (x1 + 1)))) (()) ⟨rfl, rfl, rfl, rfl, trivial⟩ [0] rfl
    · exact TC.brk1 ((p1, x1)) (()) ⟨rfl, rfl, rfl, rfl, trivial⟩ [0] rfl
  · rintro ⟨p1, x1⟩ _
    refine TC.seq ?_
    refine TC.region ?_
    refine TL.move rfl rfl (v := SV.v s3) rfl ?_
    refine TL.call (R := G.impl_pool_distinct.R) Try.call106 rfl rfl rfl (fun w hS => G.impl_pool_distinct.calls w s3 p1 ((Rd.row 0 rfl) w hS)) ?_
    rintro r_7 _ _ ⟨rfl, rfl⟩
    refine TL.assign rfl rfl (v := .int .i64 r_7) rfl ?_
    refine TL.done ?_
    exact TC.retF (Fin.body (fin1 (.inr rfl) rfl (.tmp rfl) [] rfl ⟨rfl, rfl⟩))

end Go.Proofs.Ytnppkcemnjkboaa.G

/- impl.eulerOf, as a pure function. -/
set_option linter.unusedVariables false
namespace Go.Proofs.Ytnppkcemnjkboaa.G
open Go Go.Sx Go.Proofs

def impl_eulerOf.f (s1 : List (List Int)) : Option Int := (G.impl_vertices.f s1).bind (fun r_1 => (G.impl_edgesOf.f s1).bind (fun r_2 => some (w64 ((w64 (r_1 - r_2)) + (s1.length : Int)))))

def impl_eulerOf.R (r : Int) (v : Value) (L : List Asn) : Prop := v = .int .i64 r ∧ L = []

set_option maxRecDepth 100000 in
set_option maxHeartbeats 4000000 in
theorem impl_eulerOf.calls (w : World) (s2 : SV) (ss1 : List SV) (s1 : List (List Int)) (h1 : ReadsM Ei (hp w) s2 ss1 s1) :
    ∀ r, impl_eulerOf.f s1 = some r → Calls Try.prog 72 #[SV.v s2] w (Ret w (impl_eulerOf.R r)) := by

  refine calls_T (n := 11) (Γ := [(0, SV.v s2)]) (R := impl_eulerOf.R) Try.func72 rfl rfl (Nat.le_of_ble_eq_true rfl) ⟨rfl, trivial⟩ ?_
  unfold impl_eulerOf.f
  refine TC.seq ?_
  refine TC.region ?_
  refine TL.assign rfl rfl (v := .int .i64 0) rfl ?_
  refine TL.done ?_
  refine TC.seq ?_
  refine TC.region ?_
  refine TL.move rfl rfl (v := SV.v s2) rfl ?_
  refine TL.call (R := G.impl_vertices.R) Try.call70 rfl rfl rfl (fun w hS => G.impl_vertices.calls w s2 ss1 s1 ((RdM.old h1) w hS)) ?_
  rintro r_1 _ _ ⟨rfl, rfl⟩
  refine TL.move rfl rfl (v := SV.v s2) rfl ?_
  refine TL.call (R := G.impl_edgesOf.R) Try.call62 rfl rfl rfl (fun w hS => G.impl_edgesOf.calls w s2 ss1 s1 ((RdM.old h1) w hS)) ?_
  rintro r_2 _ _ ⟨rfl, rfl⟩
  refine TL.bin .i64 r_1 r_2 rfl rfl rfl rfl (v := .int .i64 (w64 (r_1 - r_2))) rfl ?_
  refine TL.move rfl rfl (v := SV.v s2) rfl ?_
  refine TL.lenM (RdM.old h1) Try.underlying22 rfl rfl rfl ?_
  refine TL.bin .i64 (w64 (r_1 - r_2)) (s1.length : Int) rfl rfl rfl rfl (v := .int .i64 (w64 ((w64 (r_1 - r_2)) + (s1.length : Int)))) rfl ?_
  refine TL.assign rfl rfl (v := .int .i64 (w64 ((w64 (r_1 - r_2)) + (s1.length : Int)))) rfl ?_
  refine TL.done ?_
  exact TC.retF (Fin.body (fin1 (.inr rfl) rfl (.tmp rfl) [] rfl ⟨rfl, rfl⟩))

end Go.Proofs.Ytnppkcemnjkboaa.G

/- impl.GenusOf, as a pure function. -/
set_option linter.unusedVariables false
namespace Go.Proofs.Ytnppkcemnjkboaa.G
open Go Go.Sx Go.Proofs

def impl_GenusOf.f (s1 : List (List Int)) : Option (Int × Int) := (G.impl_IsSurface.f s1).bind (fun r_1 => (bif (!r_1) then some (0, 1) else (G.impl_oriented.f s1).bind (fun r_2 => (bif (!r_2) then some true else (G.impl_pieces.f s1).bind (fun r_3 => some (decide (r_3 > 1)))).bind (fun b_1 => (bif b_1 then some (0, 5) else (G.impl_eulerOf.f s1).bind (fun r_4 => some ((w64 (1 - (w64 (Int.tdiv r_4 2)))), 0)))))))

def impl_GenusOf.R (r : Int × Int) (v : Value) (L : List Asn) : Prop := v = .tuple #[.int .i64 r.1, .int .i64 r.2] ∧ L = []

set_option maxRecDepth 100000 in
set_option maxHeartbeats 4000000 in
theorem impl_GenusOf.calls (w : World) (s2 : SV) (ss1 : List SV) (s1 : List (List Int)) (h1 : ReadsM Ei (hp w) s2 ss1 s1) :
    ∀ r, impl_GenusOf.f s1 = some r → Calls Try.prog 33 #[SV.v s2] w (Ret w (impl_GenusOf.R r)) := by

  refine calls_T (n := 21) (Γ := [(0, SV.v s2)]) (R := impl_GenusOf.R) Try.func33 rfl rfl (Nat.le_of_ble_eq_true rfl) ⟨rfl, trivial⟩ ?_
  unfold impl_GenusOf.f
  refine TC.seq ?_
  refine TC.region ?_
  refine TL.assign rfl rfl (v := .int .i64 0) rfl ?_
  refine TL.assign rfl rfl (v := .int .i64 0) rfl ?_
  refine TL.done ?_
  refine TC.seq ?_
  refine TC.block NoEx.body ?_
  refine TC.seq ?_
  refine TC.region ?_
  refine TL.move rfl rfl (v := SV.v s2) rfl ?_
  refine TL.call (R := G.impl_IsSurface.R) Try.call37 rfl rfl rfl (fun w hS => G.impl_IsSurface.calls w s2 ss1 s1 ((RdM.old h1) w hS)) ?_
  rintro r_1 _ _ ⟨rfl, rfl⟩
  refine TL.not r_1 rfl rfl rfl ?_
  refine TL.assign rfl rfl (v := .bool (!r_1)) rfl ?_
  refine TL.done ?_
  refine TC.cond (b := (!r_1)) rfl (fun c1 => ?_) (fun c2 => ?_)
  · refine TC.seq ?_
    refine TC.region ?_
    refine TL.assign rfl rfl (v := .int .i64 0) rfl ?_
    refine TL.assign rfl rfl (v := .int .i64 1) rfl ?_
    refine TL.done ?_
    exact TC.retF (Fin.body (fin2 (.inr rfl) rfl (.tmp rfl) (.tmp rfl) [] rfl ⟨rfl, rfl⟩))
  · refine TC.seq ?_
    refine TC.region ?_
    refine TL.move rfl rfl (v := SV.v s2) rfl ?_
    refine TL.call (R := G.impl_oriented.R) Try.call56 rfl rfl rfl (fun w hS => G.impl_oriented.calls w s2 ss1 s1 ((RdM.old h1) w hS)) ?_
    rintro r_2 _ _ ⟨rfl, rfl⟩
    refine TL.not r_2 rfl rfl rfl ?_
    refine TL.move rfl rfl (v := .bool (!r_2)) rfl ?_
    refine TL.cutJ (σ := Bool) (γ := Unit) (Γ' := fun b_1 _ => [(16, .bool b_1), (0, SV.v s2), (2, .int .i64 0), (3, .int .i64 0), (5, SV.v s2), (6, .bool r_1), (7, .bool (!r_1)), (4, .bool (!r_1)), (9, SV.v s2), (10, .bool r_2), (11, .bool (!r_2)), (12, .bool (!r_2))]) (L' := fun _ _ => []) 4 ?_ ?_
    · refine TL.ifb (t := 12) (b := (!r_2)) rfl (fun c3 => ?_) (fun c4 => ?_)
      · refine TL.skip rfl rfl (by decide) ?_
        refine TL.skip rfl rfl (by decide) ?_
        refine TL.skip rfl rfl (by decide) ?_
        refine TL.pick rfl rfl (b := true) rfl (r := .bool true) rfl ?_
        refine TL.done ?_
        exact TC.nrm (true) () ⟨rfl, rfl, rfl, rfl, rfl, rfl, rfl, rfl, rfl, rfl, rfl, (by rw [c3]; rfl), trivial⟩ [] rfl
      · refine TL.move rfl rfl (v := SV.v s2) rfl ?_
        refine TL.call (R := G.impl_pieces.R) Try.call68 rfl rfl rfl (fun w hS => G.impl_pieces.calls w s2 ss1 s1 ((RdM.old h1) w hS)) ?_
        rintro r_3 _ _ ⟨rfl, rfl⟩
        refine TL.bin .i64 r_3 1 rfl rfl rfl rfl (v := .bool (decide (r_3 > 1))) rfl ?_
        refine TL.pick rfl rfl (b := false) rfl (r := .bool (decide (r_3 > 1))) rfl ?_
        refine TL.done ?_
        exact TC.nrm ((decide (r_3 > 1))) () ⟨rfl, rfl, rfl, rfl, rfl, rfl, rfl, rfl, rfl, rfl, rfl, (by rw [c4]; rfl), trivial⟩ [] rfl
    · rintro b_1 _
      refine TL.assign rfl rfl (v := .bool b_1) rfl ?_
      refine TL.done ?_
      refine TC.cond (b := b_1) rfl (fun c5 => ?_) (fun c6 => ?_)
      · refine TC.seq ?_
        refine TC.region ?_
        refine TL.assign rfl rfl (v := .int .i64 0) rfl ?_
        refine TL.assign rfl rfl (v := .int .i64 5) rfl ?_
        refine TL.done ?_
        exact TC.retF (Fin.body (fin2 (.inr rfl) rfl (.tmp rfl) (.tmp rfl) [] rfl ⟨rfl, rfl⟩))
      · refine TC.skip ?_
        refine TC.seq ?_
        refine TC.region ?_
        refine TL.move rfl rfl (v := SV.v s2) rfl ?_
        refine TL.call (R := G.impl_eulerOf.R) Try.call72 rfl rfl rfl (fun w hS => G.impl_eulerOf.calls w s2 ss1 s1 ((RdM.old h1) w hS)) ?_
        rintro r_4 _ _ ⟨rfl, rfl⟩
        refine TL.quo .i64 r_4 2 (by decide) rfl rfl rfl rfl ?_
        refine TL.bin .i64 1 (w64 (Int.tdiv r_4 2)) rfl rfl rfl rfl (v := .int .i64 (w64 (1 - (w64 (Int.tdiv r_4 2))))) rfl ?_
        refine TL.assign rfl rfl (v := .int .i64 (w64 (1 - (w64 (Int.tdiv r_4 2))))) rfl ?_
        refine TL.assign rfl rfl (v := .int .i64 0) rfl ?_
        refine TL.done ?_
        exact TC.retF (Fin.body (fin2 (.inr rfl) rfl (.tmp rfl) (.tmp rfl) [] rfl ⟨rfl, rfl⟩))

end Go.Proofs.Ytnppkcemnjkboaa.G

/- laws.FnExactGenusOf, as a pure function. -/
set_option linter.unusedVariables false
namespace Go.Proofs.Ytnppkcemnjkboaa.G
open Go Go.Sx Go.Proofs

def laws_FnExactGenusOf.f (aS1 : List (List Int)) : Option Bool := (G.laws_szInt64SS.f aS1 1048576).bind (fun r_1 => (bif (decide (r_1 < 0)) then some true else (G.laws_toInt64SS.f aS1).bind (fun r_2 => (G.spec_GenusOf.f r_2).bind (fun p => match p with | (r_3, r_4) => (G.laws_toInt64SS.f aS1).bind (fun r_5 => (G.impl_GenusOf.f r_5).bind (fun p => match p with | (r_6, r_7) => (bif ((r_6 != r_3) || (r_7 != r_4)) then some false else (G.laws_toInt64SS.f aS1).bind (fun r_8 => (G.laws_eqInt64SS.f r_5 r_8).bind (fun r_9 => (bif (!r_9) then some false else some true))))))))))

def laws_FnExactGenusOf.R (r : Bool) (v : Value) (L : List Asn) : Prop := v = .bool r ∧ L = []

set_option maxRecDepth 100000 in
set_option maxHeartbeats 4000000 in
theorem laws_FnExactGenusOf.calls (w : World) (s1 : SV) (ss1 : List SV) (aS1 : List (List Int)) (h1 : ReadsM Ei (hp w) s1 ss1 aS1) :
    ∀ r, laws_FnExactGenusOf.f aS1 = some r → Calls Try.prog 10 #[SV.v s1] w (Ret w (laws_FnExactGenusOf.R r)) := by

  refine calls_T (n := 40) (Γ := [(0, SV.v s1)]) (R := laws_FnExactGenusOf.R) Try.func10 rfl rfl (Nat.le_of_ble_eq_true rfl) ⟨rfl, trivial⟩ ?_
  unfold laws_FnExactGenusOf.f
  refine TC.seq ?_
  refine TC.region ?_
  refine TL.assign rfl rfl (v := .bool false) rfl ?_
  refine TL.done ?_
  refine TC.seq ?_
  refine TC.region ?_
  refine TL.assign rfl rfl (v := .int .i64 1048576) rfl ?_
  refine TL.done ?_
  refine TC.seq ?_
  refine TC.region ?_
  refine TL.move rfl rfl (v := SV.v s1) rfl ?_
  refine TL.move rfl rfl (v := .int .i64 1048576) rfl ?_
  refine TL.call (R := G.laws_szInt64SS.R) Try.call13 rfl rfl rfl (fun w hS => G.laws_szInt64SS.calls w s1 ss1 aS1 1048576 ((RdM.old h1) w hS)) ?_
  rintro r_1 _ _ ⟨rfl, rfl⟩
  refine TL.assign rfl rfl (v := .int .i64 r_1) rfl ?_
  refine TL.done ?_
  refine TC.seq ?_
  refine TC.seq ?_
  refine TC.region ?_
  refine TL.move rfl rfl (v := .int .i64 r_1) rfl ?_
  refine TL.bin .i64 r_1 0 rfl rfl rfl rfl (v := .bool (decide (r_1 < 0))) rfl ?_
  refine TL.done ?_
  refine TC.cond (b := (decide (r_1 < 0))) rfl (fun c1 => ?_) (fun c2 => ?_)
  · refine TC.seq ?_
    refine TC.region ?_
    refine TL.assign rfl rfl (v := .bool true) rfl ?_
    refine TL.done ?_
    exact TC.retF (Fin.body (fin1 (.inr rfl) rfl (.tmp rfl) [] rfl ⟨rfl, rfl⟩))
  · refine TC.skip ?_
    refine TC.seq ?_
    refine TC.region ?_
    refine TL.move rfl rfl (v := SV.v s1) rfl ?_
    refine TL.call (R := G.laws_toInt64SS.R) Try.call15 rfl rfl rfl (fun w hS => G.laws_toInt64SS.calls w s1 ss1 aS1 ((RdM.old h1) w hS)) ?_
    rintro r_2 _ _ ⟨s2, ss2, rfl, rfl⟩
    refine TL.call (R := G.spec_GenusOf.R) Try.call32 rfl rfl rfl (fun w hS => G.spec_GenusOf.calls w s2 ss2 r_2 ((RdM.mat 0 rfl) w hS)) ?_
    rintro ⟨r_3, r_4⟩ _ _ ⟨rfl, rfl⟩
    refine TL.move rfl rfl (v := .tuple #[.int .i64 r_3, .int .i64 r_4]) rfl ?_
    refine TL.extract rfl rfl rfl (v := .int .i64 r_3) rfl ?_
    refine TL.extract rfl rfl rfl (v := .int .i64 r_4) rfl ?_
    refine TL.assign rfl rfl (v := .int .i64 r_3) rfl ?_
    refine TL.assign rfl rfl (v := .int .i64 r_4) rfl ?_
    refine TL.done ?_
    refine TC.seq ?_
    refine TC.region ?_
    refine TL.move rfl rfl (v := SV.v s1) rfl ?_
    refine TL.call (R := G.laws_toInt64SS.R) Try.call15 rfl rfl rfl (fun w hS => G.laws_toInt64SS.calls w s1 ss1 aS1 ((RdM.old h1) w hS)) ?_
    rintro r_5 _ _ ⟨s3, ss3, rfl, rfl⟩
    refine TL.assign rfl rfl (v := SV.v s3) rfl ?_
    refine TL.done ?_
    refine TC.seq ?_
    refine TC.region ?_
    refine TL.move rfl rfl (v := SV.v s3) rfl ?_
    refine TL.call (R := G.impl_GenusOf.R) Try.call33 rfl rfl rfl (fun w hS => G.impl_GenusOf.calls w s3 ss3 r_5 ((RdM.mat 0 rfl) w hS)) ?_
    rintro ⟨r_6, r_7⟩ _ _ ⟨rfl, rfl⟩
    refine TL.move rfl rfl (v := .tuple #[.int .i64 r_6, .int .i64 r_7]) rfl ?_
    refine TL.extract rfl rfl rfl (v := .int .i64 r_6) rfl ?_
    refine TL.extract rfl rfl rfl (v := .int .i64 r_7) rfl ?_
    refine TL.assign rfl rfl (v := .int .i64 r_6) rfl ?_
    refine TL.assign rfl rfl (v := .int .i64 r_7) rfl ?_
    refine TL.done ?_
    refine TC.seq ?_
    refine TC.seq ?_
    refine TC.region ?_
    refine TL.move rfl rfl (v := .int .i64 r_6) rfl ?_
    refine TL.move rfl rfl (v := .int .i64 r_3) rfl ?_
    refine TL.bin .i64 r_6 r_3 rfl rfl rfl rfl (v := .bool (r_6 != r_3)) rfl ?_
    refine TL.move rfl rfl (v := .bool (r_6 != r_3)) rfl ?_
    refine TL.cutU 4 [(34, .bool ((r_6 != r_3) || (r_7 != r_4))), (0, SV.v s1), (2, .bool false), (3, .int .i64 r_1), (9, SV.v s1), (10, .int .i64 1048576), (11, .int .i64 r_1), (12, .int .i64 r_1), (13, .bool (decide (r_1 < 0))), (15, SV.v s1), (16, SV.v s2), (17, .tuple #[.int .i64 r_3, .int .i64 r_4]), (14, .tuple #[.int .i64 r_3, .int .i64 r_4]), (18, .int .i64 r_3), (19, .int .i64 r_4), (4, .int .i64 r_3), (5, .int .i64 r_4), (20, SV.v s1), (21, SV.v s3), (6, SV.v s3), (23, SV.v s3), (24, .tuple #[.int .i64 r_6, .int .i64 r_7]), (22, .tuple #[.int .i64 r_6, .int .i64 r_7]), (25, .int .i64 r_6), (26, .int .i64 r_7), (7, .int .i64 r_6), (8, .int .i64 r_7), (27, .int .i64 r_6), (28, .int .i64 r_3), (29, .bool (r_6 != r_3)), (30, .bool (r_6 != r_3))] [mat Ei 2 53 s3 ss3 r_5, mat Ei 2 53 s2 ss2 r_2] ?_ ?_
    · refine TL.cases (t := 30) (b := (r_6 != r_3)) rfl (fun c3 => ?_) (fun c4 => ?_)
      · refine TL.skip rfl rfl (by decide) ?_
        refine TL.skip rfl rfl (by decide) ?_
        refine TL.skip rfl rfl (by decide) ?_
        refine TL.pick rfl rfl (b := true) rfl (r := .bool true) rfl ?_
        refine TL.done ?_
        exact TC.nrm () () ⟨(by rw [c3]; rfl), rfl, rfl, rfl, rfl, rfl, rfl, rfl, rfl, rfl, rfl, rfl, rfl, rfl, rfl, rfl, rfl, rfl, rfl, rfl, rfl, rfl, rfl, rfl, rfl, rfl, rfl, rfl, rfl, rfl, (by rw [c3]; rfl), trivial⟩ [0, 0] rfl
      · refine TL.move rfl rfl (v := .int .i64 r_7) rfl ?_
        refine TL.move rfl rfl (v := .int .i64 r_4) rfl ?_
        refine TL.bin .i64 r_7 r_4 rfl rfl rfl rfl (v := .bool (r_7 != r_4)) rfl ?_
        refine TL.pick rfl rfl (b := false) rfl (r := .bool (r_7 != r_4)) rfl ?_
        refine TL.done ?_
        exact TC.nrm () () ⟨(by rw [c4]; rfl), rfl, rfl, rfl, rfl, rfl, rfl, rfl, rfl, rfl, rfl, rfl, rfl, rfl, rfl, rfl, rfl, rfl, rfl, rfl, rfl, rfl, rfl, rfl, rfl, rfl, rfl, rfl, rfl, rfl, (by rw [c4]; rfl), trivial⟩ [0, 0] rfl
    · refine TL.done ?_
      refine TC.cond (b := ((r_6 != r_3) || (r_7 != r_4))) rfl (fun c5 => ?_) (fun c6 => ?_)
      · refine TC.seq ?_
        refine TC.region ?_
        refine TL.assign rfl rfl (v := .bool false) rfl ?_
        refine TL.done ?_
        exact TC.retF (Fin.body (fin1 (.inr rfl) rfl (.tmp rfl) [] rfl ⟨rfl, rfl⟩))
      · refine TC.skip ?_
        refine TC.seq ?_
        refine TC.seq ?_
        refine TC.region ?_
        refine TL.move rfl rfl (v := SV.v s3) rfl ?_
        refine TL.move rfl rfl (v := SV.v s1) rfl ?_
        refine TL.call (R := G.laws_toInt64SS.R) Try.call15 rfl rfl rfl (fun w hS => G.laws_toInt64SS.calls w s1 ss1 aS1 ((RdM.old h1) w hS)) ?_
        rintro r_8 _ _ ⟨s4, ss4, rfl, rfl⟩
        refine TL.call (R := G.laws_eqInt64SS.R) Try.call17 rfl rfl rfl (fun w hS => G.laws_eqInt64SS.calls w s3 ss3 r_5 s4 ss4 r_8 ((RdM.mat 1 rfl) w hS) ((RdM.mat 0 rfl) w hS)) ?_
        rintro r_9 _ _ ⟨rfl, rfl⟩
        refine TL.not r_9 rfl rfl rfl ?_
        refine TL.done ?_
        refine TC.cond (b := (!r_9)) rfl (fun c7 => ?_) (fun c8 => ?_)
        · refine TC.seq ?_
          refine TC.region ?_
          refine TL.assign rfl rfl (v := .bool false) rfl ?_
          refine TL.done ?_
          exact TC.retF (Fin.body (fin1 (.inr rfl) rfl (.tmp rfl) [] rfl ⟨rfl, rfl⟩))
        · refine TC.skip ?_
          refine TC.seq ?_
          refine TC.region ?_
          refine TL.assign rfl rfl (v := .bool true) rfl ?_
          refine TL.done ?_
          exact TC.retF (Fin.body (fin1 (.inr rfl) rfl (.tmp rfl) [] rfl ⟨rfl, rfl⟩))

end Go.Proofs.Ytnppkcemnjkboaa.G

/- laws.markInt64S, as a pure function. -/
set_option linter.unusedVariables false
namespace Go.Proofs.Ytnppkcemnjkboaa.G
open Go Go.Sx Go.Proofs

def laws_markInt64S.b0 : (List Int) × Int × Int → Option (LB ((List Int) × Int × Int)) := fun p => match p with | (a_2, k_2, i1) => (bif (decide (i1 < (a_2.length : Int))) then chk i1 a_2.length (some (.next ((a_2.set i1.toNat k_2), (w64 (k_2 + 1)), (w64 (i1 + 1))))) else some (.brk (a_2, k_2, i1)))

def laws_markInt64S.f (a_1 : List Int) (k_1 : Int) : Option (Int × (List Int)) := (loop1 (laws_markInt64S.b0) (a_1, k_1, 0)).bind (fun p => match p with | (a_2, k_2, i1) => some (k_2, a_2))

def laws_markInt64S.R (s1 : SV) (r : Int × (List Int)) (v : Value) (L : List Asn) : Prop := v = .int .i64 r.1 ∧ L = [row Ei 2 s1 r.2]

set_option maxRecDepth 100000 in
set_option maxHeartbeats 4000000 in
theorem laws_markInt64S.calls (w0 : World) (I : Hp) (w : World) (s1 : SV) (a_1 : List Int) (k_1 : Int) (hS : St w0 I [row Ei 2 s1 a_1] w) :
    ∀ r, laws_markInt64S.f a_1 k_1 = some r → Calls Try.prog 63 #[SV.v s1, .int .i64 k_1] w (RetM w0 I ((laws_markInt64S.R s1) r)) := by

  refine calls_TM (w0 := w0) (I := I) (L := [row Ei 2 s1 a_1]) (n := 19) (Γ := [(0, SV.v s1), (1, .int .i64 k_1)]) (R := (laws_markInt64S.R s1)) Try.func63 rfl rfl (Nat.le_of_ble_eq_true rfl) ⟨rfl, rfl, trivial⟩ ?_ w hS
  unfold laws_markInt64S.f
  refine TC.seq ?_
  refine TC.region ?_
  refine TL.assign rfl rfl (v := .int .i64 0) rfl ?_
  refine TL.done ?_
  refine TC.seq ?_
  refine TC.seq ?_
  refine TC.region ?_
  refine TL.assign rfl rfl (v := .int .i64 0) rfl ?_
  refine TL.done ?_
  refine TC.loop1 (σ := (List Int) × Int × Int) (γ := Unit) (Γ' := (fun p q => match p, q with | (a_2, k_2, i1), _ => [(0, SV.v s1), (1, .int .i64 k_2), (5, .int .i64 i1)])) (L' := (fun p q => match p, q with | (a_2, k_2, i1), _ => [row Ei 2 s1 a_2])) (Γb := (fun p q => match p, q with | (a_2, k_2, i1), _ => [(0, SV.v s1), (1, .int .i64 k_2), (5, .int .i64 i1)])) (Lb := (fun p q => match p, q with | (a_2, k_2, i1), _ => [row Ei 2 s1 a_2])) ((a_1, k_1, 0)) (()) ⟨rfl, rfl, rfl, trivial⟩ [0] rfl ?_ ?_
  · rintro ⟨a_2, k_2, i1⟩ _
    refine TC.seq ?_
    refine TC.seq ?_
    refine TC.region ?_
    refine TL.move rfl rfl (v := .int .i64 i1) rfl ?_
    refine TL.move rfl rfl (v := SV.v s1) rfl ?_
    refine TL.len (Rd.row 0 rfl) Try.underlying53 rfl rfl rfl ?_
    refine TL.bin .i64 i1 (a_2.length : Int) rfl rfl rfl rfl (v := .bool (decide (i1 < (a_2.length : Int)))) rfl ?_
    refine TL.done ?_
    refine TC.cond (b := (decide (i1 < (a_2.length : Int)))) rfl (fun c1 => ?_) (fun c2 => ?_)
    · refine TC.skip ?_
      refine TC.seq ?_
      refine TC.block (NoEx.loop1 rfl) ?_
      refine TC.seq ?_
      refine TC.region ?_
      refine TL.move rfl rfl (v := SV.v s1) rfl ?_
      refine TL.move rfl rfl (v := .int .i64 i1) rfl ?_
      refine TL.move rfl rfl (v := .int .i64 k_2) rfl ?_
      refine TL.chk fun h1 => ?_
      refine TL.ixs i1 i1.toNat (Rd.row 0 rfl) h1 Try.underlying53 Try.sizeOf2 rfl rfl rfl rfl (by omega) ?_
      refine TL.stE 0 (i1.toNat) k_2 (v := .int .i64 k_2) rfl Try.sizeOf2 rfl rfl rfl (by have h_ := h1; omega) (by simp only [show Ei.sz = 1 from rfl]; omega) rfl rfl rfl ?_
      refine TL.done ?_
      refine TC.region ?_
      refine TL.move rfl rfl (v := .int .i64 k_2) rfl ?_
      refine TL.bin .i64 k_2 1 rfl rfl rfl rfl (v := .int .i64 (w64 (k_2 + 1))) rfl ?_
      refine TL.assign rfl rfl (v := .int .i64 (w64 (k_2 + 1))) rfl ?_
      refine TL.done ?_
      refine TC.region ?_
      refine TL.move rfl rfl (v := .int .i64 i1) rfl ?_
      refine TL.bin .i64 i1 1 rfl rfl rfl rfl (v := .int .i64 (w64 (i1 + 1))) rfl ?_
      refine TL.assign rfl rfl (v := .int .i64 (w64 (i1 + 1))) rfl ?_
      refine TL.done ?_
      exact TC.next1 (((a_2.set i1.toNat k_2), (w64 (k_2 + 1)), (w64 (i1 + 1)))) (()) ⟨rfl, rfl, rfl, trivial⟩ [0] rfl
    · exact TC.brk1 ((a_2, k_2, i1)) (()) ⟨rfl, rfl, rfl, trivial⟩ [0] rfl
  · rintro ⟨a_2, k_2, i1⟩ _
    refine TC.seq ?_
    refine TC.region ?_
    refine TL.move rfl rfl (v := .int .i64 k_2) rfl ?_
    refine TL.assign rfl rfl (v := .int .i64 k_2) rfl ?_
    refine TL.done ?_
    exact TC.retF (Fin.body (fin1 (.inr rfl) rfl (.tmp rfl) [0] rfl ⟨rfl, rfl⟩))

end Go.Proofs.Ytnppkcemnjkboaa.G

/- laws.heldInt64S, as a pure function. -/
set_option linter.unusedVariables false
namespace Go.Proofs.Ytnppkcemnjkboaa.G
open Go Go.Sx Go.Proofs

def laws_heldInt64S.b0 (a_1 : List Int) : Int × Int → Option (LR (Int × Int) Int) := fun p => match p with | (k_2, i1) => (bif (decide (i1 < (a_1.length : Int))) then chk i1 a_1.length ((bif ((gt a_1 i1) != k_2) then some (.ret ((-1))) else some (.next ((w64 (k_2 + 1)), (w64 (i1 + 1)))))) else some (.brk (k_2, i1)))

def laws_heldInt64S.f (a_1 : List Int) (k_1 : Int) : Option Int := (loop (laws_heldInt64S.b0 a_1) (k_1, 0)).bind (ln (fun p => match p with | (k_2, i1) => some k_2))

def laws_heldInt64S.R (r : Int) (v : Value) (L : List Asn) : Prop := v = .int .i64 r ∧ L = []

set_option maxRecDepth 100000 in
set_option maxHeartbeats 4000000 in
theorem laws_heldInt64S.calls (w : World) (s1 : SV) (a_1 : List Int) (k_1 : Int) (h1 : Reads Ei (hp w) s1 a_1) :
    ∀ r, laws_heldInt64S.f a_1 k_1 = some r → Calls Try.prog 64 #[SV.v s1, .int .i64 k_1] w (Ret w (laws_heldInt64S.R r)) := by

  refine calls_T (n := 21) (Γ := [(0, SV.v s1), (1, .int .i64 k_1)]) (R := laws_heldInt64S.R) Try.func64 rfl rfl (Nat.le_of_ble_eq_true rfl) ⟨rfl, rfl, trivial⟩ ?_
  unfold laws_heldInt64S.f
  refine TC.seq ?_
  refine TC.region ?_
  refine TL.assign rfl rfl (v := .int .i64 0) rfl ?_
  refine TL.done ?_
  refine TC.seq ?_
  refine TC.seq ?_
  refine TC.region ?_
  refine TL.assign rfl rfl (v := .int .i64 0) rfl ?_
  refine TL.done ?_
  refine TC.loopK (σ := Int × Int) (γ := Unit) (Γ' := (fun p q => match p, q with | (k_2, i1), _ => [(0, SV.v s1), (1, .int .i64 k_2), (5, .int .i64 i1)])) (L' := (fun p q => match p, q with | (k_2, i1), _ => [])) (Γb := (fun p q => match p, q with | (k_2, i1), _ => [(0, SV.v s1), (1, .int .i64 k_2), (5, .int .i64 i1)])) (Lb := (fun p q => match p, q with | (k_2, i1), _ => [])) ((k_1, 0)) (()) ⟨rfl, rfl, rfl, trivial⟩ [] rfl ?_ ?_
  · rintro ⟨k_2, i1⟩ _
    refine TC.seq ?_
    refine TC.seq ?_
    refine TC.region ?_
    refine TL.move rfl rfl (v := .int .i64 i1) rfl ?_
    refine TL.move rfl rfl (v := SV.v s1) rfl ?_
    refine TL.len (Rd.old h1) Try.underlying53 rfl rfl rfl ?_
    refine TL.bin .i64 i1 (a_1.length : Int) rfl rfl rfl rfl (v := .bool (decide (i1 < (a_1.length : Int)))) rfl ?_
    refine TL.done ?_
    refine TC.cond (b := (decide (i1 < (a_1.length : Int)))) rfl (fun c1 => ?_) (fun c2 => ?_)
    · refine TC.skip ?_
      refine TC.seq ?_
      refine TC.block (NoEx.loop rfl NoEx.body) ?_
      refine TC.seq ?_
      refine TC.seq ?_
      refine TC.region ?_
      refine TL.move rfl rfl (v := SV.v s1) rfl ?_
      refine TL.move rfl rfl (v := .int .i64 i1) rfl ?_
      refine TL.chk fun h2 => ?_
      refine TL.ixs i1 i1.toNat (Rd.old h1) h2 Try.underlying53 Try.sizeOf2 rfl rfl rfl rfl (by omega) ?_
      refine TL.loadE (Rd.old h1) Try.isAgg2 i1.toNat 0 (gt_spec h2) (v := .int .i64 (gt a_1 i1)) rfl (by simp only [show Ei.sz = 1 from rfl]; omega) rfl rfl rfl ?_
      refine TL.move rfl rfl (v := .int .i64 k_2) rfl ?_
      refine TL.bin .i64 (gt a_1 i1) k_2 rfl rfl rfl rfl (v := .bool ((gt a_1 i1) != k_2)) rfl ?_
      refine TL.done ?_
      refine TC.cond (b := ((gt a_1 i1) != k_2)) rfl (fun c3 => ?_) (fun c4 => ?_)
      · refine TC.seq ?_
        refine TC.region ?_
        refine TL.assign rfl rfl (v := .int .i64 (-1)) rfl ?_
        refine TL.done ?_
        exact TC.retF (Fin.loop Far.ret (Fin.body (fin1 (.inr rfl) rfl (.tmp rfl) [] rfl ⟨rfl, rfl⟩)))
      · refine TC.skip ?_
        refine TC.region ?_
        refine TL.move rfl rfl (v := .int .i64 k_2) rfl ?_
        refine TL.bin .i64 k_2 1 rfl rfl rfl rfl (v := .int .i64 (w64 (k_2 + 1))) rfl ?_
        refine TL.assign rfl rfl (v := .int .i64 (w64 (k_2 + 1))) rfl ?_
        refine TL.done ?_
        refine TC.region ?_
        refine TL.move rfl rfl (v := .int .i64 i1) rfl ?_
        refine TL.bin .i64 i1 1 rfl rfl rfl rfl (v := .int .i64 (w64 (i1 + 1))) rfl ?_
        refine TL.assign rfl rfl (v := .int .i64 (w64 (i1 + 1))) rfl ?_
        refine TL.done ?_
        exact TC.next (((w64 (k_2 + 1)), (w64 (i1 + 1)))) (()) ⟨rfl, rfl, rfl, trivial⟩ [] rfl
    · exact TC.brk ((k_2, i1)) (()) ⟨rfl, rfl, rfl, trivial⟩ [] rfl
  · rintro ⟨k_2, i1⟩ _
    refine TC.seq ?_
    refine TC.region ?_
    refine TL.move rfl rfl (v := .int .i64 k_2) rfl ?_
    refine TL.assign rfl rfl (v := .int .i64 k_2) rfl ?_
    refine TL.done ?_
    exact TC.retF (Fin.body (fin1 (.inr rfl) rfl (.tmp rfl) [] rfl ⟨rfl, rfl⟩))

end Go.Proofs.Ytnppkcemnjkboaa.G

/- laws.markInt64SS, as a pure function. -/
set_option linter.unusedVariables false
namespace Go.Proofs.Ytnppkcemnjkboaa.G
open Go Go.Sx Go.Proofs

def laws_markInt64SS.b0 : (List (List Int)) × Int × Int → Option (LB ((List (List Int)) × Int × Int)) := fun p => match p with | (a_2, k_2, i1) => (bif (decide (i1 < (a_2.length : Int))) then chk i1 a_2.length ((G.laws_markInt64S.f (gt a_2 i1) k_2).bind (fun p => match p with | (r_1, l1) => some (.next ((a_2.set i1.toNat l1), r_1, (w64 (i1 + 1)))))) else some (.brk (a_2, k_2, i1)))

def laws_markInt64SS.f (a_1 : List (List Int)) (k_1 : Int) : Option (Int × (List (List Int))) := (loop1 (laws_markInt64SS.b0) (a_1, k_1, 0)).bind (fun p => match p with | (a_2, k_2, i1) => some (k_2, a_2))

def laws_markInt64SS.R (s1 : SV) (r : Int × (List (List Int))) (v : Value) (L : List Asn) : Prop := ∃ (ss0 : List SV), v = .int .i64 r.1 ∧ L = [mat Ei 2 53 s1 ss0 r.2]

set_option maxRecDepth 100000 in
set_option maxHeartbeats 4000000 in
theorem laws_markInt64SS.calls (w0 : World) (I : Hp) (w : World) (s1 : SV) (ss1 : List SV) (a_1 : List (List Int)) (k_1 : Int) (hS : St w0 I [mat Ei 2 53 s1 ss1 a_1] w) :
    ∀ r, laws_markInt64SS.f a_1 k_1 = some r → Calls Try.prog 20 #[SV.v s1, .int .i64 k_1] w (RetM w0 I ((laws_markInt64SS.R s1) r)) := by

  refine calls_TM (w0 := w0) (I := I) (L := [mat Ei 2 53 s1 ss1 a_1]) (n := 19) (Γ := [(0, SV.v s1), (1, .int .i64 k_1)]) (R := (laws_markInt64SS.R s1)) Try.func20 rfl rfl (Nat.le_of_ble_eq_true rfl) ⟨rfl, rfl, trivial⟩ ?_ w hS
  unfold laws_markInt64SS.f
  refine TC.seq ?_
  refine TC.region ?_
  refine TL.assign rfl rfl (v := .int .i64 0) rfl ?_
  refine TL.done ?_
  refine TC.seq ?_
  refine TC.seq ?_
  refine TC.region ?_
  refine TL.assign rfl rfl (v := .int .i64 0) rfl ?_
  refine TL.done ?_
  refine TC.loop1 (σ := (List (List Int)) × Int × Int) (γ := Unit) (Γ' := (fun p q => match p, q with | (a_2, k_2, i1), _ => [(0, SV.v s1), (1, .int .i64 k_2), (5, .int .i64 i1)])) (L' := (fun p q => match p, q with | (a_2, k_2, i1), _ => [mat Ei 2 53 s1 ss1 a_2])) (Γb := (fun p q => match p, q with | (a_2, k_2, i1), _ => [(0, SV.v s1), (1, .int .i64 k_2), (5, .int .i64 i1)])) (Lb := (fun p q => match p, q with | (a_2, k_2, i1), _ => [mat Ei 2 53 s1 ss1 a_2])) ((a_1, k_1, 0)) (()) ⟨rfl, rfl, rfl, trivial⟩ [0] rfl ?_ ?_
  · rintro ⟨a_2, k_2, i1⟩ _
    refine TC.seq ?_
    refine TC.seq ?_
    refine TC.region ?_
    refine TL.move rfl rfl (v := .int .i64 i1) rfl ?_
    refine TL.move rfl rfl (v := SV.v s1) rfl ?_
    refine TL.lenM (RdM.mat 0 rfl) Try.underlying22 rfl rfl rfl ?_
    refine TL.bin .i64 i1 (a_2.length : Int) rfl rfl rfl rfl (v := .bool (decide (i1 < (a_2.length : Int)))) rfl ?_
    refine TL.done ?_
    refine TC.cond (b := (decide (i1 < (a_2.length : Int)))) rfl (fun c1 => ?_) (fun c2 => ?_)
    · refine TC.skip ?_
      refine TC.seq ?_
      refine TC.block (NoEx.loop1 rfl) ?_
      refine TC.region ?_
      refine TL.move rfl rfl (v := SV.v s1) rfl ?_
      refine TL.move rfl rfl (v := .int .i64 i1) rfl ?_
      refine TL.chk fun h1 => ?_
      refine TL.ixsM i1 i1.toNat (RdM.mat 0 rfl) h1 Try.underlying22 Try.sizeOf53 rfl rfl rfl rfl (by omega) ?_
      refine TL.loadM2 (RdM.mat 0 rfl) Try.isAgg53 i1 h1 (by omega) rfl rfl rfl ?_
      refine TL.move rfl rfl (v := .int .i64 k_2) rfl ?_
      refine TL.matopen 0 i1 rfl h1 ?_
      refine TL.callX (R := G.laws_markInt64S.R (gt ss1 i1)) [0, 0] [row Ei 2 (gt ss1 i1) (gt a_2 i1)] [matX Ei 2 53 i1.toNat s1 ss1 a_2] rfl Try.call63 rfl rfl rfl (fun w I_ hle hB hS => G.laws_markInt64S.calls _ I_ w (gt ss1 i1) (gt a_2 i1) k_2 hS) ?_
      rintro ⟨r_1, l1⟩ _ _ ⟨rfl, rfl⟩
      refine TL.matXlen 1 rfl fun h2 => ?_
      refine TL.matclose 0 1 rfl rfl (gt_spec (by have h_ := h1; have l_ := h2; (try simp only [List.length_set] at h_ l_); omega)) ?_
      refine TL.drop 0 rfl ?_
      refine TL.asL [mat Ei 2 53 s1 ss1 (a_2.set i1.toNat l1)] rfl ?_
      refine TL.assign rfl rfl (v := .int .i64 r_1) rfl ?_
      refine TL.done ?_
      refine TC.region ?_
      refine TL.move rfl rfl (v := .int .i64 i1) rfl ?_
      refine TL.bin .i64 i1 1 rfl rfl rfl rfl (v := .int .i64 (w64 (i1 + 1))) rfl ?_
      refine TL.assign rfl rfl (v := .int .i64 (w64 (i1 + 1))) rfl ?_
      refine TL.done ?_
      exact TC.next1 (((a_2.set i1.toNat l1), r_1, (w64 (i1 + 1)))) (()) ⟨rfl, rfl, rfl, trivial⟩ [0] rfl
    · exact TC.brk1 ((a_2, k_2, i1)) (()) ⟨rfl, rfl, rfl, trivial⟩ [0] rfl
  · rintro ⟨a_2, k_2, i1⟩ _
    refine TC.seq ?_
    refine TC.region ?_
    refine TL.move rfl rfl (v := .int .i64 k_2) rfl ?_
    refine TL.assign rfl rfl (v := .int .i64 k_2) rfl ?_
    refine TL.done ?_
    exact TC.retF (Fin.body (fin1 (.inr rfl) rfl (.tmp rfl) [0] rfl ⟨ss1, rfl, rfl⟩))

end Go.Proofs.Ytnppkcemnjkboaa.G

/- laws.heldInt64SS, as a pure function. -/
set_option linter.unusedVariables false
namespace Go.Proofs.Ytnppkcemnjkboaa.G
open Go Go.Sx Go.Proofs

def laws_heldInt64SS.b0 (a_1 : List (List Int)) : Int × Int → Option (LR (Int × Int) Int) := fun p => match p with | (k_2, i1) => (bif (decide (i1 < (a_1.length : Int))) then chk i1 a_1.length ((G.laws_heldInt64S.f (gt a_1 i1) k_2).bind (fun r_1 => (bif (decide (r_1 < 0)) then some (.ret ((-1))) else some (.next (r_1, (w64 (i1 + 1))))))) else some (.brk (k_2, i1)))

def laws_heldInt64SS.f (a_1 : List (List Int)) (k_1 : Int) : Option Int := (loop (laws_heldInt64SS.b0 a_1) (k_1, 0)).bind (ln (fun p => match p with | (k_2, i1) => some k_2))

def laws_heldInt64SS.R (r : Int) (v : Value) (L : List Asn) : Prop := v = .int .i64 r ∧ L = []

set_option maxRecDepth 100000 in
set_option maxHeartbeats 4000000 in
theorem laws_heldInt64SS.calls (w : World) (s1 : SV) (ss1 : List SV) (a_1 : List (List Int)) (k_1 : Int) (h1 : ReadsM Ei (hp w) s1 ss1 a_1) :
    ∀ r, laws_heldInt64SS.f a_1 k_1 = some r → Calls Try.prog 21 #[SV.v s1, .int .i64 k_1] w (Ret w (laws_heldInt64SS.R r)) := by

  refine calls_T (n := 21) (Γ := [(0, SV.v s1), (1, .int .i64 k_1)]) (R := laws_heldInt64SS.R) Try.func21 rfl rfl (Nat.le_of_ble_eq_true rfl) ⟨rfl, rfl, trivial⟩ ?_
  unfold laws_heldInt64SS.f
  refine TC.seq ?_
  refine TC.region ?_
  refine TL.assign rfl rfl (v := .int .i64 0) rfl ?_
  refine TL.done ?_
  refine TC.seq ?_
  refine TC.seq ?_
  refine TC.region ?_
  refine TL.assign rfl rfl (v := .int .i64 0) rfl ?_
  refine TL.done ?_
  refine TC.loopK (σ := Int × Int) (γ := Unit) (Γ' := (fun p q => match p, q with | (k_2, i1), _ => [(0, SV.v s1), (1, .int .i64 k_2), (5, .int .i64 i1)])) (L' := (fun p q => match p, q with | (k_2, i1), _ => [])) (Γb := (fun p q => match p, q with | (k_2, i1), _ => [(0, SV.v s1), (1, .int .i64 k_2), (5, .int .i64 i1)])) (Lb := (fun p q => match p, q with | (k_2, i1), _ => [])) ((k_1, 0)) (()) ⟨rfl, rfl, rfl, trivial⟩ [] rfl ?_ ?_
  · rintro ⟨k_2, i1⟩ _
    refine TC.seq ?_
    refine TC.seq ?_
    refine TC.region ?_
    refine TL.move rfl rfl (v := .int .i64 i1) rfl ?_
    refine TL.move rfl rfl (v := SV.v s1) rfl ?_
    refine TL.lenM (RdM.old h1) Try.underlying22 rfl rfl rfl ?_
    refine TL.bin .i64 i1 (a_1.length : Int) rfl rfl rfl rfl (v := .bool (decide (i1 < (a_1.length : Int)))) rfl ?_
    refine TL.done ?_
    refine TC.cond (b := (decide (i1 < (a_1.length : Int)))) rfl (fun c1 => ?_) (fun c2 => ?_)
    · refine TC.skip ?_
      refine TC.seq ?_
      refine TC.block (NoEx.loop rfl NoEx.body) ?_
      refine TC.seq ?_
      refine TC.region ?_
      refine TL.move rfl rfl (v := SV.v s1) rfl ?_
      refine TL.move rfl rfl (v := .int .i64 i1) rfl ?_
      refine TL.chk fun h2 => ?_
      refine TL.ixsM i1 i1.toNat (RdM.old h1) h2 Try.underlying22 Try.sizeOf53 rfl rfl rfl rfl (by omega) ?_
      refine TL.loadM2 (RdM.old h1) Try.isAgg53 i1 h2 (by omega) rfl rfl rfl ?_
      refine TL.move rfl rfl (v := .int .i64 k_2) rfl ?_
      refine TL.call (R := G.laws_heldInt64S.R) Try.call64 rfl rfl rfl (fun w hS => G.laws_heldInt64S.calls w (gt ss1 i1) (gt a_1 i1) k_2 ((RdM.inn (RdM.old h1) h2) w hS)) ?_
      rintro r_1 _ _ ⟨rfl, rfl⟩
      refine TL.assign rfl rfl (v := .int .i64 r_1) rfl ?_
      refine TL.done ?_
      refine TC.seq ?_
      refine TC.region ?_
      refine TL.move rfl rfl (v := .int .i64 r_1) rfl ?_
      refine TL.bin .i64 r_1 0 rfl rfl rfl rfl (v := .bool (decide (r_1 < 0))) rfl ?_
      refine TL.done ?_
      refine TC.cond (b := (decide (r_1 < 0))) rfl (fun c3 => ?_) (fun c4 => ?_)
      · refine TC.seq ?_
        refine TC.region ?_
        refine TL.assign rfl rfl (v := .int .i64 (-1)) rfl ?_
        refine TL.done ?_
        exact TC.retF (Fin.loop Far.ret (Fin.body (fin1 (.inr rfl) rfl (.tmp rfl) [] rfl ⟨rfl, rfl⟩)))
      · refine TC.skip ?_
        refine TC.region ?_
        refine TL.move rfl rfl (v := .int .i64 i1) rfl ?_
        refine TL.bin .i64 i1 1 rfl rfl rfl rfl (v := .int .i64 (w64 (i1 + 1))) rfl ?_
        refine TL.assign rfl rfl (v := .int .i64 (w64 (i1 + 1))) rfl ?_
        refine TL.done ?_
        exact TC.next ((r_1, (w64 (i1 + 1)))) (()) ⟨rfl, rfl, rfl, trivial⟩ [] rfl
    · exact TC.brk ((k_2, i1)) (()) ⟨rfl, rfl, rfl, trivial⟩ [] rfl
  · rintro ⟨k_2, i1⟩ _
    refine TC.seq ?_
    refine TC.region ?_
    refine TL.move rfl rfl (v := .int .i64 k_2) rfl ?_
    refine TL.assign rfl rfl (v := .int .i64 k_2) rfl ?_
    refine TL.done ?_
    exact TC.retF (Fin.body (fin1 (.inr rfl) rfl (.tmp rfl) [] rfl ⟨rfl, rfl⟩))

end Go.Proofs.Ytnppkcemnjkboaa.G
