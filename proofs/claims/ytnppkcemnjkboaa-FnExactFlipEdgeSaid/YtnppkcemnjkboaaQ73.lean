/- spec.l07Flip, as a pure function. -/
import Derived.Test.YtnppkcemnjkboaaProg
import Derived.Test.YtnppkcemnjkboaaSx9
import Derived.Test.YtnppkcemnjkboaaQ99
import Derived.Test.YtnppkcemnjkboaaQ109
set_option linter.unusedVariables false
namespace Go.Proofs.Ytnppkcemnjkboaa.G
open Go Go.Sx Go.Proofs

def spec_l07Flip.f (x1 : List (List Int)) (x2 : Int) : Option ((List (List Int)) × Bool) := (G.spec_l07Find.f x1 x2).bind (fun p => match p with | (r_1, r_2) => (G.spec_l07Find.f x1 (w64 (0 - x2))).bind (fun p => match p with | (r_3, r_4) => (bif (r_1 == r_3) then some (([] : List (List Int)), false) else (G.spec_l07Copy.f x1).bind (fun r_5 => chk r_1 x1.length (chk (Int.tmod (w64 (r_2 + 1)) 3) ((gt x1 r_1).length) (chk (Int.tmod (w64 (r_2 + 2)) 3) ((gt x1 r_1).length) (chk r_3 x1.length (chk (Int.tmod (w64 (r_4 + 1)) 3) ((gt x1 r_3).length) (chk (Int.tmod (w64 (r_4 + 2)) 3) ((gt x1 r_3).length) (chk r_1 r_5.length (chk r_3 ((r_5.set r_1.toNat ([x2, (gt (gt x1 r_1) (Int.tmod (w64 (r_2 + 2)) 3)), (gt (gt x1 r_3) (Int.tmod (w64 (r_4 + 1)) 3))] : List Int)).length) (some (((r_5.set r_1.toNat ([x2, (gt (gt x1 r_1) (Int.tmod (w64 (r_2 + 2)) 3)), (gt (gt x1 r_3) (Int.tmod (w64 (r_4 + 1)) 3))] : List Int)).set r_3.toNat ([(w64 (0 - x2)), (gt (gt x1 r_3) (Int.tmod (w64 (r_4 + 2)) 3)), (gt (gt x1 r_1) (Int.tmod (w64 (r_2 + 1)) 3))] : List Int)), true)))))))))))))

def spec_l07Flip.R (r : (List (List Int)) × Bool) (v : Value) (L : List Asn) : Prop := ∃ (s0 : SV) (ss0 : List SV), v = .tuple #[SV.v s0, .bool r.2] ∧ L = [mat Ei 2 53 s0 ss0 r.1]

set_option maxRecDepth 100000 in
set_option maxHeartbeats 4000000 in
theorem spec_l07Flip.calls (w : World) (s1 : SV) (ss1 : List SV) (x1 : List (List Int)) (x2 : Int) (h1 : ReadsM Ei (hp w) s1 ss1 x1) :
    ∀ r, spec_l07Flip.f x1 x2 = some r → Calls Try.prog 73 #[SV.v s1, .int .i64 x2] w (Ret w (spec_l07Flip.R r)) := by

  refine calls_T (n := 85) (Γ := [(0, SV.v s1), (1, .int .i64 x2)]) (R := spec_l07Flip.R) Try.func73 rfl rfl (Nat.le_of_ble_eq_true rfl) ⟨rfl, rfl, trivial⟩ ?_
  unfold spec_l07Flip.f
  refine TC.seq ?_
  refine TC.region ?_
  refine TL.assign rfl rfl (v := SV.v ⟨none, 0, 0⟩) rfl ?_
  refine TL.assign rfl rfl (v := .bool false) rfl ?_
  refine TL.done ?_
  refine TC.seq ?_
  refine TC.region ?_
  refine TL.move rfl rfl (v := SV.v s1) rfl ?_
  refine TL.move rfl rfl (v := .int .i64 x2) rfl ?_
  refine TL.call (R := G.spec_l07Find.R) Try.call109 rfl rfl rfl (fun w hS => G.spec_l07Find.calls w s1 ss1 x1 x2 ((RdM.old h1) w hS)) ?_
  rintro ⟨r_1, r_2⟩ _ _ ⟨rfl, rfl⟩
  refine TL.move rfl rfl (v := .tuple #[.int .i64 r_1, .int .i64 r_2]) rfl ?_
  refine TL.extract rfl rfl rfl (v := .int .i64 r_1) rfl ?_
  refine TL.extract rfl rfl rfl (v := .int .i64 r_2) rfl ?_
  refine TL.assign rfl rfl (v := .int .i64 r_1) rfl ?_
  refine TL.assign rfl rfl (v := .int .i64 r_2) rfl ?_
  refine TL.done ?_
  refine TC.seq ?_
  refine TC.region ?_
  refine TL.move rfl rfl (v := SV.v s1) rfl ?_
  refine TL.move rfl rfl (v := .int .i64 x2) rfl ?_
  refine TL.neg .i64 x2 rfl rfl rfl ?_
  refine TL.call (R := G.spec_l07Find.R) Try.call109 rfl rfl rfl (fun w hS => G.spec_l07Find.calls w s1 ss1 x1 (w64 (0 - x2)) ((RdM.old h1) w hS)) ?_
  rintro ⟨r_3, r_4⟩ _ _ ⟨rfl, rfl⟩
  refine TL.move rfl rfl (v := .tuple #[.int .i64 r_3, .int .i64 r_4]) rfl ?_
  refine TL.extract rfl rfl rfl (v := .int .i64 r_3) rfl ?_
  refine TL.extract rfl rfl rfl (v := .int .i64 r_4) rfl ?_
  refine TL.assign rfl rfl (v := .int .i64 r_3) rfl ?_
  refine TL.assign rfl rfl (v := .int .i64 r_4) rfl ?_
  refine TL.done ?_
  refine TC.seq ?_
  refine TC.seq ?_
  refine TC.region ?_
  refine TL.move rfl rfl (v := .int .i64 r_1) rfl ?_
  refine TL.move rfl rfl (v := .int .i64 r_3) rfl ?_
  refine TL.bin .i64 r_1 r_3 rfl rfl rfl rfl (v := .bool (r_1 == r_3)) rfl ?_
  refine TL.done ?_
  refine TC.cond (b := (r_1 == r_3)) rfl (fun c1 => ?_) (fun c2 => ?_)
  · refine TC.seq ?_
    refine TC.region ?_
    refine TL.assign rfl rfl (v := SV.v ⟨none, 0, 0⟩) rfl ?_
    refine TL.assign rfl rfl (v := .bool false) rfl ?_
    refine TL.done ?_
    refine TC.nilmat Ei 2 53 ?_
    exact TC.retF (Fin.body (fin2 (.inr rfl) rfl (.tmp rfl) (.tmp rfl) [0] rfl ⟨⟨none, 0, 0⟩, [], rfl, rfl⟩))
  · refine TC.skip ?_
    refine TC.seq ?_
    refine TC.region ?_
    refine TL.move rfl rfl (v := SV.v s1) rfl ?_
    refine TL.call (R := G.spec_l07Copy.R) Try.call99 rfl rfl rfl (fun w hS => G.spec_l07Copy.calls w s1 ss1 x1 ((RdM.old h1) w hS)) ?_
    rintro r_5 _ _ ⟨s2, ss2, rfl, rfl⟩
    refine TL.assign rfl rfl (v := SV.v s2) rfl ?_
    refine TL.done ?_
    refine TC.seq ?_
    refine TC.wk (Γ' := [(0, SV.v s1), (1, .int .i64 x2), (4, SV.v ⟨none, 0, 0⟩), (5, .bool false), (16, SV.v s1), (17, .int .i64 x2), (18, .tuple #[.int .i64 r_1, .int .i64 r_2]), (15, .tuple #[.int .i64 r_1, .int .i64 r_2]), (19, .int .i64 r_1), (20, .int .i64 r_2), (6, .int .i64 r_1), (7, .int .i64 r_2), (22, SV.v s1), (23, .int .i64 x2), (24, .int .i64 (w64 (0 - x2))), (25, .tuple #[.int .i64 r_3, .int .i64 r_4]), (21, .tuple #[.int .i64 r_3, .int .i64 r_4]), (26, .int .i64 r_3), (27, .int .i64 r_4), (8, .int .i64 r_3), (9, .int .i64 r_4), (28, .int .i64 r_1), (29, .int .i64 r_3), (30, .bool (r_1 == r_3)), (31, SV.v s1), (32, SV.v s2), (10, SV.v s2)]) ⟨rfl, rfl, rfl, rfl, rfl, rfl, rfl, rfl, rfl, rfl, rfl, rfl, rfl, rfl, rfl, rfl, rfl, rfl, rfl, rfl, rfl, rfl, rfl, rfl, rfl, rfl, rfl, trivial⟩ ?_
    refine TC.chk fun h2 => ?_
    refine TC.chk fun h3 => ?_
    refine TC.chk fun h4 => ?_
    refine TC.chk fun h5 => ?_
    refine TC.chk fun h6 => ?_
    refine TC.chk fun h7 => ?_
    refine TC.draw [SV.v s1, .int .i64 r_1, ep s1 r_1.toNat, SV.v (gt ss1 r_1), .int .i64 r_2, .int .i64 (w64 (r_2 + 1)), .int .i64 (Int.tmod (w64 (r_2 + 1)) 3), ep (gt ss1 r_1) ((Int.tmod (w64 (r_2 + 1)) 3).toNat), .int .i64 (gt (gt x1 r_1) (Int.tmod (w64 (r_2 + 1)) 3)), SV.v s1, .int .i64 r_1, ep s1 r_1.toNat, SV.v (gt ss1 r_1), .int .i64 r_2, .int .i64 (w64 (r_2 + 2)), .int .i64 (Int.tmod (w64 (r_2 + 2)) 3), ep (gt ss1 r_1) ((Int.tmod (w64 (r_2 + 2)) 3).toNat), .int .i64 (gt (gt x1 r_1) (Int.tmod (w64 (r_2 + 2)) 3)), SV.v s1, .int .i64 r_3, ep s1 r_3.toNat, SV.v (gt ss1 r_3), .int .i64 r_4, .int .i64 (w64 (r_4 + 1)), .int .i64 (Int.tmod (w64 (r_4 + 1)) 3), ep (gt ss1 r_3) ((Int.tmod (w64 (r_4 + 1)) 3).toNat), .int .i64 (gt (gt x1 r_3) (Int.tmod (w64 (r_4 + 1)) 3)), SV.v s1, .int .i64 r_3, ep s1 r_3.toNat, SV.v (gt ss1 r_3), .int .i64 r_4, .int .i64 (w64 (r_4 + 2)), .int .i64 (Int.tmod (w64 (r_4 + 2)) 3), ep (gt ss1 r_3) ((Int.tmod (w64 (r_4 + 2)) 3).toNat), .int .i64 (gt (gt x1 r_3) (Int.tmod (w64 (r_4 + 2)) 3)), .int .i64 (gt (gt x1 r_1) (Int.tmod (w64 (r_2 + 1)) 3)), .int .i64 (gt (gt x1 r_1) (Int.tmod (w64 (r_2 + 2)) 3)), .int .i64 (gt (gt x1 r_3) (Int.tmod (w64 (r_4 + 1)) 3)), .int .i64 (gt (gt x1 r_3) (Int.tmod (w64 (r_4 + 2)) 3))] 40 [mat Ei 2 53 s2 ss2 r_5] (by kernel_rfl) rfl rfl rfl rfl ?_ ?_
    · refine ⟨?_, ?_, ?_, ?_, ?_, ?_, ?_, ?_, ?_, ?_, ?_, ?_, ?_, ?_, ?_, ?_, ?_, ?_, ?_, ?_, ?_, ?_, ?_, ?_, ?_, ?_, ?_, ?_, ?_, ?_, ?_, ?_, ?_, ?_, ?_, ?_, ?_, ?_, ?_, ?_, trivial⟩
      · refine TL.move rfl rfl (v := SV.v s1) rfl ?_
        refine TL.done ?_
        exact TC.nrm () () ⟨rfl, trivial⟩ [0] rfl
      · refine TL.move rfl rfl (v := .int .i64 r_1) rfl ?_
        refine TL.done ?_
        exact TC.nrm () () ⟨rfl, trivial⟩ [0] rfl
      · refine TL.ixsM r_1 r_1.toNat (RdM.old h1) h2 Try.underlying22 Try.sizeOf53 rfl rfl rfl rfl (by omega) ?_
        refine TL.done ?_
        exact TC.nrm () () ⟨rfl, trivial⟩ [0] rfl
      · refine TL.loadM2 (RdM.old h1) Try.isAgg53 r_1 h2 (by omega) rfl rfl rfl ?_
        refine TL.done ?_
        exact TC.nrm () () ⟨rfl, trivial⟩ [0] rfl
      · refine TL.move rfl rfl (v := .int .i64 r_2) rfl ?_
        refine TL.done ?_
        exact TC.nrm () () ⟨rfl, trivial⟩ [0] rfl
      · refine TL.bin .i64 r_2 1 rfl rfl rfl rfl (v := .int .i64 (w64 (r_2 + 1))) rfl ?_
        refine TL.done ?_
        exact TC.nrm () () ⟨rfl, trivial⟩ [0] rfl
      · refine TL.rem .i64 (w64 (r_2 + 1)) 3 (by decide) rfl rfl rfl rfl ?_
        refine TL.done ?_
        exact TC.nrm () () ⟨rfl, trivial⟩ [0] rfl
      · refine TL.ixs (Int.tmod (w64 (r_2 + 1)) 3) ((Int.tmod (w64 (r_2 + 1)) 3).toNat) (RdM.inn (RdM.old h1) h2) h3 Try.underlying53 Try.sizeOf2 rfl rfl rfl rfl (by omega) ?_
        refine TL.done ?_
        exact TC.nrm () () ⟨rfl, trivial⟩ [0] rfl
      · refine TL.loadE (RdM.inn (RdM.old h1) h2) Try.isAgg2 (Int.tmod (w64 (r_2 + 1)) 3).toNat 0 (gt_spec h3) (v := .int .i64 (gt (gt x1 r_1) (Int.tmod (w64 (r_2 + 1)) 3))) rfl (by simp only [show Ei.sz = 1 from rfl]; omega) rfl rfl rfl ?_
        refine TL.done ?_
        exact TC.nrm () () ⟨rfl, trivial⟩ [0] rfl
      · refine TL.move rfl rfl (v := SV.v s1) rfl ?_
        refine TL.done ?_
        exact TC.nrm () () ⟨rfl, trivial⟩ [0] rfl
      · refine TL.move rfl rfl (v := .int .i64 r_1) rfl ?_
        refine TL.done ?_
        exact TC.nrm () () ⟨rfl, trivial⟩ [0] rfl
      · refine TL.ixsM r_1 r_1.toNat (RdM.old h1) h2 Try.underlying22 Try.sizeOf53 rfl rfl rfl rfl (by omega) ?_
        refine TL.done ?_
        exact TC.nrm () () ⟨rfl, trivial⟩ [0] rfl
      · refine TL.loadM2 (RdM.old h1) Try.isAgg53 r_1 h2 (by omega) rfl rfl rfl ?_
        refine TL.done ?_
        exact TC.nrm () () ⟨rfl, trivial⟩ [0] rfl
      · refine TL.move rfl rfl (v := .int .i64 r_2) rfl ?_
        refine TL.done ?_
        exact TC.nrm () () ⟨rfl, trivial⟩ [0] rfl
      · refine TL.bin .i64 r_2 2 rfl rfl rfl rfl (v := .int .i64 (w64 (r_2 + 2))) rfl ?_
        refine TL.done ?_
        exact TC.nrm () () ⟨rfl, trivial⟩ [0] rfl
      · refine TL.rem .i64 (w64 (r_2 + 2)) 3 (by decide) rfl rfl rfl rfl ?_
        refine TL.done ?_
        exact TC.nrm () () ⟨rfl, trivial⟩ [0] rfl
      · refine TL.ixs (Int.tmod (w64 (r_2 + 2)) 3) ((Int.tmod (w64 (r_2 + 2)) 3).toNat) (RdM.inn (RdM.old h1) h2) h4 Try.underlying53 Try.sizeOf2 rfl rfl rfl rfl (by omega) ?_
        refine TL.done ?_
        exact TC.nrm () () ⟨rfl, trivial⟩ [0] rfl
      · refine TL.loadE (RdM.inn (RdM.old h1) h2) Try.isAgg2 (Int.tmod (w64 (r_2 + 2)) 3).toNat 0 (gt_spec h4) (v := .int .i64 (gt (gt x1 r_1) (Int.tmod (w64 (r_2 + 2)) 3))) rfl (by simp only [show Ei.sz = 1 from rfl]; omega) rfl rfl rfl ?_
        refine TL.done ?_
        exact TC.nrm () () ⟨rfl, trivial⟩ [0] rfl
      · refine TL.move rfl rfl (v := SV.v s1) rfl ?_
        refine TL.done ?_
        exact TC.nrm () () ⟨rfl, trivial⟩ [0] rfl
      · refine TL.move rfl rfl (v := .int .i64 r_3) rfl ?_
        refine TL.done ?_
        exact TC.nrm () () ⟨rfl, trivial⟩ [0] rfl
      · refine TL.ixsM r_3 r_3.toNat (RdM.old h1) h5 Try.underlying22 Try.sizeOf53 rfl rfl rfl rfl (by omega) ?_
        refine TL.done ?_
        exact TC.nrm () () ⟨rfl, trivial⟩ [0] rfl
      · refine TL.loadM2 (RdM.old h1) Try.isAgg53 r_3 h5 (by omega) rfl rfl rfl ?_
        refine TL.done ?_
        exact TC.nrm () () ⟨rfl, trivial⟩ [0] rfl
      · refine TL.move rfl rfl (v := .int .i64 r_4) rfl ?_
        refine TL.done ?_
        exact TC.nrm () () ⟨rfl, trivial⟩ [0] rfl
      · refine TL.bin .i64 r_4 1 rfl rfl rfl rfl (v := .int .i64 (w64 (r_4 + 1))) rfl ?_
        refine TL.done ?_
        exact TC.nrm () () ⟨rfl, trivial⟩ [0] rfl
      · refine TL.rem .i64 (w64 (r_4 + 1)) 3 (by decide) rfl rfl rfl rfl ?_
        refine TL.done ?_
        exact TC.nrm () () ⟨rfl, trivial⟩ [0] rfl
      · refine TL.ixs (Int.tmod (w64 (r_4 + 1)) 3) ((Int.tmod (w64 (r_4 + 1)) 3).toNat) (RdM.inn (RdM.old h1) h5) h6 Try.underlying53 Try.sizeOf2 rfl rfl rfl rfl (by omega) ?_
        refine TL.done ?_
        exact TC.nrm () () ⟨rfl, trivial⟩ [0] rfl
      · refine TL.loadE (RdM.inn (RdM.old h1) h5) Try.isAgg2 (Int.tmod (w64 (r_4 + 1)) 3).toNat 0 (gt_spec h6) (v := .int .i64 (gt (gt x1 r_3) (Int.tmod (w64 (r_4 + 1)) 3))) rfl (by simp only [show Ei.sz = 1 from rfl]; omega) rfl rfl rfl ?_
        refine TL.done ?_
        exact TC.nrm () () ⟨rfl, trivial⟩ [0] rfl
      · refine TL.move rfl rfl (v := SV.v s1) rfl ?_
        refine TL.done ?_
        exact TC.nrm () () ⟨rfl, trivial⟩ [0] rfl
      · refine TL.move rfl rfl (v := .int .i64 r_3) rfl ?_
        refine TL.done ?_
        exact TC.nrm () () ⟨rfl, trivial⟩ [0] rfl
      · refine TL.ixsM r_3 r_3.toNat (RdM.old h1) h5 Try.underlying22 Try.sizeOf53 rfl rfl rfl rfl (by omega) ?_
        refine TL.done ?_
        exact TC.nrm () () ⟨rfl, trivial⟩ [0] rfl
      · refine TL.loadM2 (RdM.old h1) Try.isAgg53 r_3 h5 (by omega) rfl rfl rfl ?_
        refine TL.done ?_
        exact TC.nrm () () ⟨rfl, trivial⟩ [0] rfl
      · refine TL.move rfl rfl (v := .int .i64 r_4) rfl ?_
        refine TL.done ?_
        exact TC.nrm () () ⟨rfl, trivial⟩ [0] rfl
      · refine TL.bin .i64 r_4 2 rfl rfl rfl rfl (v := .int .i64 (w64 (r_4 + 2))) rfl ?_
        refine TL.done ?_
        exact TC.nrm () () ⟨rfl, trivial⟩ [0] rfl
      · refine TL.rem .i64 (w64 (r_4 + 2)) 3 (by decide) rfl rfl rfl rfl ?_
        refine TL.done ?_
        exact TC.nrm () () ⟨rfl, trivial⟩ [0] rfl
      · refine TL.ixs (Int.tmod (w64 (r_4 + 2)) 3) ((Int.tmod (w64 (r_4 + 2)) 3).toNat) (RdM.inn (RdM.old h1) h5) h7 Try.underlying53 Try.sizeOf2 rfl rfl rfl rfl (by omega) ?_
        refine TL.done ?_
        exact TC.nrm () () ⟨rfl, trivial⟩ [0] rfl
      · refine TL.loadE (RdM.inn (RdM.old h1) h5) Try.isAgg2 (Int.tmod (w64 (r_4 + 2)) 3).toNat 0 (gt_spec h7) (v := .int .i64 (gt (gt x1 r_3) (Int.tmod (w64 (r_4 + 2)) 3))) rfl (by simp only [show Ei.sz = 1 from rfl]; omega) rfl rfl rfl ?_
        refine TL.done ?_
        exact TC.nrm () () ⟨rfl, trivial⟩ [0] rfl
      · refine TL.assign rfl rfl (v := .int .i64 (gt (gt x1 r_1) (Int.tmod (w64 (r_2 + 1)) 3))) rfl ?_
        refine TL.done ?_
        exact TC.nrm () () ⟨rfl, trivial⟩ [0] rfl
      · refine TL.assign rfl rfl (v := .int .i64 (gt (gt x1 r_1) (Int.tmod (w64 (r_2 + 2)) 3))) rfl ?_
        refine TL.done ?_
        exact TC.nrm () () ⟨rfl, trivial⟩ [0] rfl
      · refine TL.assign rfl rfl (v := .int .i64 (gt (gt x1 r_3) (Int.tmod (w64 (r_4 + 1)) 3))) rfl ?_
        refine TL.done ?_
        exact TC.nrm () () ⟨rfl, trivial⟩ [0] rfl
      · refine TL.assign rfl rfl (v := .int .i64 (gt (gt x1 r_3) (Int.tmod (w64 (r_4 + 2)) 3))) rfl ?_
        refine TL.done ?_
        exact TC.nrm () () ⟨rfl, trivial⟩ [0] rfl
    · refine TC.seq ?_
      refine TC.region ?_
      refine TL.move rfl rfl (v := SV.v s2) rfl ?_
      refine TL.move rfl rfl (v := .int .i64 r_1) rfl ?_
      refine TL.move rfl rfl (v := .int .i64 x2) rfl ?_
      refine TL.move rfl rfl (v := .int .i64 (gt (gt x1 r_1) (Int.tmod (w64 (r_2 + 2)) 3))) rfl ?_
      refine TL.move rfl rfl (v := .int .i64 (gt (gt x1 r_3) (Int.tmod (w64 (r_4 + 1)) 3))) rfl ?_
      refine TL.blit Ei ([x2, (gt (gt x1 r_1) (Int.tmod (w64 (r_2 + 2)) 3)), (gt (gt x1 r_3) (Int.tmod (w64 (r_4 + 1)) 3))] : List Int) Try.underlying53 Try.sizeOf2 Try.zeroValue2 rfl rfl rfl [(0, .int .i64 x2), (1, .int .i64 (gt (gt x1 r_1) (Int.tmod (w64 (r_2 + 2)) 3))), (2, .int .i64 (gt (gt x1 r_3) (Int.tmod (w64 (r_4 + 1)) 3)))] rfl ⟨rfl, rfl, rfl, rfl, rfl, rfl, trivial⟩ rfl rfl fun s3 => ?_
      refine TL.chk fun h8 => ?_
      refine TL.ixsM r_1 r_1.toNat (RdM.mat 1 rfl) h8 Try.underlying22 Try.sizeOf53 rfl rfl rfl rfl (by omega) ?_
      refine TL.matlen 1 rfl fun h9 => ?_
      refine TL.matcut 1 rfl ?_
      refine TL.stE 0 (r_1.toNat) s3 (v := SV.v s3) rfl Try.sizeOf53 rfl rfl rfl (by have h_ := h8; have l_ := h9; (try simp only [List.length_set] at h_ l_ ⊢); omega) (by simp only [show Ev.sz = 1 from rfl]; omega) rfl rfl rfl ?_
      refine TL.hole 2 r_1 rfl h8 ?_
      refine TL.rowsPut 1 2 rfl rfl ?_
      refine TL.matmk 0 2 rfl rfl ?_
      refine TL.drop 0 rfl ?_
      refine TL.asL [emp, mat Ei 2 53 s2 (ss2.set r_1.toNat s3) (r_5.set r_1.toNat ([x2, (gt (gt x1 r_1) (Int.tmod (w64 (r_2 + 2)) 3)), (gt (gt x1 r_3) (Int.tmod (w64 (r_4 + 1)) 3))] : List Int))] rfl ?_
      refine TL.done ?_
      refine TC.seq ?_
      refine TC.region ?_
      refine TL.move rfl rfl (v := SV.v s2) rfl ?_
      refine TL.move rfl rfl (v := .int .i64 r_3) rfl ?_
      refine TL.move rfl rfl (v := .int .i64 x2) rfl ?_
      refine TL.neg .i64 x2 rfl rfl rfl ?_
      refine TL.move rfl rfl (v := .int .i64 (gt (gt x1 r_3) (Int.tmod (w64 (r_4 + 2)) 3))) rfl ?_
      refine TL.move rfl rfl (v := .int .i64 (gt (gt x1 r_1) (Int.tmod (w64 (r_2 + 1)) 3))) rfl ?_
      refine TL.blit Ei ([(w64 (0 - x2)), (gt (gt x1 r_3) (Int.tmod (w64 (r_4 + 2)) 3)), (gt (gt x1 r_1) (Int.tmod (w64 (r_2 + 1)) 3))] : List Int) Try.underlying53 Try.sizeOf2 Try.zeroValue2 rfl rfl rfl [(0, .int .i64 (w64 (0 - x2))), (1, .int .i64 (gt (gt x1 r_3) (Int.tmod (w64 (r_4 + 2)) 3))), (2, .int .i64 (gt (gt x1 r_1) (Int.tmod (w64 (r_2 + 1)) 3)))] rfl ⟨rfl, rfl, rfl, rfl, rfl, rfl, trivial⟩ rfl rfl fun s4 => ?_
      refine TL.chk fun h10 => ?_
      refine TL.ixsM r_3 r_3.toNat (RdM.mat 2 rfl) h10 Try.underlying22 Try.sizeOf53 rfl rfl rfl rfl (by omega) ?_
      refine TL.matlen 2 rfl fun h11 => ?_
      refine TL.matcut 2 rfl ?_
      refine TL.stE 0 (r_3.toNat) s4 (v := SV.v s4) rfl Try.sizeOf53 rfl rfl rfl (by have h_ := h10; have l_ := h11; (try simp only [List.length_set] at h_ l_ ⊢); omega) (by simp only [show Ev.sz = 1 from rfl]; omega) rfl rfl rfl ?_
      refine TL.hole 3 r_3 rfl h10 ?_
      refine TL.rowsPut 1 3 rfl rfl ?_
      refine TL.matmk 0 3 rfl rfl ?_
      refine TL.drop 0 rfl ?_
      refine TL.asL [emp, emp, mat Ei 2 53 s2 ((ss2.set r_1.toNat s3).set r_3.toNat s4) ((r_5.set r_1.toNat ([x2, (gt (gt x1 r_1) (Int.tmod (w64 (r_2 + 2)) 3)), (gt (gt x1 r_3) (Int.tmod (w64 (r_4 + 1)) 3))] : List Int)).set r_3.toNat ([(w64 (0 - x2)), (gt (gt x1 r_3) (Int.tmod (w64 (r_4 + 2)) 3)), (gt (gt x1 r_1) (Int.tmod (w64 (r_2 + 1)) 3))] : List Int))] rfl ?_
      refine TL.done ?_
      refine TC.seq ?_
      refine TC.region ?_
      refine TL.move rfl rfl (v := SV.v s2) rfl ?_
      refine TL.assign rfl rfl (v := SV.v s2) rfl ?_
      refine TL.assign rfl rfl (v := .bool true) rfl ?_
      refine TL.done ?_
      exact TC.retF (Fin.body (fin2 (.inr rfl) rfl (.tmp rfl) (.tmp rfl) [2] rfl ⟨s2, ((ss2.set r_1.toNat s3).set r_3.toNat s4), rfl, rfl⟩))

end Go.Proofs.Ytnppkcemnjkboaa.G
