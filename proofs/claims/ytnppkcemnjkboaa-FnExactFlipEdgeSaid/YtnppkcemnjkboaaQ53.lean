/- spec.l07Is, as a pure function. -/
import Derived.Test.YtnppkcemnjkboaaProg
import Derived.Test.YtnppkcemnjkboaaSx9
import Derived.Test.YtnppkcemnjkboaaQ58
set_option linter.unusedVariables false
namespace Go.Proofs.Ytnppkcemnjkboaa.G
open Go Go.Sx Go.Proofs

def spec_l07Is.b0 (x1 : List (List Int)) (x2 : Int) : (List Int) × Int → Option (LR ((List Int) × Int) (LR ((List Int) × Int) Bool)) := fun p => match p with | (l2, x3) => (bif (decide (x3 < 3)) then chk x3 ((gt x1 x2).length) ((G.spec_l01In.f (gt (gt x1 x2) x3) (w64 (0 - (w64 (Int.tdiv (w64 ((x1.length : Int) * 3)) 2)))) (w64 (Int.tdiv (w64 ((x1.length : Int) * 3)) 2))).bind (fun r_1 => (bif ((!r_1) || ((gt (gt x1 x2) x3) == 0)) then some (.ret (.ret (false))) else chk (if (w64 (0 - (gt (gt x1 x2) x3))) > (gt (gt x1 x2) x3) then (w64 (0 - (gt (gt x1 x2) x3))) else (gt (gt x1 x2) x3)) l2.length (some (.next ((l2.set (if (w64 (0 - (gt (gt x1 x2) x3))) > (gt (gt x1 x2) x3) then (w64 (0 - (gt (gt x1 x2) x3))) else (gt (gt x1 x2) x3)).toNat (w64 ((gt l2 (if (w64 (0 - (gt (gt x1 x2) x3))) > (gt (gt x1 x2) x3) then (w64 (0 - (gt (gt x1 x2) x3))) else (gt (gt x1 x2) x3))) + 1))), (w64 (x3 + 1)))))))) else some (.brk (l2, x3)))

def spec_l07Is.b1 (x1 : List (List Int)) : (List Int) × Int → Option (LR ((List Int) × Int) Bool) := fun p => match p with | (l1, x2) => (bif (decide (x2 < (x1.length : Int))) then chk x2 x1.length ((bif (((gt x1 x2).length : Int) != 3) then some (.ret (false)) else (loop (spec_l07Is.b0 x1 x2) (l1, 0)).bind (ln (fun p => match p with | (l2, x3) => some (.next (l2, (w64 (x2 + 1)))))))) else some (.brk (l1, x2)))

def spec_l07Is.b2 (x1 : List (List Int)) (l1 : List Int) : Int → Option (LR Int Bool) := fun x4 => (bif (decide (x4 ≤ (w64 (Int.tdiv (w64 ((x1.length : Int) * 3)) 2)))) then chk x4 l1.length ((bif ((gt l1 x4) != 2) then some (.ret (false)) else some (.next (w64 (x4 + 1))))) else some (.brk x4))

def spec_l07Is.f (x1 : List (List Int)) : Option Bool := (bif (((decide ((x1.length : Int) < 2)) || (decide ((x1.length : Int) > 12))) || ((Int.tmod (x1.length : Int) 2) != 0)) then some false else grd (decide (0 ≤ (w64 ((w64 (Int.tdiv (w64 ((x1.length : Int) * 3)) 2)) + 1)))) (small (w64 ((w64 (Int.tdiv (w64 ((x1.length : Int) * 3)) 2)) + 1)).toNat ((loop (spec_l07Is.b1 x1) ((List.replicate (w64 ((w64 (Int.tdiv (w64 ((x1.length : Int) * 3)) 2)) + 1)).toNat (0 : Int)), 0)).bind (ln (fun p => match p with | (l1, x2) => (loop (spec_l07Is.b2 x1 l1) 1).bind (ln (fun x4 => some true)))))))

def spec_l07Is.R (r : Bool) (v : Value) (L : List Asn) : Prop := v = .bool r ∧ L = []

set_option maxRecDepth 100000 in
set_option maxHeartbeats 4000000 in
theorem spec_l07Is.calls (w : World) (s1 : SV) (ss1 : List SV) (x1 : List (List Int)) (h1 : ReadsM Ei (hp w) s1 ss1 x1) :
    ∀ r, spec_l07Is.f x1 = some r → Calls Try.prog 53 #[SV.v s1] w (Ret w (spec_l07Is.R r)) := by

  refine calls_T (n := 98) (Γ := [(0, SV.v s1)]) (R := spec_l07Is.R) Try.func53 rfl rfl (Nat.le_of_ble_eq_true rfl) ⟨rfl, trivial⟩ ?_
  unfold spec_l07Is.f
  refine TC.seq ?_
  refine TC.region ?_
  refine TL.assign rfl rfl (v := .bool false) rfl ?_
  refine TL.done ?_
  refine TC.seq ?_
  refine TC.seq ?_
  refine TC.region ?_
  refine TL.move rfl rfl (v := SV.v s1) rfl ?_
  refine TL.lenM (RdM.old h1) Try.underlying22 rfl rfl rfl ?_
  refine TL.bin .i64 (x1.length : Int) 2 rfl rfl rfl rfl (v := .bool (decide ((x1.length : Int) < 2))) rfl ?_
  refine TL.move rfl rfl (v := .bool (decide ((x1.length : Int) < 2))) rfl ?_
  refine TL.cutU 4 [(15, .bool ((decide ((x1.length : Int) < 2)) || (decide ((x1.length : Int) > 12)))), (0, SV.v s1), (2, .bool false), (8, SV.v s1), (9, .int .i64 (x1.length : Int)), (10, .bool (decide ((x1.length : Int) < 2))), (11, .bool (decide ((x1.length : Int) < 2)))] [] ?_ ?_
  · refine TL.cases (t := 11) (b := (decide ((x1.length : Int) < 2))) rfl (fun c1 => ?_) (fun c2 => ?_)
    · refine TL.skip rfl rfl (by decide) ?_
      refine TL.skip rfl rfl (by decide) ?_
      refine TL.skip rfl rfl (by decide) ?_
      refine TL.pick rfl rfl (b := true) rfl (r := .bool true) rfl ?_
      refine TL.done ?_
      exact TC.nrm () () ⟨(by rw [c1]; rfl), rfl, rfl, rfl, rfl, rfl, (by rw [c1]; rfl), trivial⟩ [] rfl
    · refine TL.move rfl rfl (v := SV.v s1) rfl ?_
      refine TL.lenM (RdM.old h1) Try.underlying22 rfl rfl rfl ?_
      refine TL.bin .i64 (x1.length : Int) 12 rfl rfl rfl rfl (v := .bool (decide ((x1.length : Int) > 12))) rfl ?_
      refine TL.pick rfl rfl (b := false) rfl (r := .bool (decide ((x1.length : Int) > 12))) rfl ?_
      refine TL.done ?_
      exact TC.nrm () () ⟨(by rw [c2]; rfl), rfl, rfl, rfl, rfl, rfl, (by rw [c2]; rfl), trivial⟩ [] rfl
  · refine TL.move rfl rfl (v := .bool ((decide ((x1.length : Int) < 2)) || (decide ((x1.length : Int) > 12)))) rfl ?_
    refine TL.cutU 5 [(21, .bool (((decide ((x1.length : Int) < 2)) || (decide ((x1.length : Int) > 12))) || ((Int.tmod (x1.length : Int) 2) != 0))), (0, SV.v s1), (2, .bool false), (8, SV.v s1), (9, .int .i64 (x1.length : Int)), (10, .bool (decide ((x1.length : Int) < 2))), (11, .bool (decide ((x1.length : Int) < 2))), (15, .bool ((decide ((x1.length : Int) < 2)) || (decide ((x1.length : Int) > 12)))), (16, .bool ((decide ((x1.length : Int) < 2)) || (decide ((x1.length : Int) > 12))))] [] ?_ ?_
    · refine TL.cases (t := 16) (b := ((decide ((x1.length : Int) < 2)) || (decide ((x1.length : Int) > 12)))) rfl (fun c3 => ?_) (fun c4 => ?_)
      · refine TL.skip rfl rfl (by decide) ?_
        refine TL.skip rfl rfl (by decide) ?_
        refine TL.skip rfl rfl (by decide) ?_
        refine TL.skip rfl rfl (by decide) ?_
        refine TL.pick rfl rfl (b := true) rfl (r := .bool true) rfl ?_
        refine TL.done ?_
        exact TC.nrm () () ⟨(by rw [c3]; rfl), rfl, rfl, rfl, rfl, rfl, rfl, rfl, (by rw [c3]; rfl), trivial⟩ [] rfl
      · refine TL.move rfl rfl (v := SV.v s1) rfl ?_
        refine TL.lenM (RdM.old h1) Try.underlying22 rfl rfl rfl ?_
        refine TL.rem .i64 (x1.length : Int) 2 (by decide) rfl rfl rfl rfl ?_
        refine TL.bin .i64 (Int.tmod (x1.length : Int) 2) 0 rfl rfl rfl rfl (v := .bool ((Int.tmod (x1.length : Int) 2) != 0)) rfl ?_
        refine TL.pick rfl rfl (b := false) rfl (r := .bool ((Int.tmod (x1.length : Int) 2) != 0)) rfl ?_
        refine TL.done ?_
        exact TC.nrm () () ⟨(by rw [c4]; rfl), rfl, rfl, rfl, rfl, rfl, rfl, rfl, (by rw [c4]; rfl), trivial⟩ [] rfl
    · refine TL.done ?_
      refine TC.cond (b := (((decide ((x1.length : Int) < 2)) || (decide ((x1.length : Int) > 12))) || ((Int.tmod (x1.length : Int) 2) != 0))) rfl (fun c5 => ?_) (fun c6 => ?_)
      · refine TC.seq ?_
        refine TC.region ?_
        refine TL.assign rfl rfl (v := .bool false) rfl ?_
        refine TL.done ?_
        exact TC.retF (Fin.body (fin1 (.inr rfl) rfl (.tmp rfl) [] rfl ⟨rfl, rfl⟩))
      · refine TC.skip ?_
        refine TC.seq ?_
        refine TC.region ?_
        refine TL.move rfl rfl (v := SV.v s1) rfl ?_
        refine TL.lenM (RdM.old h1) Try.underlying22 rfl rfl rfl ?_
        refine TL.bin .i64 (x1.length : Int) 3 rfl rfl rfl rfl (v := .int .i64 (w64 ((x1.length : Int) * 3))) rfl ?_
        refine TL.quo .i64 (w64 ((x1.length : Int) * 3)) 2 (by decide) rfl rfl rfl rfl ?_
        refine TL.assign rfl rfl (v := .int .i64 (w64 (Int.tdiv (w64 ((x1.length : Int) * 3)) 2))) rfl ?_
        refine TL.done ?_
        refine TC.seq ?_
        refine TC.region ?_
        refine TL.move rfl rfl (v := .int .i64 (w64 (Int.tdiv (w64 ((x1.length : Int) * 3)) 2))) rfl ?_
        refine TL.bin .i64 (w64 (Int.tdiv (w64 ((x1.length : Int) * 3)) 2)) 1 rfl rfl rfl rfl (v := .int .i64 (w64 ((w64 (Int.tdiv (w64 ((x1.length : Int) * 3)) 2)) + 1))) rfl ?_
        refine TL.grd fun h3 => ?_
        refine TL.small fun h2 => ?_
        refine TL.mkslice Ei (0 : Int) (w64 ((w64 (Int.tdiv (w64 ((x1.length : Int) * 3)) 2)) + 1)) Try.underlying53 (info_of Try.type2) (zv := (Try.t2.zero.getD (.bool false))) rfl rfl rfl (by simp [Ei, flat, Seg.cells]) (by decide) (by simpa using h3) (by omega) rfl rfl rfl rfl fun s2 => ?_
        refine TL.assign rfl rfl (v := SV.v s2) rfl ?_
        refine TL.done ?_
        refine TC.seq ?_
        refine TC.seq ?_
        refine TC.region ?_
        refine TL.assign rfl rfl (v := .int .i64 0) rfl ?_
        refine TL.done ?_
        refine TC.loopK (σ := (List Int) × Int) (γ := Unit) (Γ' := (fun p q => match p, q with | (l1, x2), _ => [(0, SV.v s1), (3, .int .i64 (w64 (Int.tdiv (w64 ((x1.length : Int) * 3)) 2))), (4, SV.v s2), (5, .int .i64 x2)])) (L' := (fun p q => match p, q with | (l1, x2), _ => [row Ei 2 s2 l1])) (Γb := (fun p q => match p, q with | (l1, x2), _ => [(0, SV.v s1), (3, .int .i64 (w64 (Int.tdiv (w64 ((x1.length : Int) * 3)) 2))), (4, SV.v s2), (5, .int .i64 x2)])) (Lb := (fun p q => match p, q with | (l1, x2), _ => [row Ei 2 s2 l1])) (((List.replicate (w64 ((w64 (Int.tdiv (w64 ((x1.length : Int) * 3)) 2)) + 1)).toNat (0 : Int)), 0)) (()) ⟨rfl, rfl, rfl, rfl, trivial⟩ [0] rfl ?_ ?_
        · rintro ⟨l1, x2⟩ _
          refine TC.seq ?_
          refine TC.seq ?_
          refine TC.region ?_
          refine TL.move rfl rfl (v := .int .i64 x2) rfl ?_
          refine TL.move rfl rfl (v := SV.v s1) rfl ?_
          refine TL.lenM (RdM.old h1) Try.underlying22 rfl rfl rfl ?_
          refine TL.bin .i64 x2 (x1.length : Int) rfl rfl rfl rfl (v := .bool (decide (x2 < (x1.length : Int)))) rfl ?_
          refine TL.done ?_
          refine TC.cond (b := (decide (x2 < (x1.length : Int)))) rfl (fun c7 => ?_) (fun c8 => ?_)
          · refine TC.skip ?_
            refine TC.seq ?_
            refine TC.block (NoEx.loop rfl NoEx.body) ?_
            refine TC.seq ?_
            refine TC.seq ?_
            refine TC.region ?_
            refine TL.move rfl rfl (v := SV.v s1) rfl ?_
            refine TL.move rfl rfl (v := .int .i64 x2) rfl ?_
            refine TL.chk fun h4 => ?_
            refine TL.ixsM x2 x2.toNat (RdM.old h1) h4 Try.underlying22 Try.sizeOf53 rfl rfl rfl rfl (by omega) ?_
            refine TL.loadM2 (RdM.old h1) Try.isAgg53 x2 h4 (by omega) rfl rfl rfl ?_
            refine TL.len (RdM.inn (RdM.old h1) h4) Try.underlying53 rfl rfl rfl ?_
            refine TL.bin .i64 ((gt x1 x2).length : Int) 3 rfl rfl rfl rfl (v := .bool (((gt x1 x2).length : Int) != 3)) rfl ?_
            refine TL.done ?_
            refine TC.cond (b := (((gt x1 x2).length : Int) != 3)) rfl (fun c9 => ?_) (fun c10 => ?_)
            · refine TC.seq ?_
              refine TC.region ?_
              refine TL.assign rfl rfl (v := .bool false) rfl ?_
              refine TL.done ?_
              exact TC.retF (Fin.loop Far.ret (Fin.body (fin1 (.inr rfl) rfl (.tmp rfl) [] rfl ⟨rfl, rfl⟩)))
            · refine TC.skip ?_
              refine TC.seq ?_
              refine TC.region ?_
              refine TL.assign rfl rfl (v := .int .i64 0) rfl ?_
              refine TL.done ?_
              refine TC.loopK (σ := (List Int) × Int) (γ := Unit) (Γ' := (fun p q => match p, q with | (l2, x3), _ => [(0, SV.v s1), (3, .int .i64 (w64 (Int.tdiv (w64 ((x1.length : Int) * 3)) 2))), (4, SV.v s2), (5, .int .i64 x2), (6, .int .i64 x3)])) (L' := (fun p q => match p, q with | (l2, x3), _ => [row Ei 2 s2 l2])) (Γb := (fun p q => match p, q with | (l2, x3), _ => [(0, SV.v s1), (3, .int .i64 (w64 (Int.tdiv (w64 ((x1.length : Int) * 3)) 2))), (4, SV.v s2), (5, .int .i64 x2), (6, .int .i64 x3)])) (Lb := (fun p q => match p, q with | (l2, x3), _ => [row Ei 2 s2 l2])) ((l1, 0)) (()) ⟨rfl, rfl, rfl, rfl, rfl, trivial⟩ [0] rfl ?_ ?_
              · rintro ⟨l2, x3⟩ _
                refine TC.seq ?_
                refine TC.seq ?_
                refine TC.region ?_
                refine TL.move rfl rfl (v := .int .i64 x3) rfl ?_
                refine TL.bin .i64 x3 3 rfl rfl rfl rfl (v := .bool (decide (x3 < 3))) rfl ?_
                refine TL.done ?_
                refine TC.cond (b := (decide (x3 < 3))) rfl (fun c11 => ?_) (fun c12 => ?_)
                · refine TC.skip ?_
                  refine TC.seq ?_
                  refine TC.block (NoEx.loop rfl (NoEx.loop rfl NoEx.body)) ?_
                  refine TC.seq ?_
                  refine TC.seq ?_
                  refine TC.region ?_
                  refine TL.move rfl rfl (v := SV.v s1) rfl ?_
                  refine TL.move rfl rfl (v := .int .i64 x2) rfl ?_
                  refine TL.ixsM x2 x2.toNat (RdM.old h1) h4 Try.underlying22 Try.sizeOf53 rfl rfl rfl rfl (by omega) ?_
                  refine TL.loadM2 (RdM.old h1) Try.isAgg53 x2 h4 (by omega) rfl rfl rfl ?_
                  refine TL.move rfl rfl (v := .int .i64 x3) rfl ?_
                  refine TL.chk fun h5 => ?_
                  refine TL.ixs x3 x3.toNat (RdM.inn (RdM.old h1) h4) h5 Try.underlying53 Try.sizeOf2 rfl rfl rfl rfl (by omega) ?_
                  refine TL.loadE (RdM.inn (RdM.old h1) h4) Try.isAgg2 x3.toNat 0 (gt_spec h5) (v := .int .i64 (gt (gt x1 x2) x3)) rfl (by simp only [show Ei.sz = 1 from rfl]; omega) rfl rfl rfl ?_
                  refine TL.move rfl rfl (v := .int .i64 (w64 (Int.tdiv (w64 ((x1.length : Int) * 3)) 2))) rfl ?_
                  refine TL.neg .i64 (w64 (Int.tdiv (w64 ((x1.length : Int) * 3)) 2)) rfl rfl rfl ?_
                  refine TL.move rfl rfl (v := .int .i64 (w64 (Int.tdiv (w64 ((x1.length : Int) * 3)) 2))) rfl ?_
                  refine TL.call (R := G.spec_l01In.R) Try.call58 rfl rfl rfl (fun w hS => G.spec_l01In.calls w (gt (gt x1 x2) x3) (w64 (0 - (w64 (Int.tdiv (w64 ((x1.length : Int) * 3)) 2)))) (w64 (Int.tdiv (w64 ((x1.length : Int) * 3)) 2))) ?_
                  rintro r_1 _ _ ⟨rfl, rfl⟩
                  refine TL.not r_1 rfl rfl rfl ?_
                  refine TL.move rfl rfl (v := .bool (!r_1)) rfl ?_
                  refine TL.cutU 9 [(66, .bool ((!r_1) || ((gt (gt x1 x2) x3) == 0))), (0, SV.v s1), (3, .int .i64 (w64 (Int.tdiv (w64 ((x1.length : Int) * 3)) 2))), (4, SV.v s2), (5, .int .i64 x2), (6, .int .i64 x3), (41, .int .i64 x3), (42, .bool (decide (x3 < 3))), (45, SV.v s1), (46, .int .i64 x2), (47, ep s1 x2.toNat), (48, SV.v (gt ss1 x2)), (49, .int .i64 x3), (50, ep (gt ss1 x2) x3.toNat), (51, .int .i64 (gt (gt x1 x2) x3)), (52, .int .i64 (w64 (Int.tdiv (w64 ((x1.length : Int) * 3)) 2))), (53, .int .i64 (w64 (0 - (w64 (Int.tdiv (w64 ((x1.length : Int) * 3)) 2))))), (54, .int .i64 (w64 (Int.tdiv (w64 ((x1.length : Int) * 3)) 2))), (55, .bool r_1), (56, .bool (!r_1)), (57, .bool (!r_1))] [row Ei 2 s2 l2] ?_ ?_
                  · refine TL.cases (t := 57) (b := (!r_1)) rfl (fun c13 => ?_) (fun c14 => ?_)
                    · refine TL.skip rfl rfl (by decide) ?_
                      refine TL.skip rfl rfl (by decide) ?_
                      refine TL.skip rfl rfl (by decide) ?_
                      refine TL.skip rfl rfl (by decide) ?_
                      refine TL.skip rfl rfl (by decide) ?_
                      refine TL.skip rfl rfl (by decide) ?_
                      refine TL.skip rfl rfl (by decide) ?_
                      refine TL.skip rfl rfl (by decide) ?_
                      refine TL.pick rfl rfl (b := true) rfl (r := .bool true) rfl ?_
                      refine TL.done ?_
                      exact TC.nrm () () ⟨(by rw [c13]; rfl), rfl, rfl, rfl, rfl, rfl, rfl, rfl, rfl, rfl, rfl, rfl, rfl, rfl, rfl, rfl, rfl, rfl, rfl, rfl, (by rw [c13]; rfl), trivial⟩ [0] rfl
                    · refine TL.move rfl rfl (v := SV.v s1) rfl ?_
                      refine TL.move rfl rfl (v := .int .i64 x2) rfl ?_
                      refine TL.ixsM x2 x2.toNat (RdM.old h1) h4 Try.underlying22 Try.sizeOf53 rfl rfl rfl rfl (by omega) ?_
                      refine TL.loadM2 (RdM.old h1) Try.isAgg53 x2 h4 (by omega) rfl rfl rfl ?_
                      refine TL.move rfl rfl (v := .int .i64 x3) rfl ?_
                      refine TL.ixs x3 x3.toNat (RdM.inn (RdM.old h1) h4) h5 Try.underlying53 Try.sizeOf2 rfl rfl rfl rfl (by omega) ?_
                      refine TL.loadE (RdM.inn (RdM.old h1) h4) Try.isAgg2 x3.toNat 0 (gt_spec h5) (v := .int .i64 (gt (gt x1 x2) x3)) rfl (by simp only [show Ei.sz = 1 from rfl]; omega) rfl rfl rfl ?_
                      refine TL.bin .i64 (gt (gt x1 x2) x3) 0 rfl rfl rfl rfl (v := .bool ((gt (gt x1 x2) x3) == 0)) rfl ?_
                      refine TL.pick rfl rfl (b := false) rfl (r := .bool ((gt (gt x1 x2) x3) == 0)) rfl ?_
                      refine TL.done ?_
                      exact TC.nrm () () ⟨(by rw [c14]; rfl), rfl, rfl, rfl, rfl, rfl, rfl, rfl, rfl, rfl, rfl, rfl, rfl, rfl, rfl, rfl, rfl, rfl, rfl, rfl, (by rw [c14]; rfl), trivial⟩ [0] rfl
                  · refine TL.done ?_
                    refine TC.cond (b := ((!r_1) || ((gt (gt x1 x2) x3) == 0))) rfl (fun c15 => ?_) (fun c16 => ?_)
                    · refine TC.seq ?_
                      refine TC.region ?_
                      refine TL.assign rfl rfl (v := .bool false) rfl ?_
                      refine TL.done ?_
                      exact TC.retF (Fin.loop Far.ret (Fin.loop Far.ret (Fin.body (fin1 (.inr rfl) rfl (.tmp rfl) [] rfl ⟨rfl, rfl⟩))))
                    · refine TC.skip ?_
                      refine TC.wk (Γ' := [(0, SV.v s1), (3, .int .i64 (w64 (Int.tdiv (w64 ((x1.length : Int) * 3)) 2))), (4, SV.v s2), (5, .int .i64 x2), (6, .int .i64 x3), (41, .int .i64 x3), (42, .bool (decide (x3 < 3))), (45, SV.v s1), (46, .int .i64 x2), (47, ep s1 x2.toNat), (48, SV.v (gt ss1 x2)), (49, .int .i64 x3), (50, ep (gt ss1 x2) x3.toNat), (51, .int .i64 (gt (gt x1 x2) x3)), (52, .int .i64 (w64 (Int.tdiv (w64 ((x1.length : Int) * 3)) 2))), (53, .int .i64 (w64 (0 - (w64 (Int.tdiv (w64 ((x1.length : Int) * 3)) 2))))), (54, .int .i64 (w64 (Int.tdiv (w64 ((x1.length : Int) * 3)) 2))), (55, .bool r_1), (56, .bool (!r_1)), (57, .bool (!r_1)), (66, .bool ((!r_1) || ((gt (gt x1 x2) x3) == 0)))]) ⟨rfl, rfl, rfl, rfl, rfl, rfl, rfl, rfl, rfl, rfl, rfl, rfl, rfl, rfl, rfl, rfl, rfl, rfl, rfl, rfl, rfl, trivial⟩ ?_
                      refine TC.chk fun h6 => ?_
                      refine TC.draw [SV.v s2, SV.v s1, .int .i64 x2, ep s1 x2.toNat, SV.v (gt ss1 x2), .int .i64 x3, ep (gt ss1 x2) x3.toNat, .int .i64 (gt (gt x1 x2) x3), SV.v s1, .int .i64 x2, ep s1 x2.toNat, SV.v (gt ss1 x2), .int .i64 x3, ep (gt ss1 x2) x3.toNat, .int .i64 (gt (gt x1 x2) x3), .int .i64 (w64 (0 - (gt (gt x1 x2) x3))), .int .i64 (if (w64 (0 - (gt (gt x1 x2) x3))) > (gt (gt x1 x2) x3) then (w64 (0 - (gt (gt x1 x2) x3))) else (gt (gt x1 x2) x3)), ep s2 ((if (w64 (0 - (gt (gt x1 x2) x3))) > (gt (gt x1 x2) x3) then (w64 (0 - (gt (gt x1 x2) x3))) else (gt (gt x1 x2) x3)).toNat), .int .i64 (gt l2 (if (w64 (0 - (gt (gt x1 x2) x3))) > (gt (gt x1 x2) x3) then (w64 (0 - (gt (gt x1 x2) x3))) else (gt (gt x1 x2) x3))), .int .i64 (w64 ((gt l2 (if (w64 (0 - (gt (gt x1 x2) x3))) > (gt (gt x1 x2) x3) then (w64 (0 - (gt (gt x1 x2) x3))) else (gt (gt x1 x2) x3))) + 1)), ep s2 ((if (w64 (0 - (gt (gt x1 x2) x3))) > (gt (gt x1 x2) x3) then (w64 (0 - (gt (gt x1 x2) x3))) else (gt (gt x1 x2) x3)).toNat), undef] 21 [row Ei 2 s2 (l2.set (if (w64 (0 - (gt (gt x1 x2) x3))) > (gt (gt x1 x2) x3) then (w64 (0 - (gt (gt x1 x2) x3))) else (gt (gt x1 x2) x3)).toNat (w64 ((gt l2 (if (w64 (0 - (gt (gt x1 x2) x3))) > (gt (gt x1 x2) x3) then (w64 (0 - (gt (gt x1 x2) x3))) else (gt (gt x1 x2) x3))) + 1)))] (by kernel_rfl) rfl rfl rfl rfl ?_ ?_
                      · refine ⟨?_, ?_, ?_, ?_, ?_, ?_, ?_, ?_, ?_, ?_, ?_, ?_, ?_, ?_, ?_, ?_, ?_, ?_, ?_, ?_, ?_, ?_, trivial⟩
                        · refine TL.move rfl rfl (v := SV.v s2) rfl ?_
                          refine TL.done ?_
                          exact TC.nrm () () ⟨rfl, trivial⟩ [0] rfl
                        · refine TL.move rfl rfl (v := SV.v s1) rfl ?_
                          refine TL.done ?_
                          exact TC.nrm () () ⟨rfl, trivial⟩ [0] rfl
                        · refine TL.move rfl rfl (v := .int .i64 x2) rfl ?_
                          refine TL.done ?_
                          exact TC.nrm () () ⟨rfl, trivial⟩ [0] rfl
                        · refine TL.ixsM x2 x2.toNat (RdM.old h1) h4 Try.underlying22 Try.sizeOf53 rfl rfl rfl rfl (by omega) ?_
                          refine TL.done ?_
                          exact TC.nrm () () ⟨rfl, trivial⟩ [0] rfl
                        · refine TL.loadM2 (RdM.old h1) Try.isAgg53 x2 h4 (by omega) rfl rfl rfl ?_
                          refine TL.done ?_
                          exact TC.nrm () () ⟨rfl, trivial⟩ [0] rfl
                        · refine TL.move rfl rfl (v := .int .i64 x3) rfl ?_
                          refine TL.done ?_
                          exact TC.nrm () () ⟨rfl, trivial⟩ [0] rfl
                        · refine TL.ixs x3 x3.toNat (RdM.inn (RdM.old h1) h4) h5 Try.underlying53 Try.sizeOf2 rfl rfl rfl rfl (by omega) ?_
                          refine TL.done ?_
                          exact TC.nrm () () ⟨rfl, trivial⟩ [0] rfl
                        · refine TL.loadE (RdM.inn (RdM.old h1) h4) Try.isAgg2 x3.toNat 0 (gt_spec h5) (v := .int .i64 (gt (gt x1 x2) x3)) rfl (by simp only [show Ei.sz = 1 from rfl]; omega) rfl rfl rfl ?_
                          refine TL.done ?_
                          exact TC.nrm () () ⟨rfl, trivial⟩ [0] rfl
                        · refine TL.move rfl rfl (v := SV.v s1) rfl ?_
                          refine TL.done ?_
                          exact TC.nrm () () ⟨rfl, trivial⟩ [0] rfl
                        · refine TL.move rfl rfl (v := .int .i64 x2) rfl ?_
                          refine TL.done ?_
                          exact TC.nrm () () ⟨rfl, trivial⟩ [0] rfl
                        · refine TL.ixsM x2 x2.toNat (RdM.old h1) h4 Try.underlying22 Try.sizeOf53 rfl rfl rfl rfl (by omega) ?_
                          refine TL.done ?_
                          exact TC.nrm () () ⟨rfl, trivial⟩ [0] rfl
                        · refine TL.loadM2 (RdM.old h1) Try.isAgg53 x2 h4 (by omega) rfl rfl rfl ?_
                          refine TL.done ?_
                          exact TC.nrm () () ⟨rfl, trivial⟩ [0] rfl
                        · refine TL.move rfl rfl (v := .int .i64 x3) rfl ?_
                          refine TL.done ?_
                          exact TC.nrm () () ⟨rfl, trivial⟩ [0] rfl
                        · refine TL.ixs x3 x3.toNat (RdM.inn (RdM.old h1) h4) h5 Try.underlying53 Try.sizeOf2 rfl rfl rfl rfl (by omega) ?_
                          refine TL.done ?_
                          exact TC.nrm () () ⟨rfl, trivial⟩ [0] rfl
                        · refine TL.loadE (RdM.inn (RdM.old h1) h4) Try.isAgg2 x3.toNat 0 (gt_spec h5) (v := .int .i64 (gt (gt x1 x2) x3)) rfl (by simp only [show Ei.sz = 1 from rfl]; omega) rfl rfl rfl ?_
                          refine TL.done ?_
                          exact TC.nrm () () ⟨rfl, trivial⟩ [0] rfl
                        · refine TL.neg .i64 (gt (gt x1 x2) x3) rfl rfl rfl ?_
                          refine TL.done ?_
                          exact TC.nrm () () ⟨rfl, trivial⟩ [0] rfl
                        · refine TL.max2 rfl rfl rfl rfl ?_
                          refine TL.done ?_
                          exact TC.nrm () () ⟨rfl, trivial⟩ [0] rfl
                        · refine TL.ixs (if (w64 (0 - (gt (gt x1 x2) x3))) > (gt (gt x1 x2) x3) then (w64 (0 - (gt (gt x1 x2) x3))) else (gt (gt x1 x2) x3)) ((if (w64 (0 - (gt (gt x1 x2) x3))) > (gt (gt x1 x2) x3) then (w64 (0 - (gt (gt x1 x2) x3))) else (gt (gt x1 x2) x3)).toNat) (Rd.row 0 rfl) h6 Try.underlying53 Try.sizeOf2 rfl rfl rfl rfl (by omega) ?_
                          refine TL.done ?_
                          exact TC.nrm () () ⟨rfl, trivial⟩ [0] rfl
                        · refine TL.loadE (Rd.row 0 rfl) Try.isAgg2 (if (w64 (0 - (gt (gt x1 x2) x3))) > (gt (gt x1 x2) x3) then (w64 (0 - (gt (gt x1 x2) x3))) else (gt (gt x1 x2) x3)).toNat 0 (gt_spec h6) (v := .int .i64 (gt l2 (if (w64 (0 - (gt (gt x1 x2) x3))) > (gt (gt x1 x2) x3) then (w64 (0 - (gt (gt x1 x2) x3))) else (gt (gt x1 x2) x3)))) rfl (by simp only [show Ei.sz = 1 from rfl]; omega) rfl rfl rfl ?_
                          refine TL.done ?_
                          exact TC.nrm () () ⟨rfl, trivial⟩ [0] rfl
                        · refine TL.bin .i64 (gt l2 (if (w64 (0 - (gt (gt x1 x2) x3))) > (gt (gt x1 x2) x3) then (w64 (0 - (gt (gt x1 x2) x3))) else (gt (gt x1 x2) x3))) 1 rfl rfl rfl rfl (v := .int .i64 (w64 ((gt l2 (if (w64 (0 - (gt (gt x1 x2) x3))) > (gt (gt x1 x2) x3) then (w64 (0 - (gt (gt x1 x2) x3))) else (gt (gt x1 x2) x3))) + 1))) rfl ?_
                          refine TL.done ?_
                          exact TC.nrm () () ⟨rfl, trivial⟩ [0] rfl
                        · refine TL.ixs (if (w64 (0 - (gt (gt x1 x2) x3))) > (gt (gt x1 x2) x3) then (w64 (0 - (gt (gt x1 x2) x3))) else (gt (gt x1 x2) x3)) ((if (w64 (0 - (gt (gt x1 x2) x3))) > (gt (gt x1 x2) x3) then (w64 (0 - (gt (gt x1 x2) x3))) else (gt (gt x1 x2) x3)).toNat) (Rd.row 0 rfl) h6 Try.underlying53 Try.sizeOf2 rfl rfl rfl rfl (by omega) ?_
                          refine TL.done ?_
                          exact TC.nrm () () ⟨rfl, trivial⟩ [0] rfl
                        · refine TL.stE 0 ((if (w64 (0 - (gt (gt x1 x2) x3))) > (gt (gt x1 x2) x3) then (w64 (0 - (gt (gt x1 x2) x3))) else (gt (gt x1 x2) x3)).toNat) (w64 ((gt l2 (if (w64 (0 - (gt (gt x1 x2) x3))) > (gt (gt x1 x2) x3) then (w64 (0 - (gt (gt x1 x2) x3))) else (gt (gt x1 x2) x3))) + 1)) (v := .int .i64 (w64 ((gt l2 (if (w64 (0 - (gt (gt x1 x2) x3))) > (gt (gt x1 x2) x3) then (w64 (0 - (gt (gt x1 x2) x3))) else (gt (gt x1 x2) x3))) + 1))) rfl Try.sizeOf2 rfl rfl rfl (by have h_ := h6; omega) (by simp only [show Ei.sz = 1 from rfl]; omega) rfl rfl rfl ?_
                          refine TL.done ?_
                          exact TC.nrm () () trivial [0] rfl
                      · refine TC.region ?_
                        refine TL.move rfl rfl (v := .int .i64 x3) rfl ?_
                        refine TL.bin .i64 x3 1 rfl rfl rfl rfl (v := .int .i64 (w64 (x3 + 1))) rfl ?_
                        refine TL.assign rfl rfl (v := .int .i64 (w64 (x3 + 1))) rfl ?_
                        refine TL.done ?_
                        exact TC.next (((l2.set (if (w64 (0 - (gt (gt x1 x2) x3))) > (gt (gt x1 x2) x3) then (w64 (0 - (gt (gt x1 x2) x3))) else (gt (gt x1 x2) x3)).toNat (w64 ((gt l2 (if (w64 (0 - (gt (gt x1 x2) x3))) > (gt (gt x1 x2) x3) then (w64 (0 - (gt (gt x1 x2) x3))) else (gt (gt x1 x2) x3))) + 1))), (w64 (x3 + 1)))) (()) ⟨rfl, rfl, rfl, rfl, rfl, trivial⟩ [0] rfl
                · exact TC.brk ((l2, x3)) (()) ⟨rfl, rfl, rfl, rfl, rfl, trivial⟩ [0] rfl
              · rintro ⟨l2, x3⟩ _
                refine TC.region ?_
                refine TL.move rfl rfl (v := .int .i64 x2) rfl ?_
                refine TL.bin .i64 x2 1 rfl rfl rfl rfl (v := .int .i64 (w64 (x2 + 1))) rfl ?_
                refine TL.assign rfl rfl (v := .int .i64 (w64 (x2 + 1))) rfl ?_
                refine TL.done ?_
                exact TC.next ((l2, (w64 (x2 + 1)))) (()) ⟨rfl, rfl, rfl, rfl, trivial⟩ [0] rfl
          · exact TC.brk ((l1, x2)) (()) ⟨rfl, rfl, rfl, rfl, trivial⟩ [0] rfl
        · rintro ⟨l1, x2⟩ _
          refine TC.seq ?_
          refine TC.seq ?_
          refine TC.region ?_
          refine TL.assign rfl rfl (v := .int .i64 1) rfl ?_
          refine TL.done ?_
          refine TC.loopK (σ := Int) (γ := Unit) (Γ' := (fun x4 _ => [(3, .int .i64 (w64 (Int.tdiv (w64 ((x1.length : Int) * 3)) 2))), (4, SV.v s2), (7, .int .i64 x4)])) (L' := (fun x4 _ => [row Ei 2 s2 l1])) (Γb := (fun x4 _ => [(3, .int .i64 (w64 (Int.tdiv (w64 ((x1.length : Int) * 3)) 2))), (4, SV.v s2), (7, .int .i64 x4)])) (Lb := (fun x4 _ => [row Ei 2 s2 l1])) (1) (()) ⟨rfl, rfl, rfl, trivial⟩ [0] rfl ?_ ?_
          · rintro x4 _
            refine TC.seq ?_
            refine TC.seq ?_
            refine TC.region ?_
            refine TL.move rfl rfl (v := .int .i64 x4) rfl ?_
            refine TL.move rfl rfl (v := .int .i64 (w64 (Int.tdiv (w64 ((x1.length : Int) * 3)) 2))) rfl ?_
            refine TL.bin .i64 x4 (w64 (Int.tdiv (w64 ((x1.length : Int) * 3)) 2)) rfl rfl rfl rfl (v := .bool (decide (x4 ≤ (w64 (Int.tdiv (w64 ((x1.length : Int) * 3)) 2))))) rfl ?_
            refine TL.done ?_
            refine TC.cond (b := (decide (x4 ≤ (w64 (Int.tdiv (w64 ((x1.length : Int) * 3)) 2))))) rfl (fun c17 => ?_) (fun c18 => ?_)
            · refine TC.skip ?_
              refine TC.seq ?_
              refine TC.block (NoEx.loop rfl NoEx.body) ?_
              refine TC.seq ?_
              refine TC.region ?_
              refine TL.move rfl rfl (v := SV.v s2) rfl ?_
              refine TL.move rfl rfl (v := .int .i64 x4) rfl ?_
              refine TL.chk fun h7 => ?_
              refine TL.ixs x4 x4.toNat (Rd.row 0 rfl) h7 Try.underlying53 Try.sizeOf2 rfl rfl rfl rfl (by omega) ?_
              refine TL.loadE (Rd.row 0 rfl) Try.isAgg2 x4.toNat 0 (gt_spec h7) (v := .int .i64 (gt l1 x4)) rfl (by simp only [show Ei.sz = 1 from rfl]; omega) rfl rfl rfl ?_
              refine TL.bin .i64 (gt l1 x4) 2 rfl rfl rfl rfl (v := .bool ((gt l1 x4) != 2)) rfl ?_
              refine TL.done ?_
              refine TC.cond (b := ((gt l1 x4) != 2)) rfl (fun c19 => ?_) (fun c20 => ?_)
              · refine TC.seq ?_
                refine TC.region ?_
                refine TL.assign rfl rfl (v := .bool false) rfl ?_
                refine TL.done ?_
                exact TC.retF (Fin.loop Far.ret (Fin.body (fin1 (.inr rfl) rfl (.tmp rfl) [] rfl ⟨rfl, rfl⟩)))
              · refine TC.skip ?_
                refine TC.region ?_
                refine TL.move rfl rfl (v := .int .i64 x4) rfl ?_
                refine TL.bin .i64 x4 1 rfl rfl rfl rfl (v := .int .i64 (w64 (x4 + 1))) rfl ?_
                refine TL.assign rfl rfl (v := .int .i64 (w64 (x4 + 1))) rfl ?_
                refine TL.done ?_
                exact TC.next ((w64 (x4 + 1))) (()) ⟨rfl, rfl, rfl, trivial⟩ [0] rfl
            · exact TC.brk (x4) (()) ⟨rfl, rfl, rfl, trivial⟩ [0] rfl
          · rintro x4 _
            refine TC.seq ?_
            refine TC.region ?_
            refine TL.assign rfl rfl (v := .bool true) rfl ?_
            refine TL.done ?_
            exact TC.retF (Fin.body (fin1 (.inr rfl) rfl (.tmp rfl) [] rfl ⟨rfl, rfl⟩))

end Go.Proofs.Ytnppkcemnjkboaa.G
