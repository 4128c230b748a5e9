/- Functions of the program, as pure functions. -/
import Derived.Test.YtiiljfpbcanphaaMFnSurfacesS2
import Derived.Test.YtiiljfpbcanphaaProg
/- spec.l01In, as a pure function. -/
set_option linter.unusedVariables false
namespace Go.Proofs.Ytiiljfpbcanphaa.G
open Go Go.Sx Go.Proofs

def spec_l01In.f (n_1 : Int) (low1 : Int) (high1 : Int) : Option Bool := some ((decide (n_1 ≥ low1)) && (decide (n_1 ≤ high1)))

def spec_l01In.R (r : Bool) (v : Value) (L : List Asn) : Prop := v = .bool r ∧ L = []

set_option maxRecDepth 100000 in
set_option maxHeartbeats 4000000 in
theorem spec_l01In.calls (w : World) (n_1 : Int) (low1 : Int) (high1 : Int) :
  ∀ r, spec_l01In.f n_1 low1 high1 = some r → Calls Try.prog 69 #[.int .i64 n_1, .int .i64 low1, .int .i64 high1] w (Ret w (spec_l01In.R r)) := by

 refine calls_T (n := 15) (Γ := [(0, .int .i64 n_1), (1, .int .i64 low1), (2, .int .i64 high1)]) (R := spec_l01In.R) Try.func69 rfl rfl (Nat.le_of_ble_eq_true rfl) ⟨rfl, rfl, rfl, trivial⟩ ?_
 unfold spec_l01In.f
 refine TC.seq ?_
 refine TC.region ?_
 refine TL.assign rfl rfl (v := .bool false) rfl ?_
 refine TL.done ?_
 refine TC.seq ?_
 refine TC.region ?_
 refine TL.move rfl rfl (v := .int .i64 n_1) rfl ?_
 refine TL.move rfl rfl (v := .int .i64 low1) rfl ?_
 refine TL.bin .i64 n_1 low1 rfl rfl rfl rfl (v := .bool (decide (n_1 ≥ low1))) rfl ?_
 refine TL.move rfl rfl (v := .bool (decide (n_1 ≥ low1))) rfl ?_
 refine TL.cutU 4 [(14, .bool ((decide (n_1 ≥ low1)) && (decide (n_1 ≤ high1)))), (0, .int .i64 n_1), (1, .int .i64 low1), (2, .int .i64 high1), (6, .bool false), (7, .int .i64 n_1), (8, .int .i64 low1), (9, .bool (decide (n_1 ≥ low1))), (10, .bool (decide (n_1 ≥ low1)))] [] ?_ ?_
 ·refine TL.cases (t := 10) (b := (decide (n_1 ≥ low1))) rfl (fun c1 => ?_) (fun c2 => ?_)
  ·refine TL.move rfl rfl (v := .int .i64 n_1) rfl ?_
   refine TL.move rfl rfl (v := .int .i64 high1) rfl ?_
   refine TL.bin .i64 n_1 high1 rfl rfl rfl rfl (v := .bool (decide (n_1 ≤ high1))) rfl ?_
   refine TL.pick rfl rfl (b := true) rfl (r := .bool (decide (n_1 ≤ high1))) rfl ?_
   refine TL.done ?_
   exact TC.nrm () () ⟨(by rw [c1]; rfl), rfl, rfl, rfl, rfl, rfl, rfl, rfl, (by rw [c1]; rfl), trivial⟩ [] (by kernel_rfl)
  ·refine TL.skip rfl rfl (by decide) ?_
   refine TL.skip rfl rfl (by decide) ?_
   refine TL.skip rfl rfl (by decide) ?_
   refine TL.pick rfl rfl (b := false) rfl (r := .bool false) rfl ?_
   refine TL.done ?_
   exact TC.nrm () () ⟨(by rw [c2]; rfl), rfl, rfl, rfl, rfl, rfl, rfl, rfl, (by rw [c2]; rfl), trivial⟩ [] (by kernel_rfl)
 ·refine TL.assign rfl rfl (v := .bool ((decide (n_1 ≥ low1)) && (decide (n_1 ≤ high1)))) rfl ?_
  refine TL.done ?_
  exact TC.retF (Fin.body (fin1 (.inr rfl) rfl (.tmp rfl) [] rfl ⟨rfl, rfl⟩))

end Go.Proofs.Ytiiljfpbcanphaa.G

/- spec.l07Is, as a pure function. -/
set_option linter.unusedVariables false
namespace Go.Proofs.Ytiiljfpbcanphaa.G
open Go Go.Sx Go.Proofs

def spec_l07Is.b0 (x1 : List (List Int)) (x2 : Int) : (List Int) × Int → Option (LR ((List Int) × Int) (LR ((List Int) × Int) Bool)) := fun p => match p with | (l2, x3) => (bif (decide (x3 < 3)) then chk x3 ((gt x1 x2).length) ((G.spec_l01In.f (gt (gt x1 x2) x3) (w64 (0 - (w64 (Int.tdiv (w64 ((x1.length : Int) * 3)) 2)))) (w64 (Int.tdiv (w64 ((x1.length : Int) * 3)) 2))).bind (fun r_1 => (bif ((!r_1) || ((gt (gt x1 x2) x3) == 0)) then some (.ret (.ret (false))) else chk (if (w64 (0 - (gt (gt x1 x2) x3))) > (gt (gt x1 x2) x3) then (w64 (0 - (gt (gt x1 x2) x3))) else (gt (gt x1 x2) x3)) l2.length (some (.next ((l2.set (if (w64 (0 - (gt (gt x1 x2) x3))) > (gt (gt x1 x2) x3) then (w64 (0 - (gt (gt x1 x2) x3))) else (gt (gt x1 x2) x3)).toNat (w64 ((gt l2 (if (w64 (0 - (gt (gt x1 x2) x3))) > (gt (gt x1 x2) x3) then (w64 (0 - (gt (gt x1 x2) x3))) else (gt (gt x1 x2) x3))) + 1))), (w64 (x3 + 1)))))))) else some (.brk (l2, x3)))

def spec_l07Is.b1 (x1 : List (List Int)) : (List Int) × Int → Option (LR ((List Int) × Int) Bool) := fun p => match p with | (l1, x2) => (bif (decide (x2 < (x1.length : Int))) then chk x2 x1.length ((bif (((gt x1 x2).length : Int) != 3) then some (.ret (false)) else (loop (spec_l07Is.b0 x1 x2) (l1, 0)).bind (ln (fun p => match p with | (l2, x3) => some (.next (l2, (w64 (x2 + 1)))))))) else some (.brk (l1, x2)))

def spec_l07Is.b2 (x1 : List (List Int)) (l1 : List Int) : Int → Option (LR Int Bool) := fun x4 => (bif (decide (x4 ≤ (w64 (Int.tdiv (w64 ((x1.length : Int) * 3)) 2)))) then chk x4 l1.length ((bif ((gt l1 x4) != 2) then some (.ret (false)) else some (.next (w64 (x4 + 1))))) else some (.brk x4))

def spec_l07Is.f (x1 : List (List Int)) : Option Bool := (bif (((decide ((x1.length : Int) < 2)) || (decide ((x1.length : Int) > 12))) || ((Int.tmod (x1.length : Int) 2) != 0)) then some false else grd (decide (0 ≤ (w64 ((w64 (Int.tdiv (w64 ((x1.length : Int) * 3)) 2)) + 1)))) (small (w64 ((w64 (Int.tdiv (w64 ((x1.length : Int) * 3)) 2)) + 1)).toNat ((loop (spec_l07Is.b1 x1) ((List.replicate (w64 ((w64 (Int.tdiv (w64 ((x1.length : Int) * 3)) 2)) + 1)).toNat (0 : Int)), 0)).bind (ln (fun p => match p with | (l1, x2) => (loop (spec_l07Is.b2 x1 l1) 1).bind (ln (fun x4 => some true)))))))

def spec_l07Is.R (r : Bool) (v : Value) (L : List Asn) : Prop := v = .bool r ∧ L = []

set_option maxRecDepth 100000 in
set_option maxHeartbeats 4000000 in
theorem spec_l07Is.calls (w : World) (s1 : SV) (ss1 : List SV) (x1 : List (List Int)) (h1 : ReadsM Ei (hp w) s1 ss1 x1) :
  ∀ r, spec_l07Is.f x1 = some r → Calls Try.prog 100 #[SV.v s1] w (Ret w (spec_l07Is.R r)) := by

 refine calls_T (n := 98) (Γ := [(0, SV.v s1)]) (R := spec_l07Is.R) Try.func100 rfl rfl (Nat.le_of_ble_eq_true rfl) ⟨rfl, trivial⟩ ?_
 unfold spec_l07Is.f
 refine TC.seq ?_
 refine TC.region ?_
 refine TL.assign rfl rfl (v := .bool false) rfl ?_
 refine TL.done ?_
 refine TC.seq ?_
 refine TC.seq ?_
 refine TC.region ?_
 refine TL.move rfl rfl (v := SV.v s1) rfl ?_
 refine TL.lenM (RdM.old h1) Try.underlying32 rfl rfl rfl ?_
 refine TL.bin .i64 (x1.length : Int) 2 rfl rfl rfl rfl (v := .bool (decide ((x1.length : Int) < 2))) rfl ?_
 refine TL.move rfl rfl (v := .bool (decide ((x1.length : Int) < 2))) rfl ?_
 refine TL.cutU 4 [(15, .bool ((decide ((x1.length : Int) < 2)) || (decide ((x1.length : Int) > 12)))), (0, SV.v s1), (2, .bool false), (8, SV.v s1), (9, .int .i64 (x1.length : Int)), (10, .bool (decide ((x1.length : Int) < 2))), (11, .bool (decide ((x1.length : Int) < 2)))] [] ?_ ?_
 ·refine TL.cases (t := 11) (b := (decide ((x1.length : Int) < 2))) rfl (fun c1 => ?_) (fun c2 => ?_)
  ·refine TL.skip rfl rfl (by decide) ?_
   refine TL.skip rfl rfl (by decide) ?_
   refine TL.skip rfl rfl (by decide) ?_
   refine TL.pick rfl rfl (b := true) rfl (r := .bool true) rfl ?_
   refine TL.done ?_
   exact TC.nrm () () ⟨(by rw [c1]; rfl), rfl, rfl, rfl, rfl, rfl, (by rw [c1]; rfl), trivial⟩ [] (by kernel_rfl)
  ·refine TL.move rfl rfl (v := SV.v s1) rfl ?_
   refine TL.lenM (RdM.old h1) Try.underlying32 rfl rfl rfl ?_
   refine TL.bin .i64 (x1.length : Int) 12 rfl rfl rfl rfl (v := .bool (decide ((x1.length : Int) > 12))) rfl ?_
   refine TL.pick rfl rfl (b := false) rfl (r := .bool (decide ((x1.length : Int) > 12))) rfl ?_
   refine TL.done ?_
   exact TC.nrm () () ⟨(by rw [c2]; rfl), rfl, rfl, rfl, rfl, rfl, (by rw [c2]; rfl), trivial⟩ [] (by kernel_rfl)
 ·refine TL.move rfl rfl (v := .bool ((decide ((x1.length : Int) < 2)) || (decide ((x1.length : Int) > 12)))) rfl ?_
  refine TL.cutU 5 [(21, .bool (((decide ((x1.length : Int) < 2)) || (decide ((x1.length : Int) > 12))) || ((Int.tmod (x1.length : Int) 2) != 0))), (0, SV.v s1), (2, .bool false), (8, SV.v s1), (9, .int .i64 (x1.length : Int)), (10, .bool (decide ((x1.length : Int) < 2))), (11, .bool (decide ((x1.length : Int) < 2))), (15, .bool ((decide ((x1.length : Int) < 2)) || (decide ((x1.length : Int) > 12)))), (16, .bool ((decide ((x1.length : Int) < 2)) || (decide ((x1.length : Int) > 12))))] [] ?_ ?_
  ·refine TL.cases (t := 16) (b := ((decide ((x1.length : Int) < 2)) || (decide ((x1.length : Int) > 12)))) rfl (fun c3 => ?_) (fun c4 => ?_)
   ·refine TL.skip rfl rfl (by decide) ?_
    refine TL.skip rfl rfl (by decide) ?_
    refine TL.skip rfl rfl (by decide) ?_
    refine TL.skip rfl rfl (by decide) ?_
    refine TL.pick rfl rfl (b := true) rfl (r := .bool true) rfl ?_
    refine TL.done ?_
    exact TC.nrm () () ⟨(by rw [c3]; rfl), rfl, rfl, rfl, rfl, rfl, rfl, rfl, (by rw [c3]; rfl), trivial⟩ [] (by kernel_rfl)
   ·refine TL.move rfl rfl (v := SV.v s1) rfl ?_
    refine TL.lenM (RdM.old h1) Try.underlying32 rfl rfl rfl ?_
    refine TL.rem .i64 (x1.length : Int) 2 (by decide) rfl rfl rfl rfl ?_
    refine TL.bin .i64 (Int.tmod (x1.length : Int) 2) 0 rfl rfl rfl rfl (v := .bool ((Int.tmod (x1.length : Int) 2) != 0)) rfl ?_
    refine TL.pick rfl rfl (b := false) rfl (r := .bool ((Int.tmod (x1.length : Int) 2) != 0)) rfl ?_
    refine TL.done ?_
    exact TC.nrm () () ⟨(by rw [c4]; rfl), rfl, rfl, rfl, rfl, rfl, rfl, rfl, (by rw [c4]; rfl), trivial⟩ [] (by kernel_rfl)
  ·refine TL.done ?_
   refine TC.cond (b := (((decide ((x1.length : Int) < 2)) || (decide ((x1.length : Int) > 12))) || ((Int.tmod (x1.length : Int) 2) != 0))) rfl (fun c5 => ?_) (fun c6 => ?_)
   ·refine TC.seq ?_
    refine TC.region ?_
    refine TL.assign rfl rfl (v := .bool false) rfl ?_
    refine TL.done ?_
    exact TC.retF (Fin.body (fin1 (.inr rfl) rfl (.tmp rfl) [] rfl ⟨rfl, rfl⟩))
   ·refine TC.skip ?_
    refine TC.seq ?_
    refine TC.region ?_
    refine TL.move rfl rfl (v := SV.v s1) rfl ?_
    refine TL.lenM (RdM.old h1) Try.underlying32 rfl rfl rfl ?_
    refine TL.bin .i64 (x1.length : Int) 3 rfl rfl rfl rfl (v := .int .i64 (w64 ((x1.length : Int) * 3))) rfl ?_
    refine TL.quo .i64 (w64 ((x1.length : Int) * 3)) 2 (by decide) rfl rfl rfl rfl ?_
    refine TL.assign rfl rfl (v := .int .i64 (w64 (Int.tdiv (w64 ((x1.length : Int) * 3)) 2))) rfl ?_
    refine TL.done ?_
    refine TC.seq ?_
    refine TC.region ?_
    refine TL.move rfl rfl (v := .int .i64 (w64 (Int.tdiv (w64 ((x1.length : Int) * 3)) 2))) rfl ?_
    refine TL.bin .i64 (w64 (Int.tdiv (w64 ((x1.length : Int) * 3)) 2)) 1 rfl rfl rfl rfl (v := .int .i64 (w64 ((w64 (Int.tdiv (w64 ((x1.length : Int) * 3)) 2)) + 1))) rfl ?_
    refine TL.grd fun h3 => ?_
    refine TL.small fun h2 => ?_
    refine TL.mkslice Ei (0 : Int) (w64 ((w64 (Int.tdiv (w64 ((x1.length : Int) * 3)) 2)) + 1)) Try.underlying22 (info_of Try.type2) (zv := (Try.t2.zero.getD (.bool false))) rfl rfl rfl (by simp [Ei, flat, Seg.cells]) (by decide) (by simpa using h3) (by omega) rfl rfl rfl rfl fun s2 => ?_
    refine TL.assign rfl rfl (v := SV.v s2) rfl ?_
    refine TL.done ?_
    refine TC.seq ?_
    refine TC.seq ?_
    refine TC.region ?_
    refine TL.assign rfl rfl (v := .int .i64 0) rfl ?_
    refine TL.done ?_
    refine TC.loopK (σ := (List Int) × Int) (γ := Unit) (Γ' := (fun p q => match p, q with | (l1, x2), _ => [(0, SV.v s1), (3, .int .i64 (w64 (Int.tdiv (w64 ((x1.length : Int) * 3)) 2))), (4, SV.v s2), (5, .int .i64 x2)])) (L' := (fun p q => match p, q with | (l1, x2), _ => [row Ei 2 s2 l1])) (Γb := (fun p q => match p, q with | (l1, x2), _ => [(0, SV.v s1), (3, .int .i64 (w64 (Int.tdiv (w64 ((x1.length : Int) * 3)) 2))), (4, SV.v s2), (5, .int .i64 x2)])) (Lb := (fun p q => match p, q with | (l1, x2), _ => [row Ei 2 s2 l1])) (((List.replicate (w64 ((w64 (Int.tdiv (w64 ((x1.length : Int) * 3)) 2)) + 1)).toNat (0 : Int)), 0)) (()) ⟨rfl, rfl, rfl, rfl, trivial⟩ [0] rfl ?_ ?_
    ·rintro ⟨l1, x2⟩ _
     refine TC.seq ?_
     refine TC.seq ?_
     refine TC.region ?_
     refine TL.move rfl rfl (v := .int .i64 x2) rfl ?_
     refine TL.move rfl rfl (v := SV.v s1) rfl ?_
     refine TL.lenM (RdM.old h1) Try.underlying32 rfl rfl rfl ?_
     refine TL.bin .i64 x2 (x1.length : Int) rfl rfl rfl rfl (v := .bool (decide (x2 < (x1.length : Int)))) rfl ?_
     refine TL.done ?_
     refine TC.cond (b := (decide (x2 < (x1.length : Int)))) rfl (fun c7 => ?_) (fun c8 => ?_)
     ·refine TC.skip ?_
      refine TC.seq ?_
      refine TC.block (NoEx.loop rfl NoEx.body) ?_
      refine TC.seq ?_
      refine TC.seq ?_
      refine TC.region ?_
      refine TL.move rfl rfl (v := SV.v s1) rfl ?_
      refine TL.move rfl rfl (v := .int .i64 x2) rfl ?_
      refine TL.chk fun h4 => ?_
      refine TL.ixsM x2 x2.toNat (RdM.old h1) h4 Try.underlying32 Try.sizeOf22 rfl rfl rfl rfl (by omega) ?_
      refine TL.loadM2 (RdM.old h1) Try.isAgg22 x2 h4 (by omega) rfl rfl rfl ?_
      refine TL.len (RdM.inn (RdM.old h1) h4) Try.underlying22 rfl rfl rfl ?_
      refine TL.bin .i64 ((gt x1 x2).length : Int) 3 rfl rfl rfl rfl (v := .bool (((gt x1 x2).length : Int) != 3)) rfl ?_
      refine TL.done ?_
      refine TC.cond (b := (((gt x1 x2).length : Int) != 3)) rfl (fun c9 => ?_) (fun c10 => ?_)
      ·refine TC.seq ?_
       refine TC.region ?_
       refine TL.assign rfl rfl (v := .bool false) rfl ?_
       refine TL.done ?_
       exact TC.retF (Fin.loop Far.ret (Fin.body (fin1 (.inr rfl) rfl (.tmp rfl) [] rfl ⟨rfl, rfl⟩)))
      ·refine TC.skip ?_
       refine TC.seq ?_
       refine TC.region ?_
       refine TL.assign rfl rfl (v := .int .i64 0) rfl ?_
       refine TL.done ?_
       refine TC.loopK (σ := (List Int) × Int) (γ := Unit) (Γ' := (fun p q => match p, q with | (l2, x3), _ => [(0, SV.v s1), (3, .int .i64 (w64 (Int.tdiv (w64 ((x1.length : Int) * 3)) 2))), (4, SV.v s2), (5, .int .i64 x2), (6, .int .i64 x3)])) (L' := (fun p q => match p, q with | (l2, x3), _ => [row Ei 2 s2 l2])) (Γb := (fun p q => match p, q with | (l2, x3), _ => [(0, SV.v s1), (3, .int .i64 (w64 (Int.tdiv (w64 ((x1.length : Int) * 3)) 2))), (4, SV.v s2), (5, .int .i64 x2), (6, .int .i64 x3)])) (Lb := (fun p q => match p, q with | (l2, x3), _ => [row Ei 2 s2 l2])) ((l1, 0)) (()) ⟨rfl, rfl, rfl, rfl, rfl, trivial⟩ [0] rfl ?_ ?_
       ·rintro ⟨l2, x3⟩ _
        refine TC.seq ?_
        refine TC.seq ?_
        refine TC.region ?_
        refine TL.move rfl rfl (v := .int .i64 x3) rfl ?_
        refine TL.bin .i64 x3 3 rfl rfl rfl rfl (v := .bool (decide (x3 < 3))) rfl ?_
        refine TL.done ?_
        refine TC.cond (b := (decide (x3 < 3))) rfl (fun c11 => ?_) (fun c12 => ?_)
        ·refine TC.skip ?_
         refine TC.seq ?_
         refine TC.block (NoEx.loop rfl (NoEx.loop rfl NoEx.body)) ?_
         refine TC.seq ?_
         refine TC.seq ?_
         refine TC.region ?_
         refine TL.move rfl rfl (v := SV.v s1) rfl ?_
         refine TL.move rfl rfl (v := .int .i64 x2) rfl ?_
         refine TL.ixsM x2 x2.toNat (RdM.old h1) h4 Try.underlying32 Try.sizeOf22 rfl rfl rfl rfl (by omega) ?_
         refine TL.loadM2 (RdM.old h1) Try.isAgg22 x2 h4 (by omega) rfl rfl rfl ?_
         refine TL.move rfl rfl (v := .int .i64 x3) rfl ?_
         refine TL.chk fun h5 => ?_
         refine TL.ixs x3 x3.toNat (RdM.inn (RdM.old h1) h4) h5 Try.underlying22 Try.sizeOf2 rfl rfl rfl rfl (by omega) ?_
         refine TL.loadE (RdM.inn (RdM.old h1) h4) Try.isAgg2 x3.toNat 0 (gt_spec h5) (v := .int .i64 (gt (gt x1 x2) x3)) rfl (by simp only [show Ei.sz = 1 from rfl] <;> omega) rfl rfl rfl ?_
         refine TL.move rfl rfl (v := .int .i64 (w64 (Int.tdiv (w64 ((x1.length : Int) * 3)) 2))) rfl ?_
         refine TL.neg .i64 (w64 (Int.tdiv (w64 ((x1.length : Int) * 3)) 2)) rfl rfl rfl ?_
         refine TL.move rfl rfl (v := .int .i64 (w64 (Int.tdiv (w64 ((x1.length : Int) * 3)) 2))) rfl ?_
         refine TL.call (R := G.spec_l01In.R) Try.call69 rfl rfl rfl (fun w hS => G.spec_l01In.calls w (gt (gt x1 x2) x3) (w64 (0 - (w64 (Int.tdiv (w64 ((x1.length : Int) * 3)) 2)))) (w64 (Int.tdiv (w64 ((x1.length : Int) * 3)) 2))) ?_
         rintro r_1 _ _ ⟨rfl, rfl⟩
         refine TL.not r_1 rfl rfl rfl ?_
         refine TL.move rfl rfl (v := .bool (!r_1)) rfl ?_
         refine TL.cutU 9 [(66, .bool ((!r_1) || ((gt (gt x1 x2) x3) == 0))), (0, SV.v s1), (3, .int .i64 (w64 (Int.tdiv (w64 ((x1.length : Int) * 3)) 2))), (4, SV.v s2), (5, .int .i64 x2), (6, .int .i64 x3), (41, .int .i64 x3), (42, .bool (decide (x3 < 3))), (45, SV.v s1), (46, .int .i64 x2), (47, ep s1 x2.toNat), (48, SV.v (gt ss1 x2)), (49, .int .i64 x3), (50, ep (gt ss1 x2) x3.toNat), (51, .int .i64 (gt (gt x1 x2) x3)), (52, .int .i64 (w64 (Int.tdiv (w64 ((x1.length : Int) * 3)) 2))), (53, .int .i64 (w64 (0 - (w64 (Int.tdiv (w64 ((x1.length : Int) * 3)) 2))))), (54, .int .i64 (w64 (Int.tdiv (w64 ((x1.length : Int) * 3)) 2))), (55, .bool r_1), (56, .bool (!r_1)), (57, .bool (!r_1))] [row Ei 2 s2 l2] ?_ ?_
         ·refine TL.cases (t := 57) (b := (!r_1)) rfl (fun c13 => ?_) (fun c14 => ?_)
          ·refine TL.skip rfl rfl (by decide) ?_
           refine TL.skip rfl rfl (by decide) ?_
           refine TL.skip rfl rfl (by decide) ?_
           refine TL.skip rfl rfl (by decide) ?_
           refine TL.skip rfl rfl (by decide) ?_
           refine TL.skip rfl rfl (by decide) ?_
           refine TL.skip rfl rfl (by decide) ?_
           refine TL.skip rfl rfl (by decide) ?_
           refine TL.pick rfl rfl (b := true) rfl (r := .bool true) rfl ?_
           refine TL.done ?_
           exact TC.nrm () () ⟨(by rw [c13]; rfl), rfl, rfl, rfl, rfl, rfl, rfl, rfl, rfl, rfl, rfl, rfl, rfl, rfl, rfl, rfl, rfl, rfl, rfl, rfl, (by rw [c13]; rfl), trivial⟩ [0] (by kernel_rfl)
          ·refine TL.move rfl rfl (v := SV.v s1) rfl ?_
           refine TL.move rfl rfl (v := .int .i64 x2) rfl ?_
           refine TL.ixsM x2 x2.toNat (RdM.old h1) h4 Try.underlying32 Try.sizeOf22 rfl rfl rfl rfl (by omega) ?_
           refine TL.loadM2 (RdM.old h1) Try.isAgg22 x2 h4 (by omega) rfl rfl rfl ?_
           refine TL.move rfl rfl (v := .int .i64 x3) rfl ?_
           refine TL.ixs x3 x3.toNat (RdM.inn (RdM.old h1) h4) h5 Try.underlying22 Try.sizeOf2 rfl rfl rfl rfl (by omega) ?_
           refine TL.loadE (RdM.inn (RdM.old h1) h4) Try.isAgg2 x3.toNat 0 (gt_spec h5) (v := .int .i64 (gt (gt x1 x2) x3)) rfl (by simp only [show Ei.sz = 1 from rfl] <;> omega) rfl rfl rfl ?_
           refine TL.bin .i64 (gt (gt x1 x2) x3) 0 rfl rfl rfl rfl (v := .bool ((gt (gt x1 x2) x3) == 0)) rfl ?_
           refine TL.pick rfl rfl (b := false) rfl (r := .bool ((gt (gt x1 x2) x3) == 0)) rfl ?_
           refine TL.done ?_
           exact TC.nrm () () ⟨(by rw [c14]; rfl), rfl, rfl, rfl, rfl, rfl, rfl, rfl, rfl, rfl, rfl, rfl, rfl, rfl, rfl, rfl, rfl, rfl, rfl, rfl, (by rw [c14]; rfl), trivial⟩ [0] (by kernel_rfl)
         ·refine TL.done ?_
          refine TC.cond (b := ((!r_1) || ((gt (gt x1 x2) x3) == 0))) rfl (fun c15 => ?_) (fun c16 => ?_)
          ·refine TC.seq ?_
           refine TC.region ?_
           refine TL.assign rfl rfl (v := .bool false) rfl ?_
           refine TL.done ?_
           exact TC.retF (Fin.loop Far.ret (Fin.loop Far.ret (Fin.body (fin1 (.inr rfl) rfl (.tmp rfl) [] rfl ⟨rfl, rfl⟩))))
          ·refine TC.skip ?_
           refine TC.wk (Γ' := [(0, SV.v s1), (3, .int .i64 (w64 (Int.tdiv (w64 ((x1.length : Int) * 3)) 2))), (4, SV.v s2), (5, .int .i64 x2), (6, .int .i64 x3), (41, .int .i64 x3), (42, .bool (decide (x3 < 3))), (45, SV.v s1), (46, .int .i64 x2), (47, ep s1 x2.toNat), (48, SV.v (gt ss1 x2)), (49, .int .i64 x3), (50, ep (gt ss1 x2) x3.toNat), (51, .int .i64 (gt (gt x1 x2) x3)), (52, .int .i64 (w64 (Int.tdiv (w64 ((x1.length : Int) * 3)) 2))), (53, .int .i64 (w64 (0 - (w64 (Int.tdiv (w64 ((x1.length : Int) * 3)) 2))))), (54, .int .i64 (w64 (Int.tdiv (w64 ((x1.length : Int) * 3)) 2))), (55, .bool r_1), (56, .bool (!r_1)), (57, .bool (!r_1)), (66, .bool ((!r_1) || ((gt (gt x1 x2) x3) == 0)))]) ⟨rfl, rfl, rfl, rfl, rfl, rfl, rfl, rfl, rfl, rfl, rfl, rfl, rfl, rfl, rfl, rfl, rfl, rfl, rfl, rfl, rfl, trivial⟩ ?_
           refine TC.chk fun h6 => ?_
           refine TC.draw [SV.v s2, SV.v s1, .int .i64 x2, ep s1 x2.toNat, SV.v (gt ss1 x2), .int .i64 x3, ep (gt ss1 x2) x3.toNat, .int .i64 (gt (gt x1 x2) x3), SV.v s1, .int .i64 x2, ep s1 x2.toNat, SV.v (gt ss1 x2), .int .i64 x3, ep (gt ss1 x2) x3.toNat, .int .i64 (gt (gt x1 x2) x3), .int .i64 (w64 (0 - (gt (gt x1 x2) x3))), .int .i64 (if (w64 (0 - (gt (gt x1 x2) x3))) > (gt (gt x1 x2) x3) then (w64 (0 - (gt (gt x1 x2) x3))) else (gt (gt x1 x2) x3)), ep s2 ((if (w64 (0 - (gt (gt x1 x2) x3))) > (gt (gt x1 x2) x3) then (w64 (0 - (gt (gt x1 x2) x3))) else (gt (gt x1 x2) x3)).toNat), .int .i64 (gt l2 (if (w64 (0 - (gt (gt x1 x2) x3))) > (gt (gt x1 x2) x3) then (w64 (0 - (gt (gt x1 x2) x3))) else (gt (gt x1 x2) x3))), .int .i64 (w64 ((gt l2 (if (w64 (0 - (gt (gt x1 x2) x3))) > (gt (gt x1 x2) x3) then (w64 (0 - (gt (gt x1 x2) x3))) else (gt (gt x1 x2) x3))) + 1)), ep s2 ((if (w64 (0 - (gt (gt x1 x2) x3))) > (gt (gt x1 x2) x3) then (w64 (0 - (gt (gt x1 x2) x3))) else (gt (gt x1 x2) x3)).toNat), undef] 21 [row Ei 2 s2 (l2.set (if (w64 (0 - (gt (gt x1 x2) x3))) > (gt (gt x1 x2) x3) then (w64 (0 - (gt (gt x1 x2) x3))) else (gt (gt x1 x2) x3)).toNat (w64 ((gt l2 (if (w64 (0 - (gt (gt x1 x2) x3))) > (gt (gt x1 x2) x3) then (w64 (0 - (gt (gt x1 x2) x3))) else (gt (gt x1 x2) x3))) + 1)))] (by kernel_rfl) rfl rfl rfl rfl ?_ ?_
           ·refine ⟨?_, ?_, ?_, ?_, ?_, ?_, ?_, ?_, ?_, ?_, ?_, ?_, ?_, ?_, ?_, ?_, ?_, ?_, ?_, ?_, ?_, ?_, trivial⟩
            ·refine TL.move rfl rfl (v := SV.v s2) rfl ?_
             refine TL.done ?_
             exact TC.nrm () () ⟨rfl, trivial⟩ [0] (by kernel_rfl)
            ·refine TL.move rfl rfl (v := SV.v s1) rfl ?_
             refine TL.done ?_
             exact TC.nrm () () ⟨rfl, trivial⟩ [0] (by kernel_rfl)
            ·refine TL.move rfl rfl (v := .int .i64 x2) rfl ?_
             refine TL.done ?_
             exact TC.nrm () () ⟨rfl, trivial⟩ [0] (by kernel_rfl)
            ·refine TL.ixsM x2 x2.toNat (RdM.old h1) h4 Try.underlying32 Try.sizeOf22 rfl rfl rfl rfl (by omega) ?_
             refine TL.done ?_
             exact TC.nrm () () ⟨rfl, trivial⟩ [0] (by kernel_rfl)
            ·refine TL.loadM2 (RdM.old h1) Try.isAgg22 x2 h4 (by omega) rfl rfl rfl ?_
             refine TL.done ?_
             exact TC.nrm () () ⟨rfl, trivial⟩ [0] (by kernel_rfl)
            ·refine TL.move rfl rfl (v := .int .i64 x3) rfl ?_
             refine TL.done ?_
             exact TC.nrm () () ⟨rfl, trivial⟩ [0] (by kernel_rfl)
            ·refine TL.ixs x3 x3.toNat (RdM.inn (RdM.old h1) h4) h5 Try.underlying22 Try.sizeOf2 rfl rfl rfl rfl (by omega) ?_
             refine TL.done ?_
             exact TC.nrm () () ⟨rfl, trivial⟩ [0] (by kernel_rfl)
            ·refine TL.loadE (RdM.inn (RdM.old h1) h4) Try.isAgg2 x3.toNat 0 (gt_spec h5) (v := .int .i64 (gt (gt x1 x2) x3)) rfl (by simp only [show Ei.sz = 1 from rfl] <;> omega) rfl rfl rfl ?_
             refine TL.done ?_
             exact TC.nrm () () ⟨rfl, trivial⟩ [0] (by kernel_rfl)
            ·refine TL.move rfl rfl (v := SV.v s1) rfl ?_
             refine TL.done ?_
             exact TC.nrm () () ⟨rfl, trivial⟩ [0] (by kernel_rfl)
            ·refine TL.move rfl rfl (v := .int .i64 x2) rfl ?_
             refine TL.done ?_
             exact TC.nrm () () ⟨rfl, trivial⟩ [0] (by kernel_rfl)
            ·refine TL.ixsM x2 x2.toNat (RdM.old h1) h4 Try.underlying32 Try.sizeOf22 rfl rfl rfl rfl (by omega) ?_
             refine TL.done ?_
             exact TC.nrm () () ⟨rfl, trivial⟩ [0] (by kernel_rfl)
            ·refine TL.loadM2 (RdM.old h1) Try.isAgg22 x2 h4 (by omega) rfl rfl rfl ?_
             refine TL.done ?_
             exact TC.nrm () () ⟨rfl, trivial⟩ [0] (by kernel_rfl)
            ·refine TL.move rfl rfl (v := .int .i64 x3) rfl ?_
             refine TL.done ?_
             exact TC.nrm () () ⟨rfl, trivial⟩ [0] (by kernel_rfl)
            ·refine TL.ixs x3 x3.toNat (RdM.inn (RdM.old h1) h4) h5 Try.underlying22 Try.sizeOf2 rfl rfl rfl rfl (by omega) ?_
             refine TL.done ?_
             exact TC.nrm () () ⟨rfl, trivial⟩ [0] (by kernel_rfl)
            ·refine TL.loadE (RdM.inn (RdM.old h1) h4) Try.isAgg2 x3.toNat 0 (gt_spec h5) (v := .int .i64 (gt (gt x1 x2) x3)) rfl (by simp only [show Ei.sz = 1 from rfl] <;> omega) rfl rfl rfl ?_
             refine TL.done ?_
             exact TC.nrm () () ⟨rfl, trivial⟩ [0] (by kernel_rfl)
            ·refine TL.neg .i64 (gt (gt x1 x2) x3) rfl rfl rfl ?_
             refine TL.done ?_
             exact TC.nrm () () ⟨rfl, trivial⟩ [0] (by kernel_rfl)
            ·refine TL.max2 rfl rfl rfl rfl ?_
             refine TL.done ?_
             exact TC.nrm () () ⟨rfl, trivial⟩ [0] (by kernel_rfl)
            ·refine TL.ixs (if (w64 (0 - (gt (gt x1 x2) x3))) > (gt (gt x1 x2) x3) then (w64 (0 - (gt (gt x1 x2) x3))) else (gt (gt x1 x2) x3)) ((if (w64 (0 - (gt (gt x1 x2) x3))) > (gt (gt x1 x2) x3) then (w64 (0 - (gt (gt x1 x2) x3))) else (gt (gt x1 x2) x3)).toNat) (Rd.row 0 rfl) h6 Try.underlying22 Try.sizeOf2 rfl rfl rfl rfl (by omega) ?_
             refine TL.done ?_
             exact TC.nrm () () ⟨rfl, trivial⟩ [0] (by kernel_rfl)
            ·refine TL.loadE (Rd.row 0 rfl) Try.isAgg2 (if (w64 (0 - (gt (gt x1 x2) x3))) > (gt (gt x1 x2) x3) then (w64 (0 - (gt (gt x1 x2) x3))) else (gt (gt x1 x2) x3)).toNat 0 (gt_spec h6) (v := .int .i64 (gt l2 (if (w64 (0 - (gt (gt x1 x2) x3))) > (gt (gt x1 x2) x3) then (w64 (0 - (gt (gt x1 x2) x3))) else (gt (gt x1 x2) x3)))) rfl (by simp only [show Ei.sz = 1 from rfl] <;> omega) rfl rfl rfl ?_
             refine TL.done ?_
             exact TC.nrm () () ⟨rfl, trivial⟩ [0] (by kernel_rfl)
            ·refine TL.bin .i64 (gt l2 (if (w64 (0 - (gt (gt x1 x2) x3))) > (gt (gt x1 x2) x3) then (w64 (0 - (gt (gt x1 x2) x3))) else (gt (gt x1 x2) x3))) 1 rfl rfl rfl rfl (v := .int .i64 (w64 ((gt l2 (if (w64 (0 - (gt (gt x1 x2) x3))) > (gt (gt x1 x2) x3) then (w64 (0 - (gt (gt x1 x2) x3))) else (gt (gt x1 x2) x3))) + 1))) rfl ?_
             refine TL.done ?_
             exact TC.nrm () () ⟨rfl, trivial⟩ [0] (by kernel_rfl)
            ·refine TL.ixs (if (w64 (0 - (gt (gt x1 x2) x3))) > (gt (gt x1 x2) x3) then (w64 (0 - (gt (gt x1 x2) x3))) else (gt (gt x1 x2) x3)) ((if (w64 (0 - (gt (gt x1 x2) x3))) > (gt (gt x1 x2) x3) then (w64 (0 - (gt (gt x1 x2) x3))) else (gt (gt x1 x2) x3)).toNat) (Rd.row 0 rfl) h6 Try.underlying22 Try.sizeOf2 rfl rfl rfl rfl (by omega) ?_
             refine TL.done ?_
             exact TC.nrm () () ⟨rfl, trivial⟩ [0] (by kernel_rfl)
            ·refine TL.stE 0 ((if (w64 (0 - (gt (gt x1 x2) x3))) > (gt (gt x1 x2) x3) then (w64 (0 - (gt (gt x1 x2) x3))) else (gt (gt x1 x2) x3)).toNat) (w64 ((gt l2 (if (w64 (0 - (gt (gt x1 x2) x3))) > (gt (gt x1 x2) x3) then (w64 (0 - (gt (gt x1 x2) x3))) else (gt (gt x1 x2) x3))) + 1)) (v := .int .i64 (w64 ((gt l2 (if (w64 (0 - (gt (gt x1 x2) x3))) > (gt (gt x1 x2) x3) then (w64 (0 - (gt (gt x1 x2) x3))) else (gt (gt x1 x2) x3))) + 1))) rfl Try.sizeOf2 rfl rfl rfl (by have h_ := h6; omega) (by simp only [show Ei.sz = 1 from rfl] <;> omega) rfl rfl rfl ?_
             refine TL.done ?_
             exact TC.nrm () () trivial [0] (by kernel_rfl)
           ·refine TC.region ?_
            refine TL.move rfl rfl (v := .int .i64 x3) rfl ?_
            refine TL.bin .i64 x3 1 rfl rfl rfl rfl (v := .int .i64 (w64 (x3 + 1))) rfl ?_
            refine TL.assign rfl rfl (v := .int .i64 (w64 (x3 + 1))) rfl ?_
            refine TL.done ?_
            exact TC.next (((l2.set (if (w64 (0 - (gt (gt x1 x2) x3))) > (gt (gt x1 x2) x3) then (w64 (0 - (gt (gt x1 x2) x3))) else (gt (gt x1 x2) x3)).toNat (w64 ((gt l2 (if (w64 (0 - (gt (gt x1 x2) x3))) > (gt (gt x1 x2) x3) then (w64 (0 - (gt (gt x1 x2) x3))) else (gt (gt x1 x2) x3))) + 1))), (w64 (x3 + 1)))) (()) ⟨rfl, rfl, rfl, rfl, rfl, trivial⟩ [0] rfl
        ·exact TC.brk ((l2, x3)) (()) ⟨rfl, rfl, rfl, rfl, rfl, trivial⟩ [0] rfl
       ·rintro ⟨l2, x3⟩ _
        refine TC.region ?_
        refine TL.move rfl rfl (v := .int .i64 x2) rfl ?_
        refine TL.bin .i64 x2 1 rfl rfl rfl rfl (v := .int .i64 (w64 (x2 + 1))) rfl ?_
        refine TL.assign rfl rfl (v := .int .i64 (w64 (x2 + 1))) rfl ?_
        refine TL.done ?_
        exact TC.next ((l2, (w64 (x2 + 1)))) (()) ⟨rfl, rfl, rfl, rfl, trivial⟩ [0] rfl
     ·exact TC.brk ((l1, x2)) (()) ⟨rfl, rfl, rfl, rfl, trivial⟩ [0] rfl
    ·rintro ⟨l1, x2⟩ _
     refine TC.seq ?_
     refine TC.seq ?_
     refine TC.region ?_
     refine TL.assign rfl rfl (v := .int .i64 1) rfl ?_
     refine TL.done ?_
     refine TC.loopK (σ := Int) (γ := Unit) (Γ' := (fun x4 _ => [(3, .int .i64 (w64 (Int.tdiv (w64 ((x1.length : Int) * 3)) 2))), (4, SV.v s2), (7, .int .i64 x4)])) (L' := (fun x4 _ => [row Ei 2 s2 l1])) (Γb := (fun x4 _ => [(3, .int .i64 (w64 (Int.tdiv (w64 ((x1.length : Int) * 3)) 2))), (4, SV.v s2), (7, .int .i64 x4)])) (Lb := (fun x4 _ => [row Ei 2 s2 l1])) (1) (()) ⟨rfl, rfl, rfl, trivial⟩ [0] rfl ?_ ?_
     ·rintro x4 _
      refine TC.seq ?_
      refine TC.seq ?_
      refine TC.region ?_
      refine TL.move rfl rfl (v := .int .i64 x4) rfl ?_
      refine TL.move rfl rfl (v := .int .i64 (w64 (Int.tdiv (w64 ((x1.length : Int) * 3)) 2))) rfl ?_
      refine TL.bin .i64 x4 (w64 (Int.tdiv (w64 ((x1.length : Int) * 3)) 2)) rfl rfl rfl rfl (v := .bool (decide (x4 ≤ (w64 (Int.tdiv (w64 ((x1.length : Int) * 3)) 2))))) rfl ?_
      refine TL.done ?_
      refine TC.cond (b := (decide (x4 ≤ (w64 (Int.tdiv (w64 ((x1.length : Int) * 3)) 2))))) rfl (fun c17 => ?_) (fun c18 => ?_)
      ·refine TC.skip ?_
       refine TC.seq ?_
       refine TC.block (NoEx.loop rfl NoEx.body) ?_
       refine TC.seq ?_
       refine TC.region ?_
       refine TL.move rfl rfl (v := SV.v s2) rfl ?_
       refine TL.move rfl rfl (v := .int .i64 x4) rfl ?_
       refine TL.chk fun h7 => ?_
       refine TL.ixs x4 x4.toNat (Rd.row 0 rfl) h7 Try.underlying22 Try.sizeOf2 rfl rfl rfl rfl (by omega) ?_
       refine TL.loadE (Rd.row 0 rfl) Try.isAgg2 x4.toNat 0 (gt_spec h7) (v := .int .i64 (gt l1 x4)) rfl (by simp only [show Ei.sz = 1 from rfl] <;> omega) rfl rfl rfl ?_
       refine TL.bin .i64 (gt l1 x4) 2 rfl rfl rfl rfl (v := .bool ((gt l1 x4) != 2)) rfl ?_
       refine TL.done ?_
       refine TC.cond (b := ((gt l1 x4) != 2)) rfl (fun c19 => ?_) (fun c20 => ?_)
       ·refine TC.seq ?_
        refine TC.region ?_
        refine TL.assign rfl rfl (v := .bool false) rfl ?_
        refine TL.done ?_
        exact TC.retF (Fin.loop Far.ret (Fin.body (fin1 (.inr rfl) rfl (.tmp rfl) [] rfl ⟨rfl, rfl⟩)))
       ·refine TC.skip ?_
        refine TC.region ?_
        refine TL.move rfl rfl (v := .int .i64 x4) rfl ?_
        refine TL.bin .i64 x4 1 rfl rfl rfl rfl (v := .int .i64 (w64 (x4 + 1))) rfl ?_
        refine TL.assign rfl rfl (v := .int .i64 (w64 (x4 + 1))) rfl ?_
        refine TL.done ?_
        exact TC.next ((w64 (x4 + 1))) (()) ⟨rfl, rfl, rfl, trivial⟩ [0] rfl
      ·exact TC.brk (x4) (()) ⟨rfl, rfl, rfl, trivial⟩ [0] rfl
     ·rintro x4 _
      refine TC.seq ?_
      refine TC.region ?_
      refine TL.assign rfl rfl (v := .bool true) rfl ?_
      refine TL.done ?_
      exact TC.retF (Fin.body (fin1 (.inr rfl) rfl (.tmp rfl) [] rfl ⟨rfl, rfl⟩))

end Go.Proofs.Ytiiljfpbcanphaa.G

/- spec.l07Oriented, as a pure function. -/
set_option linter.unusedVariables false
namespace Go.Proofs.Ytiiljfpbcanphaa.G
open Go Go.Sx Go.Proofs

def spec_l07Oriented.b0 (x2 : Int) (x1 : List (List Int)) : (List Int) × Int → Option (LB ((List Int) × Int)) := fun p => match p with | (l2, x3) => (bif (decide (x3 < 3)) then chk x2 x1.length (chk x3 ((gt x1 x2).length) (((bif (decide ((gt (gt x1 x2) x3) > 0)) then chk (gt (gt x1 x2) x3) l2.length (some (l2.set (gt (gt x1 x2) x3).toNat (w64 ((gt l2 (gt (gt x1 x2) x3)) + 1)))) else chk (w64 (0 - (gt (gt x1 x2) x3))) l2.length (some (l2.set (w64 (0 - (gt (gt x1 x2) x3))).toNat (w64 ((gt l2 (w64 (0 - (gt (gt x1 x2) x3)))) - 1)))))).bind (fun l3 => some (.next (l3, (w64 (x3 + 1))))))) else some (.brk (l2, x3)))

def spec_l07Oriented.b1 (x1 : List (List Int)) : (List Int) × Int → Option (LB ((List Int) × Int)) := fun p => match p with | (l1, x2) => (bif (decide (x2 < (x1.length : Int))) then (loop1 (spec_l07Oriented.b0 x2 x1) (l1, 0)).bind (fun p => match p with | (l2, x3) => some (.next (l2, (w64 (x2 + 1))))) else some (.brk (l1, x2)))

def spec_l07Oriented.b2 (l1 : List Int) : Int → Option (LR Int Bool) := fun x4 => (bif (decide (x4 < (l1.length : Int))) then chk x4 l1.length ((bif ((gt l1 x4) != 0) then some (.ret (false)) else some (.next (w64 (x4 + 1))))) else some (.brk x4))

def spec_l07Oriented.f (x1 : List (List Int)) : Option Bool := grd (decide (0 ≤ (w64 ((w64 (Int.tdiv (w64 ((x1.length : Int) * 3)) 2)) + 1)))) (small (w64 ((w64 (Int.tdiv (w64 ((x1.length : Int) * 3)) 2)) + 1)).toNat ((loop1 (spec_l07Oriented.b1 x1) ((List.replicate (w64 ((w64 (Int.tdiv (w64 ((x1.length : Int) * 3)) 2)) + 1)).toNat (0 : Int)), 0)).bind (fun p => match p with | (l1, x2) => (loop (spec_l07Oriented.b2 l1) 0).bind (ln (fun x4 => some true)))))

def spec_l07Oriented.R (r : Bool) (v : Value) (L : List Asn) : Prop := v = .bool r ∧ L = []

set_option maxRecDepth 100000 in
set_option maxHeartbeats 4000000 in
theorem spec_l07Oriented.calls (w : World) (s1 : SV) (ss1 : List SV) (x1 : List (List Int)) (h1 : ReadsM Ei (hp w) s1 ss1 x1) :
  ∀ r, spec_l07Oriented.f x1 = some r → Calls Try.prog 121 #[SV.v s1] w (Ret w (spec_l07Oriented.R r)) := by

 refine calls_T (n := 67) (Γ := [(0, SV.v s1)]) (R := spec_l07Oriented.R) Try.func121 rfl rfl (Nat.le_of_ble_eq_true rfl) ⟨rfl, trivial⟩ ?_
 unfold spec_l07Oriented.f
 refine TC.seq ?_
 refine TC.region ?_
 refine TL.assign rfl rfl (v := .bool false) rfl ?_
 refine TL.done ?_
 refine TC.seq ?_
 refine TC.region ?_
 refine TL.move rfl rfl (v := SV.v s1) rfl ?_
 refine TL.lenM (RdM.old h1) Try.underlying32 rfl rfl rfl ?_
 refine TL.bin .i64 (x1.length : Int) 3 rfl rfl rfl rfl (v := .int .i64 (w64 ((x1.length : Int) * 3))) rfl ?_
 refine TL.quo .i64 (w64 ((x1.length : Int) * 3)) 2 (by decide) rfl rfl rfl rfl ?_
 refine TL.bin .i64 (w64 (Int.tdiv (w64 ((x1.length : Int) * 3)) 2)) 1 rfl rfl rfl rfl (v := .int .i64 (w64 ((w64 (Int.tdiv (w64 ((x1.length : Int) * 3)) 2)) + 1))) rfl ?_
 refine TL.grd fun h3 => ?_
 refine TL.small fun h2 => ?_
 refine TL.mkslice Ei (0 : Int) (w64 ((w64 (Int.tdiv (w64 ((x1.length : Int) * 3)) 2)) + 1)) Try.underlying22 (info_of Try.type2) (zv := (Try.t2.zero.getD (.bool false))) rfl rfl rfl (by simp [Ei, flat, Seg.cells]) (by decide) (by simpa using h3) (by omega) rfl rfl rfl rfl fun s2 => ?_
 refine TL.assign rfl rfl (v := SV.v s2) rfl ?_
 refine TL.done ?_
 refine TC.seq ?_
 refine TC.seq ?_
 refine TC.region ?_
 refine TL.assign rfl rfl (v := .int .i64 0) rfl ?_
 refine TL.done ?_
 refine TC.loop1 (σ := (List Int) × Int) (γ := Unit) (Γ' := (fun p q => match p, q with | (l1, x2), _ => [(0, SV.v s1), (3, SV.v s2), (4, .int .i64 x2)])) (L' := (fun p q => match p, q with | (l1, x2), _ => [row Ei 2 s2 l1])) (Γb := (fun p q => match p, q with | (l1, x2), _ => [(0, SV.v s1), (3, SV.v s2), (4, .int .i64 x2)])) (Lb := (fun p q => match p, q with | (l1, x2), _ => [row Ei 2 s2 l1])) (((List.replicate (w64 ((w64 (Int.tdiv (w64 ((x1.length : Int) * 3)) 2)) + 1)).toNat (0 : Int)), 0)) (()) ⟨rfl, rfl, rfl, trivial⟩ [0] rfl ?_ ?_
 ·rintro ⟨l1, x2⟩ _
  refine TC.seq ?_
  refine TC.seq ?_
  refine TC.region ?_
  refine TL.move rfl rfl (v := .int .i64 x2) rfl ?_
  refine TL.move rfl rfl (v := SV.v s1) rfl ?_
  refine TL.lenM (RdM.old h1) Try.underlying32 rfl rfl rfl ?_
  refine TL.bin .i64 x2 (x1.length : Int) rfl rfl rfl rfl (v := .bool (decide (x2 < (x1.length : Int)))) rfl ?_
  refine TL.done ?_
  refine TC.cond (b := (decide (x2 < (x1.length : Int)))) rfl (fun c1 => ?_) (fun c2 => ?_)
  ·refine TC.skip ?_
   refine TC.seq ?_
   refine TC.block (NoEx.loop1 rfl) ?_
   refine TC.seq ?_
   refine TC.region ?_
   refine TL.assign rfl rfl (v := .int .i64 0) rfl ?_
   refine TL.done ?_
   refine TC.loop1 (σ := (List Int) × Int) (γ := Unit) (Γ' := (fun p q => match p, q with | (l2, x3), _ => [(0, SV.v s1), (3, SV.v s2), (4, .int .i64 x2), (5, .int .i64 x3)])) (L' := (fun p q => match p, q with | (l2, x3), _ => [row Ei 2 s2 l2])) (Γb := (fun p q => match p, q with | (l2, x3), _ => [(0, SV.v s1), (3, SV.v s2), (4, .int .i64 x2), (5, .int .i64 x3)])) (Lb := (fun p q => match p, q with | (l2, x3), _ => [row Ei 2 s2 l2])) ((l1, 0)) (()) ⟨rfl, rfl, rfl, rfl, trivial⟩ [0] rfl ?_ ?_
   ·rintro ⟨l2, x3⟩ _
    refine TC.seq ?_
    refine TC.seq ?_
    refine TC.region ?_
    refine TL.move rfl rfl (v := .int .i64 x3) rfl ?_
    refine TL.bin .i64 x3 3 rfl rfl rfl rfl (v := .bool (decide (x3 < 3))) rfl ?_
    refine TL.done ?_
    refine TC.cond (b := (decide (x3 < 3))) rfl (fun c3 => ?_) (fun c4 => ?_)
    ·refine TC.skip ?_
     refine TC.seq ?_
     refine TC.block (NoEx.loop1 rfl) ?_
     refine TC.seq ?_
     refine TC.region ?_
     refine TL.move rfl rfl (v := SV.v s1) rfl ?_
     refine TL.move rfl rfl (v := .int .i64 x2) rfl ?_
     refine TL.chk fun h4 => ?_
     refine TL.ixsM x2 x2.toNat (RdM.old h1) h4 Try.underlying32 Try.sizeOf22 rfl rfl rfl rfl (by omega) ?_
     refine TL.loadM2 (RdM.old h1) Try.isAgg22 x2 h4 (by omega) rfl rfl rfl ?_
     refine TL.move rfl rfl (v := .int .i64 x3) rfl ?_
     refine TL.chk fun h5 => ?_
     refine TL.ixs x3 x3.toNat (RdM.inn (RdM.old h1) h4) h5 Try.underlying22 Try.sizeOf2 rfl rfl rfl rfl (by omega) ?_
     refine TL.loadE (RdM.inn (RdM.old h1) h4) Try.isAgg2 x3.toNat 0 (gt_spec h5) (v := .int .i64 (gt (gt x1 x2) x3)) rfl (by simp only [show Ei.sz = 1 from rfl] <;> omega) rfl rfl rfl ?_
     refine TL.bin .i64 (gt (gt x1 x2) x3) 0 rfl rfl rfl rfl (v := .bool (decide ((gt (gt x1 x2) x3) > 0))) rfl ?_
     refine TL.done ?_
     refine TC.join1 (σ := (List Int)) (γ := Unit) (Γ' := (fun l3 _ => [(0, SV.v s1), (3, SV.v s2), (4, .int .i64 x2), (5, .int .i64 x3)])) (L' := (fun l3 _ => [row Ei 2 s2 l3])) ?_ ?_
     ·refine TC.cond (b := (decide ((gt (gt x1 x2) x3) > 0))) rfl (fun c5 => ?_) (fun c6 => ?_)
      ·refine TC.region ?_
       refine TL.move rfl rfl (v := SV.v s2) rfl ?_
       refine TL.move rfl rfl (v := SV.v s1) rfl ?_
       refine TL.move rfl rfl (v := .int .i64 x2) rfl ?_
       refine TL.ixsM x2 x2.toNat (RdM.old h1) h4 Try.underlying32 Try.sizeOf22 rfl rfl rfl rfl (by omega) ?_
       refine TL.loadM2 (RdM.old h1) Try.isAgg22 x2 h4 (by omega) rfl rfl rfl ?_
       refine TL.move rfl rfl (v := .int .i64 x3) rfl ?_
       refine TL.ixs x3 x3.toNat (RdM.inn (RdM.old h1) h4) h5 Try.underlying22 Try.sizeOf2 rfl rfl rfl rfl (by omega) ?_
       refine TL.loadE (RdM.inn (RdM.old h1) h4) Try.isAgg2 x3.toNat 0 (gt_spec h5) (v := .int .i64 (gt (gt x1 x2) x3)) rfl (by simp only [show Ei.sz = 1 from rfl] <;> omega) rfl rfl rfl ?_
       refine TL.chk fun h6 => ?_
       refine TL.ixs (gt (gt x1 x2) x3) ((gt (gt x1 x2) x3).toNat) (Rd.row 0 rfl) h6 Try.underlying22 Try.sizeOf2 rfl rfl rfl rfl (by omega) ?_
       refine TL.loadE (Rd.row 0 rfl) Try.isAgg2 (gt (gt x1 x2) x3).toNat 0 (gt_spec h6) (v := .int .i64 (gt l2 (gt (gt x1 x2) x3))) rfl (by simp only [show Ei.sz = 1 from rfl] <;> omega) rfl rfl rfl ?_
       refine TL.bin .i64 (gt l2 (gt (gt x1 x2) x3)) 1 rfl rfl rfl rfl (v := .int .i64 (w64 ((gt l2 (gt (gt x1 x2) x3)) + 1))) rfl ?_
       refine TL.ixs (gt (gt x1 x2) x3) ((gt (gt x1 x2) x3).toNat) (Rd.row 0 rfl) h6 Try.underlying22 Try.sizeOf2 rfl rfl rfl rfl (by omega) ?_
       refine TL.stE 0 ((gt (gt x1 x2) x3).toNat) (w64 ((gt l2 (gt (gt x1 x2) x3)) + 1)) (v := .int .i64 (w64 ((gt l2 (gt (gt x1 x2) x3)) + 1))) rfl Try.sizeOf2 rfl rfl rfl (by have h_ := h6; omega) (by simp only [show Ei.sz = 1 from rfl] <;> omega) rfl rfl rfl ?_
       refine TL.done ?_
       exact TC.nrm ((l2.set (gt (gt x1 x2) x3).toNat (w64 ((gt l2 (gt (gt x1 x2) x3)) + 1)))) (()) ⟨rfl, rfl, rfl, rfl, trivial⟩ [0] rfl
      ·refine TC.region ?_
       refine TL.move rfl rfl (v := SV.v s2) rfl ?_
       refine TL.move rfl rfl (v := SV.v s1) rfl ?_
       refine TL.move rfl rfl (v := .int .i64 x2) rfl ?_
       refine TL.ixsM x2 x2.toNat (RdM.old h1) h4 Try.underlying32 Try.sizeOf22 rfl rfl rfl rfl (by omega) ?_
       refine TL.loadM2 (RdM.old h1) Try.isAgg22 x2 h4 (by omega) rfl rfl rfl ?_
       refine TL.move rfl rfl (v := .int .i64 x3) rfl ?_
       refine TL.ixs x3 x3.toNat (RdM.inn (RdM.old h1) h4) h5 Try.underlying22 Try.sizeOf2 rfl rfl rfl rfl (by omega) ?_
       refine TL.loadE (RdM.inn (RdM.old h1) h4) Try.isAgg2 x3.toNat 0 (gt_spec h5) (v := .int .i64 (gt (gt x1 x2) x3)) rfl (by simp only [show Ei.sz = 1 from rfl] <;> omega) rfl rfl rfl ?_
       refine TL.neg .i64 (gt (gt x1 x2) x3) rfl rfl rfl ?_
       refine TL.chk fun h7 => ?_
       refine TL.ixs (w64 (0 - (gt (gt x1 x2) x3))) ((w64 (0 - (gt (gt x1 x2) x3))).toNat) (Rd.row 0 rfl) h7 Try.underlying22 Try.sizeOf2 rfl rfl rfl rfl (by omega) ?_
       refine TL.loadE (Rd.row 0 rfl) Try.isAgg2 (w64 (0 - (gt (gt x1 x2) x3))).toNat 0 (gt_spec h7) (v := .int .i64 (gt l2 (w64 (0 - (gt (gt x1 x2) x3))))) rfl (by simp only [show Ei.sz = 1 from rfl] <;> omega) rfl rfl rfl ?_
       refine TL.bin .i64 (gt l2 (w64 (0 - (gt (gt x1 x2) x3)))) 1 rfl rfl rfl rfl (v := .int .i64 (w64 ((gt l2 (w64 (0 - (gt (gt x1 x2) x3)))) - 1))) rfl ?_
       refine TL.ixs (w64 (0 - (gt (gt x1 x2) x3))) ((w64 (0 - (gt (gt x1 x2) x3))).toNat) (Rd.row 0 rfl) h7 Try.underlying22 Try.sizeOf2 rfl rfl rfl rfl (by omega) ?_
       refine TL.stE 0 ((w64 (0 - (gt (gt x1 x2) x3))).toNat) (w64 ((gt l2 (w64 (0 - (gt (gt x1 x2) x3)))) - 1)) (v := .int .i64 (w64 ((gt l2 (w64 (0 - (gt (gt x1 x2) x3)))) - 1))) rfl Try.sizeOf2 rfl rfl rfl (by have h_ := h7; omega) (by simp only [show Ei.sz = 1 from rfl] <;> omega) rfl rfl rfl ?_
       refine TL.done ?_
       exact TC.nrm ((l2.set (w64 (0 - (gt (gt x1 x2) x3))).toNat (w64 ((gt l2 (w64 (0 - (gt (gt x1 x2) x3)))) - 1)))) (()) ⟨rfl, rfl, rfl, rfl, trivial⟩ [0] rfl
     ·rintro l3 _
      refine TC.region ?_
      refine TL.move rfl rfl (v := .int .i64 x3) rfl ?_
      refine TL.bin .i64 x3 1 rfl rfl rfl rfl (v := .int .i64 (w64 (x3 + 1))) rfl ?_
      refine TL.assign rfl rfl (v := .int .i64 (w64 (x3 + 1))) rfl ?_
      refine TL.done ?_
      exact TC.next1 ((l3, (w64 (x3 + 1)))) (()) ⟨rfl, rfl, rfl, rfl, trivial⟩ [0] rfl
    ·exact TC.brk1 ((l2, x3)) (()) ⟨rfl, rfl, rfl, rfl, trivial⟩ [0] rfl
   ·rintro ⟨l2, x3⟩ _
    refine TC.region ?_
    refine TL.move rfl rfl (v := .int .i64 x2) rfl ?_
    refine TL.bin .i64 x2 1 rfl rfl rfl rfl (v := .int .i64 (w64 (x2 + 1))) rfl ?_
    refine TL.assign rfl rfl (v := .int .i64 (w64 (x2 + 1))) rfl ?_
    refine TL.done ?_
    exact TC.next1 ((l2, (w64 (x2 + 1)))) (()) ⟨rfl, rfl, rfl, trivial⟩ [0] rfl
  ·exact TC.brk1 ((l1, x2)) (()) ⟨rfl, rfl, rfl, trivial⟩ [0] rfl
 ·rintro ⟨l1, x2⟩ _
  refine TC.seq ?_
  refine TC.seq ?_
  refine TC.region ?_
  refine TL.assign rfl rfl (v := .int .i64 0) rfl ?_
  refine TL.done ?_
  refine TC.loopK (σ := Int) (γ := Unit) (Γ' := (fun x4 _ => [(3, SV.v s2), (6, .int .i64 x4)])) (L' := (fun x4 _ => [row Ei 2 s2 l1])) (Γb := (fun x4 _ => [(3, SV.v s2), (6, .int .i64 x4)])) (Lb := (fun x4 _ => [row Ei 2 s2 l1])) (0) (()) ⟨rfl, rfl, trivial⟩ [0] rfl ?_ ?_
  ·rintro x4 _
   refine TC.seq ?_
   refine TC.seq ?_
   refine TC.region ?_
   refine TL.move rfl rfl (v := .int .i64 x4) rfl ?_
   refine TL.move rfl rfl (v := SV.v s2) rfl ?_
   refine TL.len (Rd.row 0 rfl) Try.underlying22 rfl rfl rfl ?_
   refine TL.bin .i64 x4 (l1.length : Int) rfl rfl rfl rfl (v := .bool (decide (x4 < (l1.length : Int)))) rfl ?_
   refine TL.done ?_
   refine TC.cond (b := (decide (x4 < (l1.length : Int)))) rfl (fun c7 => ?_) (fun c8 => ?_)
   ·refine TC.skip ?_
    refine TC.seq ?_
    refine TC.block (NoEx.loop rfl NoEx.body) ?_
    refine TC.seq ?_
    refine TC.region ?_
    refine TL.move rfl rfl (v := SV.v s2) rfl ?_
    refine TL.move rfl rfl (v := .int .i64 x4) rfl ?_
    refine TL.chk fun h8 => ?_
    refine TL.ixs x4 x4.toNat (Rd.row 0 rfl) h8 Try.underlying22 Try.sizeOf2 rfl rfl rfl rfl (by omega) ?_
    refine TL.loadE (Rd.row 0 rfl) Try.isAgg2 x4.toNat 0 (gt_spec h8) (v := .int .i64 (gt l1 x4)) rfl (by simp only [show Ei.sz = 1 from rfl] <;> omega) rfl rfl rfl ?_
    refine TL.bin .i64 (gt l1 x4) 0 rfl rfl rfl rfl (v := .bool ((gt l1 x4) != 0)) rfl ?_
    refine TL.done ?_
    refine TC.cond (b := ((gt l1 x4) != 0)) rfl (fun c9 => ?_) (fun c10 => ?_)
    ·refine TC.seq ?_
     refine TC.region ?_
     refine TL.assign rfl rfl (v := .bool false) rfl ?_
     refine TL.done ?_
     exact TC.retF (Fin.loop Far.ret (Fin.body (fin1 (.inr rfl) rfl (.tmp rfl) [] rfl ⟨rfl, rfl⟩)))
    ·refine TC.skip ?_
     refine TC.region ?_
     refine TL.move rfl rfl (v := .int .i64 x4) rfl ?_
     refine TL.bin .i64 x4 1 rfl rfl rfl rfl (v := .int .i64 (w64 (x4 + 1))) rfl ?_
     refine TL.assign rfl rfl (v := .int .i64 (w64 (x4 + 1))) rfl ?_
     refine TL.done ?_
     exact TC.next ((w64 (x4 + 1))) (()) ⟨rfl, rfl, trivial⟩ [0] rfl
   ·exact TC.brk (x4) (()) ⟨rfl, rfl, trivial⟩ [0] rfl
  ·rintro x4 _
   refine TC.seq ?_
   refine TC.region ?_
   refine TL.assign rfl rfl (v := .bool true) rfl ?_
   refine TL.done ?_
   exact TC.retF (Fin.body (fin1 (.inr rfl) rfl (.tmp rfl) [] rfl ⟨rfl, rfl⟩))

end Go.Proofs.Ytiiljfpbcanphaa.G

/- spec.l01Own, as a pure function. -/
set_option linter.unusedVariables false
namespace Go.Proofs.Ytiiljfpbcanphaa.G
open Go Go.Sx Go.Proofs

def spec_l01Own.f (list_1 : List Int) : Option (List Int) := small (([] : List Int).length + list_1.length) (some (([] : List Int) ++ list_1))

def spec_l01Own.R (r : List Int) (v : Value) (L : List Asn) : Prop := ∃ (s0 : SV), v = SV.v s0 ∧ L = [row Ei 2 s0 r]

set_option maxRecDepth 100000 in
set_option maxHeartbeats 4000000 in
theorem spec_l01Own.calls (w : World) (s1 : SV) (list_1 : List Int) (h1 : Reads Ei (hp w) s1 list_1) :
  ∀ r, spec_l01Own.f list_1 = some r → Calls Try.prog 165 #[SV.v s1] w (Ret w (spec_l01Own.R r)) := by

 refine calls_T (n := 6) (Γ := [(0, SV.v s1)]) (R := spec_l01Own.R) Try.func165 rfl rfl (Nat.le_of_ble_eq_true rfl) ⟨rfl, trivial⟩ ?_
 unfold spec_l01Own.f
 refine TC.seq ?_
 refine TC.region ?_
 refine TL.assign rfl rfl (v := SV.v ⟨none, 0, 0⟩) rfl ?_
 refine TL.done ?_
 refine TC.seq ?_
 refine TC.region ?_
 refine TL.bslice0 Ei Try.underlying22 Try.sizeOf2 rfl rfl fun s2 => ?_
 refine TL.move rfl rfl (v := SV.v s1) rfl ?_
 refine TL.small fun h2 => ?_
 refine TL.append 0 rfl (Rd.old h1) Try.underlying22 (info_of Try.type2) (zv := (Try.t2.zero.getD (.bool false))) rfl rfl rfl (by decide) h2 rfl rfl rfl rfl fun s3 => ?_
 refine TL.assign rfl rfl (v := SV.v s3) rfl ?_
 refine TL.done ?_
 exact TC.retF (Fin.body (fin1 (.inr rfl) rfl (.tmp rfl) [0] rfl ⟨s3, rfl, rfl⟩))

end Go.Proofs.Ytiiljfpbcanphaa.G

/- spec.l07Copy, as a pure function. -/
set_option linter.unusedVariables false
namespace Go.Proofs.Ytiiljfpbcanphaa.G
open Go Go.Sx Go.Proofs

def spec_l07Copy.b0 (s1 : List (List Int)) : (List (List Int)) × Int → Option (LB ((List (List Int)) × Int)) := fun p => match p with | (out1, i1) => (bif (decide (i1 < (s1.length : Int))) then chk i1 s1.length ((G.spec_l01Own.f (gt s1 i1)).bind (fun r_1 => small (out1.length + 1) (some (.next ((out1 ++ [r_1]), (w64 (i1 + 1))))))) else some (.brk (out1, i1)))

def spec_l07Copy.f (s1 : List (List Int)) : Option (List (List Int)) := (loop1 (spec_l07Copy.b0 s1) (([] : List (List Int)), 0)).bind (fun p => match p with | (out1, i1) => some out1)

def spec_l07Copy.R (r : List (List Int)) (v : Value) (L : List Asn) : Prop := ∃ (s0 : SV) (ss0 : List SV), v = SV.v s0 ∧ L = [mat Ei 2 22 s0 ss0 r]

set_option maxRecDepth 100000 in
set_option maxHeartbeats 4000000 in
theorem spec_l07Copy.calls (w : World) (s2 : SV) (ss1 : List SV) (s1 : List (List Int)) (h1 : ReadsM Ei (hp w) s2 ss1 s1) :
  ∀ r, spec_l07Copy.f s1 = some r → Calls Try.prog 147 #[SV.v s2] w (Ret w (spec_l07Copy.R r)) := by

 refine calls_T (n := 21) (Γ := [(0, SV.v s2)]) (R := spec_l07Copy.R) Try.func147 rfl rfl (Nat.le_of_ble_eq_true rfl) ⟨rfl, trivial⟩ ?_
 unfold spec_l07Copy.f
 refine TC.seq ?_
 refine TC.region ?_
 refine TL.assign rfl rfl (v := SV.v ⟨none, 0, 0⟩) rfl ?_
 refine TL.done ?_
 refine TC.seq ?_
 refine TC.region ?_
 refine TL.bslice0 Ev Try.underlying32 Try.sizeOf22 rfl rfl fun s3 => ?_
 refine TL.rows0 Ei 2 ?_
 refine TL.matmk 1 0 rfl rfl ?_
 refine TL.asL [mat Ei 2 22 s3 ([] : List SV) ([] : List (List Int)), emp] (by kernel_rfl) ?_
 refine TL.assign rfl rfl (v := SV.v s3) rfl ?_
 refine TL.done ?_
 refine TC.seq ?_
 refine TC.seq ?_
 refine TC.region ?_
 refine TL.assign rfl rfl (v := .int .i64 0) rfl ?_
 refine TL.done ?_
 refine TC.loop1 (σ := (List (List Int)) × Int) (γ := SV × (List SV)) (Γ' := (fun p q => match p, q with | (out1, i1), (s4, ss2) => [(0, SV.v s2), (3, SV.v s4), (4, .int .i64 i1)])) (L' := (fun p q => match p, q with | (out1, i1), (s4, ss2) => [mat Ei 2 22 s4 ss2 out1])) (Γb := (fun p q => match p, q with | (out1, i1), (s4, ss2) => [(0, SV.v s2), (3, SV.v s4), (4, .int .i64 i1)])) (Lb := (fun p q => match p, q with | (out1, i1), (s4, ss2) => [mat Ei 2 22 s4 ss2 out1])) ((([] : List (List Int)), 0)) ((s3, ([] : List SV))) ⟨rfl, rfl, rfl, trivial⟩ [0] rfl ?_ ?_
 ·rintro ⟨out1, i1⟩ ⟨s4, ss2⟩
  refine TC.seq ?_
  refine TC.seq ?_
  refine TC.region ?_
  refine TL.move rfl rfl (v := .int .i64 i1) rfl ?_
  refine TL.move rfl rfl (v := SV.v s2) rfl ?_
  refine TL.lenM (RdM.old h1) Try.underlying32 rfl rfl rfl ?_
  refine TL.bin .i64 i1 (s1.length : Int) rfl rfl rfl rfl (v := .bool (decide (i1 < (s1.length : Int)))) rfl ?_
  refine TL.done ?_
  refine TC.cond (b := (decide (i1 < (s1.length : Int)))) rfl (fun c1 => ?_) (fun c2 => ?_)
  ·refine TC.skip ?_
   refine TC.seq ?_
   refine TC.block (NoEx.loop1 rfl) ?_
   refine TC.region ?_
   refine TL.move rfl rfl (v := SV.v s4) rfl ?_
   refine TL.move rfl rfl (v := SV.v s2) rfl ?_
   refine TL.move rfl rfl (v := .int .i64 i1) rfl ?_
   refine TL.chk fun h2 => ?_
   refine TL.ixsM i1 i1.toNat (RdM.old h1) h2 Try.underlying32 Try.sizeOf22 rfl rfl rfl rfl (by omega) ?_
   refine TL.loadM2 (RdM.old h1) Try.isAgg22 i1 h2 (by omega) rfl rfl rfl ?_
   refine TL.call (R := G.spec_l01Own.R) Try.call165 rfl rfl rfl (fun w hS => G.spec_l01Own.calls w (gt ss1 i1) (gt s1 i1) ((RdM.inn (RdM.old h1) h2) w hS)) ?_
   rintro r_1 _ _ ⟨s5, rfl, rfl⟩
   refine TL.blit Ev ([s5] : List SV) Try.underlying32 Try.sizeOf22 Try.zeroValue22 rfl rfl rfl [(0, SV.v s5)] rfl ⟨rfl, rfl, trivial⟩ rfl rfl fun s6 => ?_
   refine TL.small fun h3 => ?_
   refine TL.matlen 2 rfl fun h4 => ?_
   refine TL.matcut 2 rfl ?_
   refine TL.append 0 rfl (Rd.row 1 rfl) Try.underlying32 (info_of Try.type22) (zv := (Try.t22.zero.getD (.bool false))) rfl rfl rfl (by decide) (by have h_ := h3; have l_ := h4; (try simp only [List.length_cons, List.length_nil] at h_ l_ ⊢); omega) rfl rfl rfl rfl fun s7 => ?_
   refine TL.rowsPush 3 2 rfl rfl ?_
   skip
   refine TL.matmk 0 2 rfl rfl ?_
   refine TL.drop 0 rfl ?_
   refine TL.asL [row Ev 22 s6 ([s5] : List SV), mat Ei 2 22 s7 (ss2 ++ [s5]) (out1 ++ [r_1]), emp] (by kernel_rfl) ?_
   refine TL.assign rfl rfl (v := SV.v s7) rfl ?_
   refine TL.done ?_
   refine TC.region ?_
   refine TL.move rfl rfl (v := .int .i64 i1) rfl ?_
   refine TL.bin .i64 i1 1 rfl rfl rfl rfl (v := .int .i64 (w64 (i1 + 1))) rfl ?_
   refine TL.assign rfl rfl (v := .int .i64 (w64 (i1 + 1))) rfl ?_
   refine TL.done ?_
   exact TC.next1 (((out1 ++ [r_1]), (w64 (i1 + 1)))) ((s7, (ss2 ++ [s5]))) ⟨rfl, rfl, rfl, trivial⟩ [1] rfl
  ·exact TC.brk1 ((out1, i1)) ((s4, ss2)) ⟨rfl, rfl, rfl, trivial⟩ [0] rfl
 ·rintro ⟨out1, i1⟩ ⟨s4, ss2⟩
  refine TC.seq ?_
  refine TC.region ?_
  refine TL.move rfl rfl (v := SV.v s4) rfl ?_
  refine TL.assign rfl rfl (v := SV.v s4) rfl ?_
  refine TL.done ?_
  exact TC.retF (Fin.body (fin1 (.inr rfl) rfl (.tmp rfl) [0] rfl ⟨s4, ss2, rfl, rfl⟩))

end Go.Proofs.Ytiiljfpbcanphaa.G

/- spec.l07Edge, as a pure function. -/
set_option linter.unusedVariables false
namespace Go.Proofs.Ytiiljfpbcanphaa.G
open Go Go.Sx Go.Proofs

def spec_l07Edge.f (side1 : Int) : Option Int := some (if (w64 (0 - side1)) > side1 then (w64 (0 - side1)) else side1)

def spec_l07Edge.R (r : Int) (v : Value) (L : List Asn) : Prop := v = .int .i64 r ∧ L = []

set_option maxRecDepth 100000 in
set_option maxHeartbeats 4000000 in
theorem spec_l07Edge.calls (w : World) (side1 : Int) :
  ∀ r, spec_l07Edge.f side1 = some r → Calls Try.prog 179 #[.int .i64 side1] w (Ret w (spec_l07Edge.R r)) := by

 refine calls_T (n := 7) (Γ := [(0, .int .i64 side1)]) (R := spec_l07Edge.R) Try.func179 rfl rfl (Nat.le_of_ble_eq_true rfl) ⟨rfl, trivial⟩ ?_
 unfold spec_l07Edge.f
 refine TC.seq ?_
 refine TC.region ?_
 refine TL.assign rfl rfl (v := .int .i64 0) rfl ?_
 refine TL.done ?_
 refine TC.seq ?_
 refine TC.region ?_
 refine TL.move rfl rfl (v := .int .i64 side1) rfl ?_
 refine TL.move rfl rfl (v := .int .i64 side1) rfl ?_
 refine TL.neg .i64 side1 rfl rfl rfl ?_
 refine TL.max2 rfl rfl rfl rfl ?_
 refine TL.assign rfl rfl (v := .int .i64 (if (w64 (0 - side1)) > side1 then (w64 (0 - side1)) else side1)) rfl ?_
 refine TL.done ?_
 exact TC.retF (Fin.body (fin1 (.inr rfl) rfl (.tmp rfl) [] rfl ⟨rfl, rfl⟩))

end Go.Proofs.Ytiiljfpbcanphaa.G

/- spec.l07Touch, as a pure function. -/
set_option linter.unusedVariables false
namespace Go.Proofs.Ytiiljfpbcanphaa.G
open Go Go.Sx Go.Proofs

def spec_l07Touch.b0 (i1 : Int) (t1 : List Int) (u1 : List Int) : Bool × Bool × Int → Option (LB (Bool × Bool × Int)) := fun p => match p with | (touch2, same2, k_1) => (bif (decide (k_1 < 3)) then chk i1 t1.length ((G.spec_l07Edge.f (gt t1 i1)).bind (fun r_1 => chk k_1 u1.length ((G.spec_l07Edge.f (gt u1 k_1)).bind (fun r_2 => ((bif (r_1 == r_2) then (bif same2 then some (true, true) else some (true, ((gt t1 i1) == (gt u1 k_1)))) else some (touch2, same2))).bind (fun p => match p with | (touch3, same3) => some (.next (touch3, same3, (w64 (k_1 + 1))))))))) else some (.brk (touch2, same2, k_1)))

def spec_l07Touch.b1 (t1 : List Int) (u1 : List Int) : Bool × Bool × Int → Option (LB (Bool × Bool × Int)) := fun p => match p with | (touch1, same1, i1) => (bif (decide (i1 < 3)) then (loop1 (spec_l07Touch.b0 i1 t1 u1) (touch1, same1, 0)).bind (fun p => match p with | (touch2, same2, k_1) => some (.next (touch2, same2, (w64 (i1 + 1))))) else some (.brk (touch1, same1, i1)))

def spec_l07Touch.f (t1 : List Int) (u1 : List Int) : Option (Bool × Bool) := (loop1 (spec_l07Touch.b1 t1 u1) (false, false, 0)).bind (fun p => match p with | (touch1, same1, i1) => some (touch1, same1))

def spec_l07Touch.R (r : Bool × Bool) (v : Value) (L : List Asn) : Prop := v = .tuple #[.bool r.1, .bool r.2] ∧ L = []

set_option maxRecDepth 100000 in
set_option maxHeartbeats 4000000 in
theorem spec_l07Touch.calls (w : World) (s1 : SV) (t1 : List Int) (s2 : SV) (u1 : List Int) (h1 : Reads Ei (hp w) s1 t1) (h2 : Reads Ei (hp w) s2 u1) :
  ∀ r, spec_l07Touch.f t1 u1 = some r → Calls Try.prog 148 #[SV.v s1, SV.v s2] w (Ret w (spec_l07Touch.R r)) := by

 refine calls_T (n := 43) (Γ := [(0, SV.v s1), (1, SV.v s2)]) (R := spec_l07Touch.R) Try.func148 rfl rfl (Nat.le_of_ble_eq_true rfl) ⟨rfl, rfl, trivial⟩ ?_
 unfold spec_l07Touch.f
 refine TC.seq ?_
 refine TC.region ?_
 refine TL.assign rfl rfl (v := .bool false) rfl ?_
 refine TL.assign rfl rfl (v := .bool false) rfl ?_
 refine TL.done ?_
 refine TC.seq ?_
 refine TC.region ?_
 refine TL.assign rfl rfl (v := .bool false) rfl ?_
 refine TL.assign rfl rfl (v := .bool false) rfl ?_
 refine TL.done ?_
 refine TC.seq ?_
 refine TC.seq ?_
 refine TC.region ?_
 refine TL.assign rfl rfl (v := .int .i64 0) rfl ?_
 refine TL.done ?_
 refine TC.loop1 (σ := Bool × Bool × Int) (γ := Unit) (Γ' := (fun p q => match p, q with | (touch1, same1, i1), _ => [(0, SV.v s1), (1, SV.v s2), (6, .bool touch1), (7, .bool same1), (8, .int .i64 i1)])) (L' := (fun p q => match p, q with | (touch1, same1, i1), _ => [])) (Γb := (fun p q => match p, q with | (touch1, same1, i1), _ => [(0, SV.v s1), (1, SV.v s2), (6, .bool touch1), (7, .bool same1), (8, .int .i64 i1)])) (Lb := (fun p q => match p, q with | (touch1, same1, i1), _ => [])) ((false, false, 0)) (()) ⟨rfl, rfl, rfl, rfl, rfl, trivial⟩ [] rfl ?_ ?_
 ·rintro ⟨touch1, same1, i1⟩ _
  refine TC.seq ?_
  refine TC.seq ?_
  refine TC.region ?_
  refine TL.move rfl rfl (v := .int .i64 i1) rfl ?_
  refine TL.bin .i64 i1 3 rfl rfl rfl rfl (v := .bool (decide (i1 < 3))) rfl ?_
  refine TL.done ?_
  refine TC.cond (b := (decide (i1 < 3))) rfl (fun c1 => ?_) (fun c2 => ?_)
  ·refine TC.skip ?_
   refine TC.seq ?_
   refine TC.block (NoEx.loop1 rfl) ?_
   refine TC.seq ?_
   refine TC.region ?_
   refine TL.assign rfl rfl (v := .int .i64 0) rfl ?_
   refine TL.done ?_
   refine TC.loop1 (σ := Bool × Bool × Int) (γ := Unit) (Γ' := (fun p q => match p, q with | (touch2, same2, k_1), _ => [(0, SV.v s1), (1, SV.v s2), (6, .bool touch2), (7, .bool same2), (8, .int .i64 i1), (9, .int .i64 k_1)])) (L' := (fun p q => match p, q with | (touch2, same2, k_1), _ => [])) (Γb := (fun p q => match p, q with | (touch2, same2, k_1), _ => [(0, SV.v s1), (1, SV.v s2), (6, .bool touch2), (7, .bool same2), (8, .int .i64 i1), (9, .int .i64 k_1)])) (Lb := (fun p q => match p, q with | (touch2, same2, k_1), _ => [])) ((touch1, same1, 0)) (()) ⟨rfl, rfl, rfl, rfl, rfl, rfl, trivial⟩ [] rfl ?_ ?_
   ·rintro ⟨touch2, same2, k_1⟩ _
    refine TC.seq ?_
    refine TC.seq ?_
    refine TC.region ?_
    refine TL.move rfl rfl (v := .int .i64 k_1) rfl ?_
    refine TL.bin .i64 k_1 3 rfl rfl rfl rfl (v := .bool (decide (k_1 < 3))) rfl ?_
    refine TL.done ?_
    refine TC.cond (b := (decide (k_1 < 3))) rfl (fun c3 => ?_) (fun c4 => ?_)
    ·refine TC.skip ?_
     refine TC.seq ?_
     refine TC.block (NoEx.loop1 rfl) ?_
     refine TC.seq ?_
     refine TC.wk (Γ' := [(0, SV.v s1), (1, SV.v s2), (6, .bool touch2), (7, .bool same2), (8, .int .i64 i1), (9, .int .i64 k_1), (14, .int .i64 k_1), (15, .bool (decide (k_1 < 3)))]) ⟨rfl, rfl, rfl, rfl, rfl, rfl, rfl, rfl, trivial⟩ ?_
     refine TC.chk fun h3 => ?_
     refine TC.bindE fun r_1 hr1 => ?_
     refine TC.chk fun h4 => ?_
     refine TC.bindE fun r_2 hr2 => ?_
     refine TC.draw [SV.v s1, .int .i64 i1, ep s1 i1.toNat, .int .i64 (gt t1 i1), .int .i64 r_1, SV.v s2, .int .i64 k_1, ep s2 k_1.toNat, .int .i64 (gt u1 k_1), .int .i64 r_2, .bool (r_1 == r_2)] 11 [] (by kernel_rfl) rfl rfl rfl rfl ?_ ?_
     ·refine ⟨?_, ?_, ?_, ?_, ?_, ?_, ?_, ?_, ?_, ?_, ?_, trivial⟩
      ·refine TL.move rfl rfl (v := SV.v s1) rfl ?_
       refine TL.done ?_
       exact TC.nrm () () ⟨rfl, trivial⟩ [] (by kernel_rfl)
      ·refine TL.move rfl rfl (v := .int .i64 i1) rfl ?_
       refine TL.done ?_
       exact TC.nrm () () ⟨rfl, trivial⟩ [] (by kernel_rfl)
      ·refine TL.ixs i1 i1.toNat (Rd.old h1) h3 Try.underlying22 Try.sizeOf2 rfl rfl rfl rfl (by omega) ?_
       refine TL.done ?_
       exact TC.nrm () () ⟨rfl, trivial⟩ [] (by kernel_rfl)
      ·refine TL.loadE (Rd.old h1) Try.isAgg2 i1.toNat 0 (gt_spec h3) (v := .int .i64 (gt t1 i1)) rfl (by simp only [show Ei.sz = 1 from rfl] <;> omega) rfl rfl rfl ?_
       refine TL.done ?_
       exact TC.nrm () () ⟨rfl, trivial⟩ [] (by kernel_rfl)
      ·refine TL.callH (R := G.spec_l07Edge.R) hr1 Try.call179 rfl rfl rfl (fun w hS => G.spec_l07Edge.calls w (gt t1 i1)) ?_
       rintro _ _ ⟨rfl, rfl⟩
       refine TL.done ?_
       exact TC.nrm () () ⟨rfl, trivial⟩ [] (by kernel_rfl)
      ·refine TL.move rfl rfl (v := SV.v s2) rfl ?_
       refine TL.done ?_
       exact TC.nrm () () ⟨rfl, trivial⟩ [] (by kernel_rfl)
      ·refine TL.move rfl rfl (v := .int .i64 k_1) rfl ?_
       refine TL.done ?_
       exact TC.nrm () () ⟨rfl, trivial⟩ [] (by kernel_rfl)
      ·refine TL.ixs k_1 k_1.toNat (Rd.old h2) h4 Try.underlying22 Try.sizeOf2 rfl rfl rfl rfl (by omega) ?_
       refine TL.done ?_
       exact TC.nrm () () ⟨rfl, trivial⟩ [] (by kernel_rfl)
      ·refine TL.loadE (Rd.old h2) Try.isAgg2 k_1.toNat 0 (gt_spec h4) (v := .int .i64 (gt u1 k_1)) rfl (by simp only [show Ei.sz = 1 from rfl] <;> omega) rfl rfl rfl ?_
       refine TL.done ?_
       exact TC.nrm () () ⟨rfl, trivial⟩ [] (by kernel_rfl)
      ·refine TL.callH (R := G.spec_l07Edge.R) hr2 Try.call179 rfl rfl rfl (fun w hS => G.spec_l07Edge.calls w (gt u1 k_1)) ?_
       rintro _ _ ⟨rfl, rfl⟩
       refine TL.done ?_
       exact TC.nrm () () ⟨rfl, trivial⟩ [] (by kernel_rfl)
      ·refine TL.bin .i64 r_1 r_2 rfl rfl rfl rfl (v := .bool (r_1 == r_2)) rfl ?_
       refine TL.done ?_
       exact TC.nrm () () ⟨rfl, trivial⟩ [] (by kernel_rfl)
     ·refine TC.join1 (σ := Bool × Bool) (γ := Unit) (Γ' := (fun p q => match p, q with | (touch3, same3), _ => [(0, SV.v s1), (1, SV.v s2), (6, .bool touch3), (7, .bool same3), (8, .int .i64 i1), (9, .int .i64 k_1)])) (L' := (fun p q => match p, q with | (touch3, same3), _ => [])) ?_ ?_
      ·refine TC.cond (b := (r_1 == r_2)) rfl (fun c5 => ?_) (fun c6 => ?_)
       ·refine TC.seq ?_
        refine TC.region ?_
        refine TL.assign rfl rfl (v := .bool true) rfl ?_
        refine TL.done ?_
        refine TC.ifB same2 (fun c7 => ?_) (fun c7 => ?_)
        ·refine TC.wk (Γ' := [(0, SV.v s1), (1, SV.v s2), (6, .bool true), (8, .int .i64 i1), (9, .int .i64 k_1), (14, .int .i64 k_1), (15, .bool (decide (k_1 < 3))), (18, SV.v s1), (19, .int .i64 i1), (20, ep s1 i1.toNat), (21, .int .i64 (gt t1 i1)), (22, .int .i64 r_1), (23, SV.v s2), (24, .int .i64 k_1), (25, ep s2 k_1.toNat), (26, .int .i64 (gt u1 k_1)), (27, .int .i64 r_2), (28, .bool (r_1 == r_2)), (7, .bool same2)]) ⟨rfl, rfl, rfl, rfl, rfl, rfl, rfl, rfl, rfl, rfl, rfl, rfl, rfl, rfl, rfl, rfl, rfl, rfl, rfl, trivial⟩ ?_
         refine TC.drawG [(0, SV.v s1), (1, SV.v s2), (6, .bool true), (8, .int .i64 i1), (9, .int .i64 k_1), (14, .int .i64 k_1), (15, .bool (decide (k_1 < 3))), (18, SV.v s1), (19, .int .i64 i1), (20, ep s1 i1.toNat), (21, .int .i64 (gt t1 i1)), (22, .int .i64 r_1), (23, SV.v s2), (24, .int .i64 k_1), (25, ep s2 k_1.toNat), (26, .int .i64 (gt u1 k_1)), (27, .int .i64 r_2), (28, .bool (r_1 == r_2))] [(7, .bool same2, 12)] ⟨rfl, rfl, rfl, rfl, rfl, rfl, rfl, rfl, rfl, rfl, rfl, rfl, rfl, rfl, rfl, rfl, rfl, rfl, trivial⟩ ⟨rfl, trivial⟩ (fun l_ g2 => []) (fun g2 => [.bool true, .bool true, undef, undef, undef, undef, undef, undef, undef, undef, undef, .bool true, .bool true]) [[], [0], [0, 1], [0, 1], [0, 1, 2, 3], [0, 1, 2, 3, 4], [0, 1], [0, 1], [0, 1, 6, 7], [0, 1, 6, 7, 8], [0, 1, 2, 3, 4, 5, 6, 7, 8, 9], [0, 1, 2, 3, 4, 5, 6, 7, 8, 9, 10], [0, 1, 2, 3, 4, 5, 6, 7, 8, 9, 10, 11]] [[some false, some false, some false, some false, some false, some false, some false, some false, some false, some false, some false, some false, some false], [some true, some false, some false, some false, some false, some false, some false, some false, some false, some false, some false, some false, some false], [some true, some true, some false, none, some false, some false, none, none, none, none, some false, some false, some false], [some true, some true, none, some false, some false, some false, none, none, none, none, some false, some false, some false], [some true, some true, some true, some true, some false, some false, none, none, none, none, some false, some false, some false], [some true, some true, some true, some true, some true, some false, none, none, none, none, some false, some false, some false], [some true, some true, none, none, none, none, some false, none, some false, some false, some false, some false, some false], [some true, some true, none, none, none, none, none, some false, some false, some false, some false, some false, some false], [some true, some true, none, none, none, none, some true, some true, some false, some false, some false, some false, some false], [some true, some true, none, none, none, none, some true, some true, some true, some false, some false, some false, some false], [some true, some true, some true, some true, some true, some true, some true, some true, some true, some true, some false, some false, some false], [some true, some true, some true, some true, some true, some true, some true, some true, some true, some true, some true, some false, some false], [some true, some true, some true, some true, some true, some true, some true, some true, some true, some true, some true, some true, some false]] (by kernel_rfl) (fun _ => rfl) rfl rfl rfl rfl rfl (fun _ _ => ⟨⟨⟨⟨⟨⟨⟨⟨⟨⟨⟨⟨⟨trivial, rfl⟩, rfl⟩, rfl⟩, rfl⟩, rfl⟩, rfl⟩, rfl⟩, rfl⟩, rfl⟩, rfl⟩, rfl⟩, rfl⟩, rfl⟩) 0 [] (fun _ => by kernel_rfl) ?_ ?_
         ·refine ⟨rfl, ?_, rfl, ?_, rfl, ?_, rfl, ?_, rfl, ?_, rfl, ?_, rfl, ?_, rfl, ?_, rfl, ?_, rfl, ?_, rfl, ?_, rfl, ?_, rfl, ?_, trivial⟩
          ·intro g2
           refine TL.move rfl rfl (v := .bool same2) rfl ?_
           refine TL.done ?_
           exact TC.nrm () [] ⟨(by rw [c7]; rfl), trivial⟩ [] (by kernel_rfl)
          ·intro g2
           refine TL.move rfl rfl (v := .bool true) rfl ?_
           refine TL.done ?_
           exact TC.nrm () [] ⟨rfl, trivial⟩ [] (by kernel_rfl)
          ·intro b3_ b6_ b7_ b8_ b9_ g2
           refine TL.skip rfl rfl (by decide) ?_
           refine TL.done ?_
           exact TC.nrm () [] ⟨rfl, trivial⟩ [] (by kernel_rfl)
          ·intro b2_ b6_ b7_ b8_ b9_ g2
           refine TL.skip rfl rfl (by decide) ?_
           refine TL.done ?_
           exact TC.nrm () [] ⟨rfl, trivial⟩ [] (by kernel_rfl)
          ·intro b6_ b7_ b8_ b9_ g2
           refine TL.asL [] (by kernel_rfl) ?_
           refine TL.skip rfl rfl (by decide) ?_
           refine TL.done ?_
           exact TC.nrm () [] ⟨rfl, trivial⟩ [] (by kernel_rfl)
          ·intro b6_ b7_ b8_ b9_ g2
           refine TL.asL [] (by kernel_rfl) ?_
           refine TL.skip rfl rfl (by decide) ?_
           refine TL.done ?_
           exact TC.nrm () [] ⟨rfl, trivial⟩ [] (by kernel_rfl)
          ·intro b2_ b3_ b4_ b5_ b7_ g2
           refine TL.skip rfl rfl (by decide) ?_
           refine TL.done ?_
           exact TC.nrm () [] ⟨rfl, trivial⟩ [] (by kernel_rfl)
          ·intro b2_ b3_ b4_ b5_ b6_ g2
           refine TL.skip rfl rfl (by decide) ?_
           refine TL.done ?_
           exact TC.nrm () [] ⟨rfl, trivial⟩ [] (by kernel_rfl)
          ·intro b2_ b3_ b4_ b5_ g2
           refine TL.asL [] (by kernel_rfl) ?_
           refine TL.skip rfl rfl (by decide) ?_
           refine TL.done ?_
           exact TC.nrm () [] ⟨rfl, trivial⟩ [] (by kernel_rfl)
          ·intro b2_ b3_ b4_ b5_ g2
           refine TL.asL [] (by kernel_rfl) ?_
           refine TL.skip rfl rfl (by decide) ?_
           refine TL.done ?_
           exact TC.nrm () [] ⟨rfl, trivial⟩ [] (by kernel_rfl)
          ·intro g2
           refine TL.skip rfl rfl (by decide) ?_
           refine TL.done ?_
           exact TC.nrm () [] ⟨rfl, trivial⟩ [] (by kernel_rfl)
          ·intro g2
           refine TL.pick rfl rfl (b := true) rfl (r := .bool true) rfl ?_
           refine TL.done ?_
           exact TC.nrm () [] ⟨rfl, trivial⟩ [] (by kernel_rfl)
          ·intro g2
           refine TL.assign rfl rfl (v := .bool true) rfl ?_
           refine TL.done ?_
           exact TC.nrm () [] ⟨rfl, trivial⟩ [] (by kernel_rfl)
         ·intro g2
          refine TC.asL [] (by kernel_rfl) ?_
          exact TC.nrm ((true, true)) (()) ⟨rfl, rfl, rfl, rfl, rfl, rfl, trivial⟩ [] rfl
        ·refine TC.wk (Γ' := [(0, SV.v s1), (1, SV.v s2), (6, .bool true), (8, .int .i64 i1), (9, .int .i64 k_1), (14, .int .i64 k_1), (15, .bool (decide (k_1 < 3))), (18, SV.v s1), (19, .int .i64 i1), (20, ep s1 i1.toNat), (21, .int .i64 (gt t1 i1)), (22, .int .i64 r_1), (23, SV.v s2), (24, .int .i64 k_1), (25, ep s2 k_1.toNat), (26, .int .i64 (gt u1 k_1)), (27, .int .i64 r_2), (28, .bool (r_1 == r_2)), (7, .bool same2)]) ⟨rfl, rfl, rfl, rfl, rfl, rfl, rfl, rfl, rfl, rfl, rfl, rfl, rfl, rfl, rfl, rfl, rfl, rfl, rfl, trivial⟩ ?_
         refine TC.drawG [(0, SV.v s1), (1, SV.v s2), (6, .bool true), (8, .int .i64 i1), (9, .int .i64 k_1), (14, .int .i64 k_1), (15, .bool (decide (k_1 < 3))), (18, SV.v s1), (19, .int .i64 i1), (20, ep s1 i1.toNat), (21, .int .i64 (gt t1 i1)), (22, .int .i64 r_1), (23, SV.v s2), (24, .int .i64 k_1), (25, ep s2 k_1.toNat), (26, .int .i64 (gt u1 k_1)), (27, .int .i64 r_2), (28, .bool (r_1 == r_2))] [(7, .bool same2, 12)] ⟨rfl, rfl, rfl, rfl, rfl, rfl, rfl, rfl, rfl, rfl, rfl, rfl, rfl, rfl, rfl, rfl, rfl, rfl, trivial⟩ ⟨rfl, trivial⟩ (fun l_ g3 => []) (fun g3 => [.bool false, .bool false, SV.v s1, .int .i64 i1, ep s1 i1.toNat, .int .i64 (gt t1 i1), SV.v s2, .int .i64 k_1, ep s2 k_1.toNat, .int .i64 (gt u1 k_1), .bool ((gt t1 i1) == (gt u1 k_1)), .bool ((gt t1 i1) == (gt u1 k_1)), .bool ((gt t1 i1) == (gt u1 k_1))]) [[], [0], [0, 1], [0, 1], [0, 1, 2, 3], [0, 1, 2, 3, 4], [0, 1], [0, 1], [0, 1, 6, 7], [0, 1, 6, 7, 8], [0, 1, 2, 3, 4, 5, 6, 7, 8, 9], [0, 1, 2, 3, 4, 5, 6, 7, 8, 9, 10], [0, 1, 2, 3, 4, 5, 6, 7, 8, 9, 10, 11]] [[some false, some false, some false, some false, some false, some false, some false, some false, some false, some false, some false, some false, some false], [some true, some false, some false, some false, some false, some false, some false, some false, some false, some false, some false, some false, some false], [some true, some true, some false, none, some false, some false, none, none, none, none, some false, some false, some false], [some true, some true, none, some false, some false, some false, none, none, none, none, some false, some false, some false], [some true, some true, some true, some true, some false, some false, none, none, none, none, some false, some false, some false], [some true, some true, some true, some true, some true, some false, none, none, none, none, some false, some false, some false], [some true, some true, none, none, none, none, some false, none, some false, some false, some false, some false, some false], [some true, some true, none, none, none, none, none, some false, some false, some false, some false, some false, some false], [some true, some true, none, none, none, none, some true, some true, some false, some false, some false, some false, some false], [some true, some true, none, none, none, none, some true, some true, some true, some false, some false, some false, some false], [some true, some true, some true, some true, some true, some true, some true, some true, some true, some true, some false, some false, some false], [some true, some true, some true, some true, some true, some true, some true, some true, some true, some true, some true, some false, some false], [some true, some true, some true, some true, some true, some true, some true, some true, some true, some true, some true, some true, some false]] (by kernel_rfl) (fun _ => rfl) rfl rfl rfl rfl rfl (fun _ _ => ⟨⟨⟨⟨⟨⟨⟨⟨⟨⟨⟨⟨⟨trivial, rfl⟩, rfl⟩, rfl⟩, rfl⟩, rfl⟩, rfl⟩, rfl⟩, rfl⟩, rfl⟩, rfl⟩, rfl⟩, rfl⟩, rfl⟩) 0 [] (fun _ => by kernel_rfl) ?_ ?_
         ·refine ⟨rfl, ?_, rfl, ?_, rfl, ?_, rfl, ?_, rfl, ?_, rfl, ?_, rfl, ?_, rfl, ?_, rfl, ?_, rfl, ?_, rfl, ?_, rfl, ?_, rfl, ?_, trivial⟩
          ·intro g3
           refine TL.move rfl rfl (v := .bool same2) rfl ?_
           refine TL.done ?_
           exact TC.nrm () [] ⟨(by rw [c7]; rfl), trivial⟩ [] (by kernel_rfl)
          ·intro g3
           refine TL.move rfl rfl (v := .bool false) rfl ?_
           refine TL.done ?_
           exact TC.nrm () [] ⟨rfl, trivial⟩ [] (by kernel_rfl)
          ·intro b3_ b6_ b7_ b8_ b9_ g3
           refine TL.move rfl rfl (v := SV.v s1) rfl ?_
           refine TL.done ?_
           exact TC.nrm () [] ⟨rfl, trivial⟩ [] (by kernel_rfl)
          ·intro b2_ b6_ b7_ b8_ b9_ g3
           refine TL.move rfl rfl (v := .int .i64 i1) rfl ?_
           refine TL.done ?_
           exact TC.nrm () [] ⟨rfl, trivial⟩ [] (by kernel_rfl)
          ·intro b6_ b7_ b8_ b9_ g3
           refine TL.asL [] (by kernel_rfl) ?_
           refine TL.ixs i1 i1.toNat (Rd.old h1) h3 Try.underlying22 Try.sizeOf2 rfl rfl rfl rfl (by omega) ?_
           refine TL.done ?_
           exact TC.nrm () [] ⟨rfl, trivial⟩ [] (by kernel_rfl)
          ·intro b6_ b7_ b8_ b9_ g3
           refine TL.asL [] (by kernel_rfl) ?_
           refine TL.loadE (Rd.old h1) Try.isAgg2 i1.toNat 0 (gt_spec h3) (v := .int .i64 (gt t1 i1)) rfl (by simp only [show Ei.sz = 1 from rfl] <;> omega) rfl rfl rfl ?_
           refine TL.done ?_
           exact TC.nrm () [] ⟨rfl, trivial⟩ [] (by kernel_rfl)
          ·intro b2_ b3_ b4_ b5_ b7_ g3
           refine TL.move rfl rfl (v := SV.v s2) rfl ?_
           refine TL.done ?_
           exact TC.nrm () [] ⟨rfl, trivial⟩ [] (by kernel_rfl)
          ·intro b2_ b3_ b4_ b5_ b6_ g3
           refine TL.move rfl rfl (v := .int .i64 k_1) rfl ?_
           refine TL.done ?_
           exact TC.nrm () [] ⟨rfl, trivial⟩ [] (by kernel_rfl)
          ·intro b2_ b3_ b4_ b5_ g3
           refine TL.asL [] (by kernel_rfl) ?_
           refine TL.ixs k_1 k_1.toNat (Rd.old h2) h4 Try.underlying22 Try.sizeOf2 rfl rfl rfl rfl (by omega) ?_
           refine TL.done ?_
           exact TC.nrm () [] ⟨rfl, trivial⟩ [] (by kernel_rfl)
          ·intro b2_ b3_ b4_ b5_ g3
           refine TL.asL [] (by kernel_rfl) ?_
           refine TL.loadE (Rd.old h2) Try.isAgg2 k_1.toNat 0 (gt_spec h4) (v := .int .i64 (gt u1 k_1)) rfl (by simp only [show Ei.sz = 1 from rfl] <;> omega) rfl rfl rfl ?_
           refine TL.done ?_
           exact TC.nrm () [] ⟨rfl, trivial⟩ [] (by kernel_rfl)
          ·intro g3
           refine TL.bin .i64 (gt t1 i1) (gt u1 k_1) rfl rfl rfl rfl (v := .bool ((gt t1 i1) == (gt u1 k_1))) rfl ?_
           refine TL.done ?_
           exact TC.nrm () [] ⟨rfl, trivial⟩ [] (by kernel_rfl)
          ·intro g3
           refine TL.pick rfl rfl (b := false) rfl (r := .bool ((gt t1 i1) == (gt u1 k_1))) rfl ?_
           refine TL.done ?_
           exact TC.nrm () [] ⟨rfl, trivial⟩ [] (by kernel_rfl)
          ·intro g3
           refine TL.assign rfl rfl (v := .bool ((gt t1 i1) == (gt u1 k_1))) rfl ?_
           refine TL.done ?_
           exact TC.nrm () [] ⟨rfl, trivial⟩ [] (by kernel_rfl)
         ·intro g3
          refine TC.asL [] (by kernel_rfl) ?_
          exact TC.nrm ((true, ((gt t1 i1) == (gt u1 k_1)))) (()) ⟨rfl, rfl, rfl, rfl, rfl, rfl, trivial⟩ [] rfl
       ·refine TC.skip ?_
        exact TC.nrm ((touch2, same2)) (()) ⟨rfl, rfl, rfl, rfl, rfl, rfl, trivial⟩ [] rfl
      ·rintro ⟨touch3, same3⟩ _
       refine TC.region ?_
       refine TL.move rfl rfl (v := .int .i64 k_1) rfl ?_
       refine TL.bin .i64 k_1 1 rfl rfl rfl rfl (v := .int .i64 (w64 (k_1 + 1))) rfl ?_
       refine TL.assign rfl rfl (v := .int .i64 (w64 (k_1 + 1))) rfl ?_
       refine TL.done ?_
       exact TC.next1 ((touch3, same3, (w64 (k_1 + 1)))) (()) ⟨rfl, rfl, rfl, rfl, rfl, rfl, trivial⟩ [] rfl
    ·exact TC.brk1 ((touch2, same2, k_1)) (()) ⟨rfl, rfl, rfl, rfl, rfl, rfl, trivial⟩ [] rfl
   ·rintro ⟨touch2, same2, k_1⟩ _
    refine TC.region ?_
    refine TL.move rfl rfl (v := .int .i64 i1) rfl ?_
    refine TL.bin .i64 i1 1 rfl rfl rfl rfl (v := .int .i64 (w64 (i1 + 1))) rfl ?_
    refine TL.assign rfl rfl (v := .int .i64 (w64 (i1 + 1))) rfl ?_
    refine TL.done ?_
    exact TC.next1 ((touch2, same2, (w64 (i1 + 1)))) (()) ⟨rfl, rfl, rfl, rfl, rfl, trivial⟩ [] rfl
  ·exact TC.brk1 ((touch1, same1, i1)) (()) ⟨rfl, rfl, rfl, rfl, rfl, trivial⟩ [] rfl
 ·rintro ⟨touch1, same1, i1⟩ _
  refine TC.seq ?_
  refine TC.region ?_
  refine TL.move rfl rfl (v := .bool touch1) rfl ?_
  refine TL.move rfl rfl (v := .bool same1) rfl ?_
  refine TL.assign rfl rfl (v := .bool touch1) rfl ?_
  refine TL.assign rfl rfl (v := .bool same1) rfl ?_
  refine TL.done ?_
  exact TC.retF (Fin.body (fin2 (.inr rfl) rfl (.tmp rfl) (.tmp rfl) [] rfl ⟨rfl, rfl⟩))

end Go.Proofs.Ytiiljfpbcanphaa.G

/- spec.l07Over, as a pure function. -/
set_option linter.unusedVariables false
namespace Go.Proofs.Ytiiljfpbcanphaa.G
open Go Go.Sx Go.Proofs

def spec_l07Over.f (t1 : List Int) : Option (List Int) := chk 2 t1.length (chk 1 t1.length (chk 0 t1.length (some ([(w64 (0 - (gt t1 2))), (w64 (0 - (gt t1 1))), (w64 (0 - (gt t1 0)))] : List Int))))

def spec_l07Over.R (r : List Int) (v : Value) (L : List Asn) : Prop := ∃ (s0 : SV), v = SV.v s0 ∧ L = [row Ei 2 s0 r]

set_option maxRecDepth 100000 in
set_option maxHeartbeats 4000000 in
theorem spec_l07Over.calls (w : World) (s1 : SV) (t1 : List Int) (h1 : Reads Ei (hp w) s1 t1) :
  ∀ r, spec_l07Over.f t1 = some r → Calls Try.prog 149 #[SV.v s1] w (Ret w (spec_l07Over.R r)) := by

 refine calls_T (n := 16) (Γ := [(0, SV.v s1)]) (R := spec_l07Over.R) Try.func149 rfl rfl (Nat.le_of_ble_eq_true rfl) ⟨rfl, trivial⟩ ?_
 unfold spec_l07Over.f
 refine TC.seq ?_
 refine TC.region ?_
 refine TL.assign rfl rfl (v := SV.v ⟨none, 0, 0⟩) rfl ?_
 refine TL.done ?_
 refine TC.seq ?_
 refine TC.wk (Γ' := [(0, SV.v s1)]) ⟨rfl, trivial⟩ ?_
 refine TC.chk fun h2 => ?_
 refine TC.chk fun h3 => ?_
 refine TC.chk fun h4 => ?_
 refine TC.drawG [(0, SV.v s1)] [] ⟨rfl, trivial⟩ trivial (fun l_ g1 => [(bif nb l_ 12 then row Ei 2 (gs (g1 96)) ([(w64 (0 - (gt t1 2))), (w64 (0 - (gt t1 1))), (w64 (0 - (gt t1 0)))] : List Int) else emp)]) (fun g1 => [SV.v s1, ep s1 2, .int .i64 (gt t1 2), .int .i64 (w64 (0 - (gt t1 2))), SV.v s1, ep s1 1, .int .i64 (gt t1 1), .int .i64 (w64 (0 - (gt t1 1))), SV.v s1, ep s1 0, .int .i64 (gt t1 0), .int .i64 (w64 (0 - (gt t1 0))), SV.v (gs (g1 96)), SV.v (gs (g1 96))]) [[], [0], [0, 1], [0, 1, 2], [], [4], [4, 5], [4, 5, 6], [], [8], [8, 9], [8, 9, 10], [0, 1, 2, 3, 4, 5, 6, 7, 8, 9, 10, 11], [0, 1, 2, 3, 4, 5, 6, 7, 8, 9, 10, 11, 12]] [[some false, some false, some false, some false, none, none, none, none, none, none, none, none, some false, some false], [some true, some false, some false, some false, none, none, none, none, none, none, none, none, some false, some false], [some true, some true, some false, some false, none, none, none, none, none, none, none, none, some false, some false], [some true, some true, some true, some false, none, none, none, none, none, none, none, none, some false, some false], [none, none, none, none, some false, some false, some false, some false, none, none, none, none, some false, some false], [none, none, none, none, some true, some false, some false, some false, none, none, none, none, some false, some false], [none, none, none, none, some true, some true, some false, some false, none, none, none, none, some false, some false], [none, none, none, none, some true, some true, some true, some false, none, none, none, none, some false, some false], [none, none, none, none, none, none, none, none, some false, some false, some false, some false, some false, some false], [none, none, none, none, none, none, none, none, some true, some false, some false, some false, some false, some false], [none, none, none, none, none, none, none, none, some true, some true, some false, some false, some false, some false], [none, none, none, none, none, none, none, none, some true, some true, some true, some false, some false, some false], [some true, some true, some true, some true, some true, some true, some true, some true, some true, some true, some true, some true, some false, some false], [some true, some true, some true, some true, some true, some true, some true, some true, some true, some true, some true, some true, some true, some false]] (by kernel_rfl) (fun _ => rfl) rfl rfl rfl rfl rfl (fun _ _ => ⟨⟨⟨⟨⟨⟨⟨⟨⟨⟨⟨⟨⟨⟨trivial, rfl⟩, rfl⟩, rfl⟩, rfl⟩, rfl⟩, rfl⟩, rfl⟩, rfl⟩, rfl⟩, rfl⟩, rfl⟩, rfl⟩, rfl⟩, rfl⟩) 1 [0] (fun _ => by kernel_rfl) ?_ ?_
 ·refine ⟨rfl, ?_, rfl, ?_, rfl, ?_, rfl, ?_, rfl, ?_, rfl, ?_, rfl, ?_, rfl, ?_, rfl, ?_, rfl, ?_, rfl, ?_, rfl, ?_, rfl, ?_, rfl, ?_, trivial⟩
  ·intro b4_ b5_ b6_ b7_ b8_ b9_ b10_ b11_ g1
   refine TL.move rfl rfl (v := SV.v s1) rfl ?_
   refine TL.done ?_
   exact TC.nrm () [] ⟨rfl, trivial⟩ [0] (by kernel_rfl)
  ·intro b4_ b5_ b6_ b7_ b8_ b9_ b10_ b11_ g1
   refine TL.asL [emp] (by kernel_rfl) ?_
   refine TL.ixs 2 2 (Rd.old h1) h2 Try.underlying22 Try.sizeOf2 rfl rfl rfl rfl rfl ?_
   refine TL.done ?_
   exact TC.nrm () [] ⟨rfl, trivial⟩ [0] (by kernel_rfl)
  ·intro b4_ b5_ b6_ b7_ b8_ b9_ b10_ b11_ g1
   refine TL.asL [emp] (by kernel_rfl) ?_
   refine TL.loadE (Rd.old h1) Try.isAgg2 2 0 (gt_spec h2) (v := .int .i64 (gt t1 2)) rfl rfl rfl rfl rfl ?_
   refine TL.done ?_
   exact TC.nrm () [] ⟨rfl, trivial⟩ [0] (by kernel_rfl)
  ·intro b4_ b5_ b6_ b7_ b8_ b9_ b10_ b11_ g1
   refine TL.neg .i64 (gt t1 2) rfl rfl rfl ?_
   refine TL.done ?_
   exact TC.nrm () [] ⟨rfl, trivial⟩ [0] (by kernel_rfl)
  ·intro b0_ b1_ b2_ b3_ b8_ b9_ b10_ b11_ g1
   refine TL.move rfl rfl (v := SV.v s1) rfl ?_
   refine TL.done ?_
   exact TC.nrm () [] ⟨rfl, trivial⟩ [0] (by kernel_rfl)
  ·intro b0_ b1_ b2_ b3_ b8_ b9_ b10_ b11_ g1
   refine TL.asL [emp] (by kernel_rfl) ?_
   refine TL.ixs 1 1 (Rd.old h1) h3 Try.underlying22 Try.sizeOf2 rfl rfl rfl rfl rfl ?_
   refine TL.done ?_
   exact TC.nrm () [] ⟨rfl, trivial⟩ [0] (by kernel_rfl)
  ·intro b0_ b1_ b2_ b3_ b8_ b9_ b10_ b11_ g1
   refine TL.asL [emp] (by kernel_rfl) ?_
   refine TL.loadE (Rd.old h1) Try.isAgg2 1 0 (gt_spec h3) (v := .int .i64 (gt t1 1)) rfl rfl rfl rfl rfl ?_
   refine TL.done ?_
   exact TC.nrm () [] ⟨rfl, trivial⟩ [0] (by kernel_rfl)
  ·intro b0_ b1_ b2_ b3_ b8_ b9_ b10_ b11_ g1
   refine TL.neg .i64 (gt t1 1) rfl rfl rfl ?_
   refine TL.done ?_
   exact TC.nrm () [] ⟨rfl, trivial⟩ [0] (by kernel_rfl)
  ·intro b0_ b1_ b2_ b3_ b4_ b5_ b6_ b7_ g1
   refine TL.move rfl rfl (v := SV.v s1) rfl ?_
   refine TL.done ?_
   exact TC.nrm () [] ⟨rfl, trivial⟩ [0] (by kernel_rfl)
  ·intro b0_ b1_ b2_ b3_ b4_ b5_ b6_ b7_ g1
   refine TL.asL [emp] (by kernel_rfl) ?_
   refine TL.ixs 0 0 (Rd.old h1) h4 Try.underlying22 Try.sizeOf2 rfl rfl rfl rfl rfl ?_
   refine TL.done ?_
   exact TC.nrm () [] ⟨rfl, trivial⟩ [0] (by kernel_rfl)
  ·intro b0_ b1_ b2_ b3_ b4_ b5_ b6_ b7_ g1
   refine TL.asL [emp] (by kernel_rfl) ?_
   refine TL.loadE (Rd.old h1) Try.isAgg2 0 0 (gt_spec h4) (v := .int .i64 (gt t1 0)) rfl rfl rfl rfl rfl ?_
   refine TL.done ?_
   exact TC.nrm () [] ⟨rfl, trivial⟩ [0] (by kernel_rfl)
  ·intro b0_ b1_ b2_ b3_ b4_ b5_ b6_ b7_ g1
   refine TL.neg .i64 (gt t1 0) rfl rfl rfl ?_
   refine TL.done ?_
   exact TC.nrm () [] ⟨rfl, trivial⟩ [0] (by kernel_rfl)
  ·intro g1
   refine TL.asL [emp] (by kernel_rfl) ?_
   refine TL.blit Ei ([(w64 (0 - (gt t1 2))), (w64 (0 - (gt t1 1))), (w64 (0 - (gt t1 0)))] : List Int) Try.underlying22 Try.sizeOf2 Try.zeroValue2 rfl rfl rfl [(0, .int .i64 (w64 (0 - (gt t1 2)))), (1, .int .i64 (w64 (0 - (gt t1 1)))), (2, .int .i64 (w64 (0 - (gt t1 0))))] rfl ⟨rfl, rfl, rfl, rfl, rfl, rfl, trivial⟩ rfl rfl fun s2 => ?_
   refine TL.done ?_
   exact TC.nrm () [[s2]] ⟨rfl, trivial⟩ [0] (by kernel_rfl)
  ·intro g1
   refine TL.assign rfl rfl (v := SV.v (gs (g1 96))) rfl ?_
   refine TL.done ?_
   exact TC.nrm () [] ⟨rfl, trivial⟩ [0] (by kernel_rfl)
 ·intro g1
  refine TC.asL [row Ei 2 (gs (g1 96)) ([(w64 (0 - (gt t1 2))), (w64 (0 - (gt t1 1))), (w64 (0 - (gt t1 0)))] : List Int)] (by kernel_rfl) ?_
  exact TC.retF (Fin.body (fin1 (.inr rfl) rfl (.tmp rfl) [0] rfl ⟨(gs (g1 96)), rfl, rfl⟩))

end Go.Proofs.Ytiiljfpbcanphaa.G

/- spec.l07Orient, as a pure function. -/
set_option linter.unusedVariables false
namespace Go.Proofs.Ytiiljfpbcanphaa.G
open Go Go.Sx Go.Proofs

def spec_l07Orient.b0 (x5 : Int) : (List (List Int)) × (List Bool) × Bool × Int → Option (LB ((List (List Int)) × (List Bool) × Bool × Int)) := fun p => match p with | (l11, l12, x6, x7) => (bif (decide (x7 < (l11.length : Int))) then chk x5 l12.length (some (gt l12 x5)) else some false).bind (fun b_1 => (bif b_1 then (chk x5 l11.length (chk x7 l11.length ((G.spec_l07Touch.f (gt l11 x5) (gt l11 x7)).bind (fun p => match p with | (r_2, r_3) => chk x7 l12.length ((bif ((gt l12 x7) || (!r_2)) then some (.inl (l11, l12, x6)) else ((bif r_3 then (G.spec_l07Over.f (gt l11 x7)).bind (fun r_4 => some (l11.set x7.toNat r_4)) else some l11)).bind (fun l18 => some (.inl (l18, (l12.set x7.toNat true), true))))))))).bind (jn (fun p => match p with | (l15, l16, x11) => some (.next (l15, l16, x11, (w64 (x7 + 1)))))) else some (.brk (l11, l12, x6, x7))))

def spec_l07Orient.b1 : (List (List Int)) × (List Bool) × Bool × Int → Option (LB ((List (List Int)) × (List Bool) × Bool × Int)) := fun p => match p with | (l9, l10, x4, x5) => (bif (decide (x5 < (l9.length : Int))) then (loop1 (spec_l07Orient.b0 x5) (l9, l10, x4, 0)).bind (fun p => match p with | (l11, l12, x6, x7) => some (.next (l11, l12, x6, (w64 (x5 + 1))))) else some (.brk (l9, l10, x4, x5)))

def spec_l07Orient.b2 : (List (List Int)) × (List Bool) × Bool → Option (LB ((List (List Int)) × (List Bool) × Bool)) := fun p => match p with | (l7, l8, x3) => (bif x3 then (loop1 (spec_l07Orient.b1) (l7, l8, false, 0)).bind (fun p => match p with | (l9, l10, x4, x5) => some (.next (l9, l10, x4))) else some (.brk (l7, l8, x3)))

def spec_l07Orient.b3 : (List (List Int)) × (List Bool) × Int → Option (LB ((List (List Int)) × (List Bool) × Int)) := fun p => match p with | (l1, l2, x2) => (bif (decide (x2 < (l1.length : Int))) then (chk x2 l2.length ((bif (gt l2 x2) then some (.inl (l1, l2)) else (loop1 (spec_l07Orient.b2) (l1, (l2.set x2.toNat true), true)).bind (fun p => match p with | (l7, l8, x3) => some (.inl (l7, l8)))))).bind (jn (fun p => match p with | (l5, l6) => some (.next (l5, l6, (w64 (x2 + 1)))))) else some (.brk (l1, l2, x2)))

def spec_l07Orient.f (x1 : List (List Int)) : Option ((List (List Int)) × Bool) := (G.spec_l07Copy.f x1).bind (fun r_1 => small x1.length ((loop1 (spec_l07Orient.b3) (r_1, (List.replicate (x1.length : Int).toNat (false : Bool)), 0)).bind (fun p => match p with | (l1, l2, x2) => (G.spec_l07Oriented.f l1).bind (fun r_5 => some (l1, r_5)))))

def spec_l07Orient.R (r : (List (List Int)) × Bool) (v : Value) (L : List Asn) : Prop := ∃ (s0 : SV) (ss0 : List SV), v = .tuple #[SV.v s0, .bool r.2] ∧ L = [mat Ei 2 22 s0 ss0 r.1]

set_option maxRecDepth 100000 in
set_option maxHeartbeats 4000000 in
theorem spec_l07Orient.calls (w : World) (s1 : SV) (ss1 : List SV) (x1 : List (List Int)) (h1 : ReadsM Ei (hp w) s1 ss1 x1) :
  ∀ r, spec_l07Orient.f x1 = some r → Calls Try.prog 101 #[SV.v s1] w (Ret w (spec_l07Orient.R r)) := by

 refine calls_T (n := 84) (Γ := [(0, SV.v s1)]) (R := spec_l07Orient.R) Try.func101 rfl rfl (Nat.le_of_ble_eq_true rfl) ⟨rfl, trivial⟩ ?_
 unfold spec_l07Orient.f
 refine TC.seq ?_
 refine TC.region ?_
 refine TL.assign rfl rfl (v := SV.v ⟨none, 0, 0⟩) rfl ?_
 refine TL.assign rfl rfl (v := .bool false) rfl ?_
 refine TL.done ?_
 refine TC.seq ?_
 refine TC.wk (Γ' := [(0, SV.v s1), (2, SV.v ⟨none, 0, 0⟩), (3, .bool false)]) ⟨rfl, rfl, rfl, trivial⟩ ?_
 refine TC.bindE ?_
 rintro r_1 hr1
 refine TC.small fun h2 => ?_
 refine TC.drawG [(0, SV.v s1), (2, SV.v ⟨none, 0, 0⟩), (3, .bool false)] [] ⟨rfl, rfl, rfl, trivial⟩ trivial (fun l_ g1 => [(bif nb l_ 1 then mat Ei 2 22 (gs (g1 8)) (g1 9) r_1 else emp), (bif nb l_ 4 then row Eb 4 (gs (g1 32)) (List.replicate (x1.length : Int).toNat (false : Bool)) else emp)]) (fun g1 => [SV.v s1, SV.v (gs (g1 8)), SV.v s1, .int .i64 (x1.length : Int), SV.v (gs (g1 32)), SV.v (gs (g1 8)), SV.v (gs (g1 32))]) [[], [0], [], [2], [2, 3], [0, 1], [0, 1, 2, 3, 4, 5]] [[some false, some false, none, none, none, some false, some false], [some true, some false, none, none, none, some false, some false], [none, none, some false, some false, some false, none, some false], [none, none, some true, some false, some false, none, some false], [none, none, some true, some true, some false, none, some false], [some true, some true, none, none, none, some false, some false], [some true, some true, some true, some true, some true, some true, some false]] (by kernel_rfl) (fun _ => rfl) rfl rfl rfl rfl rfl (fun _ _ => ⟨⟨⟨⟨⟨⟨⟨trivial, rfl⟩, rfl⟩, rfl⟩, rfl⟩, rfl⟩, rfl⟩, rfl⟩) 2 [0, 0] (fun _ => by kernel_rfl) ?_ ?_
 ·refine ⟨rfl, ?_, rfl, ?_, rfl, ?_, rfl, ?_, rfl, ?_, rfl, ?_, rfl, ?_, trivial⟩
  ·intro b2_ b3_ b4_ g1
   refine TL.move rfl rfl (v := SV.v s1) rfl ?_
   refine TL.done ?_
   exact TC.nrm () [] ⟨rfl, trivial⟩ [0, 0] (by kernel_rfl)
  ·intro b2_ b3_ b4_ g1
   refine TL.asL [emp, (bif b4_ then row Eb 4 (gs (g1 32)) (List.replicate (x1.length : Int).toNat (false : Bool)) else emp)] (by kernel_rfl) ?_
   refine TL.callH (R := G.spec_l07Copy.R) hr1 Try.call147 rfl rfl rfl (fun w hS => G.spec_l07Copy.calls w s1 ss1 x1 ((RdM.old h1) w hS)) ?_
   rintro _ _ ⟨s2, ss2, rfl, rfl⟩
   refine TL.done ?_
   exact TC.nrm () [[s2], ss2] ⟨rfl, trivial⟩ [0, 1] (by kernel_rfl)
  ·intro b0_ b1_ b5_ g1
   refine TL.move rfl rfl (v := SV.v s1) rfl ?_
   refine TL.done ?_
   exact TC.nrm () [] ⟨rfl, trivial⟩ [0, 0] (by kernel_rfl)
  ·intro b0_ b1_ b5_ g1
   refine TL.asL [(bif b1_ then mat Ei 2 22 (gs (g1 8)) (g1 9) r_1 else emp), emp] (by kernel_rfl) ?_
   refine TL.lenM (RdM.old h1) Try.underlying32 rfl rfl rfl ?_
   refine TL.done ?_
   exact TC.nrm () [] ⟨rfl, trivial⟩ [0, 0] (by kernel_rfl)
  ·intro b0_ b1_ b5_ g1
   refine TL.asL [(bif b1_ then mat Ei 2 22 (gs (g1 8)) (g1 9) r_1 else emp), emp] (by kernel_rfl) ?_
   refine TL.mkslice Eb (false : Bool) (x1.length : Int) Try.underlying90 (info_of Try.type4) (zv := (Try.t4.zero.getD (.bool false))) rfl rfl rfl (by simp [Eb, flat, Seg.cells]) (by decide) (by omega) (by omega) rfl rfl rfl rfl fun s3 => ?_
   refine TL.done ?_
   exact TC.nrm () [[s3]] ⟨rfl, trivial⟩ [1, 0] (by kernel_rfl)
  ·intro b2_ b3_ b4_ g1
   refine TL.assign rfl rfl (v := SV.v (gs (g1 8))) rfl ?_
   refine TL.done ?_
   exact TC.nrm () [] ⟨rfl, trivial⟩ [0, 0] (by kernel_rfl)
  ·intro g1
   refine TL.assign rfl rfl (v := SV.v (gs (g1 32))) rfl ?_
   refine TL.done ?_
   exact TC.nrm () [] ⟨rfl, trivial⟩ [0, 0] (by kernel_rfl)
 ·intro g1
  refine TC.asL [mat Ei 2 22 (gs (g1 8)) (g1 9) r_1, row Eb 4 (gs (g1 32)) (List.replicate (x1.length : Int).toNat (false : Bool))] (by kernel_rfl) ?_
  refine TC.seq ?_
  refine TC.seq ?_
  refine TC.region ?_
  refine TL.assign rfl rfl (v := .int .i64 0) rfl ?_
  refine TL.done ?_
  refine TC.loop1 (σ := (List (List Int)) × (List Bool) × Int) (γ := (List SV)) (Γ' := (fun p q => match p, q with | (l1, l2, x2), ss3 => [(4, SV.v (gs (g1 8))), (5, SV.v (gs (g1 32))), (6, .int .i64 x2)])) (L' := (fun p q => match p, q with | (l1, l2, x2), ss3 => [mat Ei 2 22 (gs (g1 8)) ss3 l1, row Eb 4 (gs (g1 32)) l2])) (Γb := (fun p q => match p, q with | (l1, l2, x2), ss3 => [(4, SV.v (gs (g1 8))), (5, SV.v (gs (g1 32))), (6, .int .i64 x2)])) (Lb := (fun p q => match p, q with | (l1, l2, x2), ss3 => [mat Ei 2 22 (gs (g1 8)) ss3 l1, row Eb 4 (gs (g1 32)) l2])) ((r_1, (List.replicate (x1.length : Int).toNat (false : Bool)), 0)) ((g1 9)) ⟨rfl, rfl, rfl, trivial⟩ [0, 0] rfl ?_ ?_
  ·rintro ⟨l1, l2, x2⟩ ss3
   refine TC.seq ?_
   refine TC.seq ?_
   refine TC.region ?_
   refine TL.move rfl rfl (v := .int .i64 x2) rfl ?_
   refine TL.move rfl rfl (v := SV.v (gs (g1 8))) rfl ?_
   refine TL.lenM (RdM.mat 0 rfl) Try.underlying32 rfl rfl rfl ?_
   refine TL.bin .i64 x2 (l1.length : Int) rfl rfl rfl rfl (v := .bool (decide (x2 < (l1.length : Int)))) rfl ?_
   refine TL.done ?_
   refine TC.cond (b := (decide (x2 < (l1.length : Int)))) rfl (fun c1 => ?_) (fun c2 => ?_)
   ·refine TC.skip ?_
    refine TC.seq ?_
    refine TC.blockJ (σ := (List (List Int)) × (List Bool)) (γ := (List SV)) (Γ' := (fun p q => match p, q with | (l5, l6), ss5 => [(4, SV.v (gs (g1 8))), (5, SV.v (gs (g1 32))), (6, .int .i64 x2)])) (L' := (fun p q => match p, q with | (l5, l6), ss5 => [mat Ei 2 22 (gs (g1 8)) ss5 l5, row Eb 4 (gs (g1 32)) l6])) ?_ ?_
    ·refine TC.seq ?_
     refine TC.seq ?_
     refine TC.region ?_
     refine TL.move rfl rfl (v := SV.v (gs (g1 32))) rfl ?_
     refine TL.move rfl rfl (v := .int .i64 x2) rfl ?_
     refine TL.chk fun h4 => ?_
     refine TL.ixs x2 x2.toNat (Rd.row 1 rfl) h4 Try.underlying90 Try.sizeOf4 rfl rfl rfl rfl (by omega) ?_
     refine TL.loadE (Rd.row 1 rfl) Try.isAgg4 x2.toNat 0 (gt_spec h4) (v := .bool (gt l2 x2)) rfl (by simp only [show Eb.sz = 1 from rfl] <;> omega) rfl rfl rfl ?_
     refine TL.done ?_
     refine TC.cond (b := (gt l2 x2)) rfl (fun c3 => ?_) (fun c4 => ?_)
     ·exact TC.exB ((l1, l2)) (ss3) ⟨rfl, rfl, rfl, trivial⟩ [0, 0] rfl
     ·refine TC.skip ?_
      refine TC.seq ?_
      refine TC.region ?_
      refine TL.move rfl rfl (v := SV.v (gs (g1 32))) rfl ?_
      refine TL.move rfl rfl (v := .int .i64 x2) rfl ?_
      refine TL.ixs x2 x2.toNat (Rd.row 1 rfl) h4 Try.underlying90 Try.sizeOf4 rfl rfl rfl rfl (by omega) ?_
      refine TL.stE 1 (x2.toNat) true (v := .bool true) rfl Try.sizeOf4 rfl rfl rfl (by have h_ := h4; omega) (by simp only [show Eb.sz = 1 from rfl] <;> omega) rfl rfl rfl ?_
      refine TL.done ?_
      refine TC.seq ?_
      refine TC.region ?_
      refine TL.assign rfl rfl (v := .bool true) rfl ?_
      refine TL.done ?_
      refine TC.loop1 (σ := (List (List Int)) × (List Bool) × Bool) (γ := (List SV)) (Γ' := (fun p q => match p, q with | (l7, l8, x3), ss6 => [(4, SV.v (gs (g1 8))), (5, SV.v (gs (g1 32))), (6, .int .i64 x2), (7, .bool x3)])) (L' := (fun p q => match p, q with | (l7, l8, x3), ss6 => [mat Ei 2 22 (gs (g1 8)) ss6 l7, row Eb 4 (gs (g1 32)) l8])) (Γb := (fun p q => match p, q with | (l7, l8, x3), ss6 => [(4, SV.v (gs (g1 8))), (5, SV.v (gs (g1 32))), (6, .int .i64 x2), (7, .bool x3)])) (Lb := (fun p q => match p, q with | (l7, l8, x3), ss6 => [mat Ei 2 22 (gs (g1 8)) ss6 l7, row Eb 4 (gs (g1 32)) l8])) ((l1, (l2.set x2.toNat true), true)) (ss3) ⟨rfl, rfl, rfl, rfl, trivial⟩ [0, 0] rfl ?_ ?_
      ·rintro ⟨l7, l8, x3⟩ ss6
       refine TC.seq ?_
       refine TC.seq ?_
       refine TC.region ?_
       refine TL.move rfl rfl (v := .bool x3) rfl ?_
       refine TL.done ?_
       refine TC.cond (b := x3) rfl (fun c5 => ?_) (fun c6 => ?_)
       ·refine TC.skip ?_
        refine TC.block (NoEx.loop1 rfl) ?_
        refine TC.seq ?_
        refine TC.region ?_
        refine TL.assign rfl rfl (v := .bool false) rfl ?_
        refine TL.done ?_
        refine TC.seq ?_
        refine TC.region ?_
        refine TL.assign rfl rfl (v := .int .i64 0) rfl ?_
        refine TL.done ?_
        refine TC.loop1 (σ := (List (List Int)) × (List Bool) × Bool × Int) (γ := (List SV)) (Γ' := (fun p q => match p, q with | (l9, l10, x4, x5), ss7 => [(4, SV.v (gs (g1 8))), (5, SV.v (gs (g1 32))), (6, .int .i64 x2), (7, .bool x4), (8, .int .i64 x5)])) (L' := (fun p q => match p, q with | (l9, l10, x4, x5), ss7 => [mat Ei 2 22 (gs (g1 8)) ss7 l9, row Eb 4 (gs (g1 32)) l10])) (Γb := (fun p q => match p, q with | (l9, l10, x4, x5), ss7 => [(4, SV.v (gs (g1 8))), (5, SV.v (gs (g1 32))), (6, .int .i64 x2), (7, .bool x4), (8, .int .i64 x5)])) (Lb := (fun p q => match p, q with | (l9, l10, x4, x5), ss7 => [mat Ei 2 22 (gs (g1 8)) ss7 l9, row Eb 4 (gs (g1 32)) l10])) ((l7, l8, false, 0)) (ss6) ⟨rfl, rfl, rfl, rfl, rfl, trivial⟩ [0, 0] rfl ?_ ?_
        ·rintro ⟨l9, l10, x4, x5⟩ ss7
         refine TC.seq ?_
         refine TC.seq ?_
         refine TC.region ?_
         refine TL.move rfl rfl (v := .int .i64 x5) rfl ?_
         refine TL.move rfl rfl (v := SV.v (gs (g1 8))) rfl ?_
         refine TL.lenM (RdM.mat 0 rfl) Try.underlying32 rfl rfl rfl ?_
         refine TL.bin .i64 x5 (l9.length : Int) rfl rfl rfl rfl (v := .bool (decide (x5 < (l9.length : Int)))) rfl ?_
         refine TL.done ?_
         refine TC.cond (b := (decide (x5 < (l9.length : Int)))) rfl (fun c7 => ?_) (fun c8 => ?_)
         ·refine TC.skip ?_
          refine TC.seq ?_
          refine TC.block (NoEx.loop1 rfl) ?_
          refine TC.seq ?_
          refine TC.region ?_
          refine TL.assign rfl rfl (v := .int .i64 0) rfl ?_
          refine TL.done ?_
          refine TC.loop1 (σ := (List (List Int)) × (List Bool) × Bool × Int) (γ := (List SV)) (Γ' := (fun p q => match p, q with | (l11, l12, x6, x7), ss8 => [(4, SV.v (gs (g1 8))), (5, SV.v (gs (g1 32))), (6, .int .i64 x2), (7, .bool x6), (8, .int .i64 x5), (9, .int .i64 x7)])) (L' := (fun p q => match p, q with | (l11, l12, x6, x7), ss8 => [mat Ei 2 22 (gs (g1 8)) ss8 l11, row Eb 4 (gs (g1 32)) l12])) (Γb := (fun p q => match p, q with | (l11, l12, x6, x7), ss8 => [(4, SV.v (gs (g1 8))), (5, SV.v (gs (g1 32))), (6, .int .i64 x2), (7, .bool x6), (8, .int .i64 x5), (9, .int .i64 x7)])) (Lb := (fun p q => match p, q with | (l11, l12, x6, x7), ss8 => [mat Ei 2 22 (gs (g1 8)) ss8 l11, row Eb 4 (gs (g1 32)) l12])) ((l9, l10, x4, 0)) (ss7) ⟨rfl, rfl, rfl, rfl, rfl, rfl, trivial⟩ [0, 0] rfl ?_ ?_
          ·rintro ⟨l11, l12, x6, x7⟩ ss8
           refine TC.seq ?_
           refine TC.seq ?_
           refine TC.region ?_
           refine TL.move rfl rfl (v := .int .i64 x7) rfl ?_
           refine TL.move rfl rfl (v := SV.v (gs (g1 8))) rfl ?_
           refine TL.lenM (RdM.mat 0 rfl) Try.underlying32 rfl rfl rfl ?_
           refine TL.bin .i64 x7 (l11.length : Int) rfl rfl rfl rfl (v := .bool (decide (x7 < (l11.length : Int)))) rfl ?_
           refine TL.move rfl rfl (v := .bool (decide (x7 < (l11.length : Int)))) rfl ?_
           refine TL.cutJ (σ := Bool) (γ := Unit) (Γ' := fun b_1 _ => [(46, .bool b_1), (4, SV.v (gs (g1 8))), (5, SV.v (gs (g1 32))), (6, .int .i64 x2), (7, .bool x6), (8, .int .i64 x5), (9, .int .i64 x7), (37, .int .i64 x7), (38, SV.v (gs (g1 8))), (39, .int .i64 (l11.length : Int)), (40, .bool (decide (x7 < (l11.length : Int)))), (41, .bool (decide (x7 < (l11.length : Int))))]) (L' := fun _ _ => [mat Ei 2 22 (gs (g1 8)) ss8 l11, row Eb 4 (gs (g1 32)) l12]) 5 ?_ ?_
           ·refine TL.ifb (t := 41) (b := (decide (x7 < (l11.length : Int)))) rfl (fun c9 => ?_) (fun c10 => ?_)
            ·refine TL.move rfl rfl (v := SV.v (gs (g1 32))) rfl ?_
             refine TL.move rfl rfl (v := .int .i64 x5) rfl ?_
             refine TL.chk fun h5 => ?_
             refine TL.ixs x5 x5.toNat (Rd.row 1 rfl) h5 Try.underlying90 Try.sizeOf4 rfl rfl rfl rfl (by omega) ?_
             refine TL.loadE (Rd.row 1 rfl) Try.isAgg4 x5.toNat 0 (gt_spec h5) (v := .bool (gt l12 x5)) rfl (by simp only [show Eb.sz = 1 from rfl] <;> omega) rfl rfl rfl ?_
             refine TL.pick rfl rfl (b := true) rfl (r := .bool (gt l12 x5)) rfl ?_
             refine TL.done ?_
             exact TC.nrm ((gt l12 x5)) () ⟨rfl, rfl, rfl, rfl, rfl, rfl, rfl, rfl, rfl, rfl, rfl, (by rw [c9]; rfl), trivial⟩ [0, 0] (by kernel_rfl)
            ·refine TL.skip rfl rfl (by decide) ?_
             refine TL.skip rfl rfl (by decide) ?_
             refine TL.skip rfl rfl (by decide) ?_
             refine TL.skip rfl rfl (by decide) ?_
             refine TL.pick rfl rfl (b := false) rfl (r := .bool false) rfl ?_
             refine TL.done ?_
             exact TC.nrm (false) () ⟨rfl, rfl, rfl, rfl, rfl, rfl, rfl, rfl, rfl, rfl, rfl, (by rw [c10]; rfl), trivial⟩ [0, 0] (by kernel_rfl)
           ·rintro b_1 _
            refine TL.done ?_
            refine TC.cond (b := b_1) rfl (fun c11 => ?_) (fun c12 => ?_)
            ·refine TC.skip ?_
             refine TC.seq ?_
             refine TC.blockJ (σ := (List (List Int)) × (List Bool) × Bool) (γ := (List SV)) (Γ' := (fun p q => match p, q with | (l15, l16, x11), ss10 => [(4, SV.v (gs (g1 8))), (5, SV.v (gs (g1 32))), (6, .int .i64 x2), (7, .bool x11), (8, .int .i64 x5), (9, .int .i64 x7)])) (L' := (fun p q => match p, q with | (l15, l16, x11), ss10 => [mat Ei 2 22 (gs (g1 8)) ss10 l15, row Eb 4 (gs (g1 32)) l16])) ?_ ?_
             ·refine TC.seq ?_
              refine TC.wk (Γ' := [(4, SV.v (gs (g1 8))), (5, SV.v (gs (g1 32))), (6, .int .i64 x2), (7, .bool x6), (8, .int .i64 x5), (9, .int .i64 x7), (37, .int .i64 x7), (38, SV.v (gs (g1 8))), (39, .int .i64 (l11.length : Int)), (40, .bool (decide (x7 < (l11.length : Int)))), (41, .bool (decide (x7 < (l11.length : Int)))), (46, .bool b_1)]) ⟨rfl, rfl, rfl, rfl, rfl, rfl, rfl, rfl, rfl, rfl, rfl, rfl, trivial⟩ ?_
              refine TC.chk fun h6 => ?_
              refine TC.chk fun h7 => ?_
              refine TC.bindE ?_
              rintro ⟨r_2, r_3⟩ hr2
              refine TC.drawG [(4, SV.v (gs (g1 8))), (5, SV.v (gs (g1 32))), (6, .int .i64 x2), (7, .bool x6), (8, .int .i64 x5), (9, .int .i64 x7), (37, .int .i64 x7), (38, SV.v (gs (g1 8))), (39, .int .i64 (l11.length : Int)), (40, .bool (decide (x7 < (l11.length : Int)))), (41, .bool (decide (x7 < (l11.length : Int)))), (46, .bool b_1)] [] ⟨rfl, rfl, rfl, rfl, rfl, rfl, rfl, rfl, rfl, rfl, rfl, rfl, trivial⟩ trivial (fun l_ g2 => [mat Ei 2 22 (gs (g1 8)) ss8 l11, row Eb 4 (gs (g1 32)) l12]) (fun g2 => [SV.v (gs (g1 8)), .int .i64 x5, ep (gs (g1 8)) x5.toNat, SV.v (gt ss8 x5), SV.v (gs (g1 8)), .int .i64 x7, ep (gs (g1 8)) x7.toNat, SV.v (gt ss8 x7), .tuple #[.bool r_2, .bool r_3], .tuple #[.bool r_2, .bool r_3], .bool r_2, .bool r_3, .bool r_2, .bool r_3]) [[], [], [0, 1], [0, 1, 2], [], [], [4, 5], [4, 5, 6], [0, 1, 2, 3, 4, 5, 6, 7], [0, 1, 2, 3, 4, 5, 6, 7, 8], [0, 1, 2, 3, 4, 5, 6, 7, 8, 9], [0, 1, 2, 3, 4, 5, 6, 7, 8, 9], [0, 1, 2, 3, 4, 5, 6, 7, 8, 9, 10], [0, 1, 2, 3, 4, 5, 6, 7, 8, 9, 10, 11, 12]] [[some false, none, some false, some false, none, none, none, none, some false, some false, some false, some false, some false, some false], [none, some false, some false, some false, none, none, none, none, some false, some false, some false, some false, some false, some false], [some true, some true, some false, some false, none, none, none, none, some false, some false, some false, some false, some false, some false], [some true, some true, some true, some false, none, none, none, none, some false, some false, some false, some false, some false, some false], [none, none, none, none, some false, none, some false, some false, some false, some false, some false, some false, some false, some false], [none, none, none, none, none, some false, some false, some false, some false, some false, some false, some false, some false, some false], [none, none, none, none, some true, some true, some false, some false, some false, some false, some false, some false, some false, some false], [none, none, none, none, some true, some true, some true, some false, some false, some false, some false, some false, some false, some false], [some true, some true, some true, some true, some true, some true, some true, some true, some false, some false, some false, some false, some false, some false], [some true, some true, some true, some true, some true, some true, some true, some true, some true, some false, some false, some false, some false, some false], [some true, some true, some true, some true, some true, some true, some true, some true, some true, some true, some false, none, some false, some false], [some true, some true, some true, some true, some true, some true, some true, some true, some true, some true, none, some false, none, some false], [some true, some true, some true, some true, some true, some true, some true, some true, some true, some true, some true, none, some false, some false], [some true, some true, some true, some true, some true, some true, some true, some true, some true, some true, some true, some true, some true, some false]] (by kernel_rfl) (fun _ => rfl) rfl rfl rfl rfl rfl (fun _ _ => ⟨⟨⟨⟨⟨⟨⟨⟨⟨⟨⟨⟨⟨⟨trivial, rfl⟩, rfl⟩, rfl⟩, rfl⟩, rfl⟩, rfl⟩, rfl⟩, rfl⟩, rfl⟩, rfl⟩, rfl⟩, rfl⟩, rfl⟩, rfl⟩) 0 [0, 0] (fun _ => by kernel_rfl) ?_ ?_
              ·refine ⟨rfl, ?_, rfl, ?_, rfl, ?_, rfl, ?_, rfl, ?_, rfl, ?_, rfl, ?_, rfl, ?_, rfl, ?_, rfl, ?_, rfl, ?_, rfl, ?_, rfl, ?_, rfl, ?_, trivial⟩
               ·intro b1_ b4_ b5_ b6_ b7_ g2
                refine TL.move rfl rfl (v := SV.v (gs (g1 8))) rfl ?_
                refine TL.done ?_
                exact TC.nrm () [] ⟨rfl, trivial⟩ [0, 0] (by kernel_rfl)
               ·intro b0_ b4_ b5_ b6_ b7_ g2
                refine TL.move rfl rfl (v := .int .i64 x5) rfl ?_
                refine TL.done ?_
                exact TC.nrm () [] ⟨rfl, trivial⟩ [0, 0] (by kernel_rfl)
               ·intro b4_ b5_ b6_ b7_ g2
                refine TL.asL [mat Ei 2 22 (gs (g1 8)) ss8 l11, row Eb 4 (gs (g1 32)) l12] (by kernel_rfl) ?_
                refine TL.ixsM x5 x5.toNat (RdM.mat 0 rfl) h6 Try.underlying32 Try.sizeOf22 rfl rfl rfl rfl (by omega) ?_
                refine TL.done ?_
                exact TC.nrm () [] ⟨rfl, trivial⟩ [0, 0] (by kernel_rfl)
               ·intro b4_ b5_ b6_ b7_ g2
                refine TL.asL [mat Ei 2 22 (gs (g1 8)) ss8 l11, row Eb 4 (gs (g1 32)) l12] (by kernel_rfl) ?_
                refine TL.loadM2 (RdM.mat 0 rfl) Try.isAgg22 x5 h6 (by omega) rfl rfl rfl ?_
                refine TL.done ?_
                exact TC.nrm () [] ⟨rfl, trivial⟩ [0, 0] (by kernel_rfl)
               ·intro b0_ b1_ b2_ b3_ b5_ g2
                refine TL.move rfl rfl (v := SV.v (gs (g1 8))) rfl ?_
                refine TL.done ?_
                exact TC.nrm () [] ⟨rfl, trivial⟩ [0, 0] (by kernel_rfl)
               ·intro b0_ b1_ b2_ b3_ b4_ g2
                refine TL.move rfl rfl (v := .int .i64 x7) rfl ?_
                refine TL.done ?_
                exact TC.nrm () [] ⟨rfl, trivial⟩ [0, 0] (by kernel_rfl)
               ·intro b0_ b1_ b2_ b3_ g2
                refine TL.asL [mat Ei 2 22 (gs (g1 8)) ss8 l11, row Eb 4 (gs (g1 32)) l12] (by kernel_rfl) ?_
                refine TL.ixsM x7 x7.toNat (RdM.mat 0 rfl) h7 Try.underlying32 Try.sizeOf22 rfl rfl rfl rfl (by omega) ?_
                refine TL.done ?_
                exact TC.nrm () [] ⟨rfl, trivial⟩ [0, 0] (by kernel_rfl)
               ·intro b0_ b1_ b2_ b3_ g2
                refine TL.asL [mat Ei 2 22 (gs (g1 8)) ss8 l11, row Eb 4 (gs (g1 32)) l12] (by kernel_rfl) ?_
                refine TL.loadM2 (RdM.mat 0 rfl) Try.isAgg22 x7 h7 (by omega) rfl rfl rfl ?_
                refine TL.done ?_
                exact TC.nrm () [] ⟨rfl, trivial⟩ [0, 0] (by kernel_rfl)
               ·intro g2
                refine TL.asL [mat Ei 2 22 (gs (g1 8)) ss8 l11, row Eb 4 (gs (g1 32)) l12] (by kernel_rfl) ?_
                refine TL.callH (R := G.spec_l07Touch.R) hr2 Try.call148 rfl rfl rfl (fun w hS => G.spec_l07Touch.calls w (gt ss8 x5) (gt l11 x5) (gt ss8 x7) (gt l11 x7) ((RdM.inn (RdM.mat 0 rfl) h6) w hS) ((RdM.inn (RdM.mat 0 rfl) h7) w hS)) ?_
                rintro _ _ ⟨rfl, rfl⟩
                refine TL.done ?_
                exact TC.nrm () [] ⟨rfl, trivial⟩ [0, 0] (by kernel_rfl)
               ·intro g2
                refine TL.move rfl rfl (v := .tuple #[.bool r_2, .bool r_3]) rfl ?_
                refine TL.done ?_
                exact TC.nrm () [] ⟨rfl, trivial⟩ [0, 0] (by kernel_rfl)
               ·intro b11_ g2
                refine TL.extract rfl rfl rfl (v := .bool r_2) rfl ?_
                refine TL.done ?_
                exact TC.nrm () [] ⟨rfl, trivial⟩ [0, 0] (by kernel_rfl)
               ·intro b10_ b12_ g2
                refine TL.extract rfl rfl rfl (v := .bool r_3) rfl ?_
                refine TL.done ?_
                exact TC.nrm () [] ⟨rfl, trivial⟩ [0, 0] (by kernel_rfl)
               ·intro b11_ g2
                refine TL.assign rfl rfl (v := .bool r_2) rfl ?_
                refine TL.done ?_
                exact TC.nrm () [] ⟨rfl, trivial⟩ [0, 0] (by kernel_rfl)
               ·intro g2
                refine TL.assign rfl rfl (v := .bool r_3) rfl ?_
                refine TL.done ?_
                exact TC.nrm () [] ⟨rfl, trivial⟩ [0, 0] (by kernel_rfl)
              ·intro g2
               refine TC.asL [mat Ei 2 22 (gs (g1 8)) ss8 l11, row Eb 4 (gs (g1 32)) l12] (by kernel_rfl) ?_
               refine TC.seq ?_
               refine TC.seq ?_
               refine TC.region ?_
               refine TL.move rfl rfl (v := SV.v (gs (g1 32))) rfl ?_
               refine TL.move rfl rfl (v := .int .i64 x7) rfl ?_
               refine TL.chk fun h8 => ?_
               refine TL.ixs x7 x7.toNat (Rd.row 1 rfl) h8 Try.underlying90 Try.sizeOf4 rfl rfl rfl rfl (by omega) ?_
               refine TL.loadE (Rd.row 1 rfl) Try.isAgg4 x7.toNat 0 (gt_spec h8) (v := .bool (gt l12 x7)) rfl (by simp only [show Eb.sz = 1 from rfl] <;> omega) rfl rfl rfl ?_
               refine TL.move rfl rfl (v := .bool (gt l12 x7)) rfl ?_
               refine TL.cutU 3 [(68, .bool ((gt l12 x7) || (!r_2))), (4, SV.v (gs (g1 8))), (5, SV.v (gs (g1 32))), (6, .int .i64 x2), (7, .bool x6), (8, .int .i64 x5), (9, .int .i64 x7), (37, .int .i64 x7), (38, SV.v (gs (g1 8))), (39, .int .i64 (l11.length : Int)), (40, .bool (decide (x7 < (l11.length : Int)))), (41, .bool (decide (x7 < (l11.length : Int)))), (46, .bool b_1), (50, SV.v (gs (g1 8))), (51, .int .i64 x5), (52, ep (gs (g1 8)) x5.toNat), (53, SV.v (gt ss8 x5)), (54, SV.v (gs (g1 8))), (55, .int .i64 x7), (56, ep (gs (g1 8)) x7.toNat), (57, SV.v (gt ss8 x7)), (58, .tuple #[.bool r_2, .bool r_3]), (49, .tuple #[.bool r_2, .bool r_3]), (59, .bool r_2), (60, .bool r_3), (10, .bool r_2), (11, .bool r_3), (61, SV.v (gs (g1 32))), (62, .int .i64 x7), (63, ep (gs (g1 32)) x7.toNat), (64, .bool (gt l12 x7)), (65, .bool (gt l12 x7))] [mat Ei 2 22 (gs (g1 8)) ss8 l11, row Eb 4 (gs (g1 32)) l12] ?_ ?_
               ·refine TL.cases (t := 65) (b := (gt l12 x7)) rfl (fun c13 => ?_) (fun c14 => ?_)
                ·refine TL.skip rfl rfl (by decide) ?_
                 refine TL.skip rfl rfl (by decide) ?_
                 refine TL.pick rfl rfl (b := true) rfl (r := .bool true) rfl ?_
                 refine TL.done ?_
                 exact TC.nrm () () ⟨(by rw [c13]; rfl), rfl, rfl, rfl, rfl, rfl, rfl, rfl, rfl, rfl, rfl, rfl, rfl, rfl, rfl, rfl, rfl, rfl, rfl, rfl, rfl, rfl, rfl, rfl, rfl, rfl, rfl, rfl, rfl, rfl, rfl, (by rw [c13]; rfl), trivial⟩ [0, 0] (by kernel_rfl)
                ·refine TL.move rfl rfl (v := .bool r_2) rfl ?_
                 refine TL.not r_2 rfl rfl rfl ?_
                 refine TL.pick rfl rfl (b := false) rfl (r := .bool (!r_2)) rfl ?_
                 refine TL.done ?_
                 exact TC.nrm () () ⟨(by rw [c14]; rfl), rfl, rfl, rfl, rfl, rfl, rfl, rfl, rfl, rfl, rfl, rfl, rfl, rfl, rfl, rfl, rfl, rfl, rfl, rfl, rfl, rfl, rfl, rfl, rfl, rfl, rfl, rfl, rfl, rfl, rfl, (by rw [c14]; rfl), trivial⟩ [0, 0] (by kernel_rfl)
               ·refine TL.done ?_
                refine TC.cond (b := ((gt l12 x7) || (!r_2))) rfl (fun c15 => ?_) (fun c16 => ?_)
                ·exact TC.exB ((l11, l12, x6)) (ss8) ⟨rfl, rfl, rfl, rfl, rfl, rfl, trivial⟩ [0, 0] rfl
                ·refine TC.skip ?_
                 refine TC.seq ?_
                 refine TC.seq ?_
                 refine TC.region ?_
                 refine TL.move rfl rfl (v := .bool r_3) rfl ?_
                 refine TL.done ?_
                 refine TC.join1 (σ := (List (List Int))) (γ := (List SV)) (Γ' := (fun l18 ss11 => [(4, SV.v (gs (g1 8))), (5, SV.v (gs (g1 32))), (6, .int .i64 x2), (8, .int .i64 x5), (9, .int .i64 x7)])) (L' := (fun l18 ss11 => [mat Ei 2 22 (gs (g1 8)) ss11 l18, row Eb 4 (gs (g1 32)) l12])) ?_ ?_
                 ·refine TC.cond (b := r_3) rfl (fun c17 => ?_) (fun c18 => ?_)
                  ·refine TC.region ?_
                   refine TL.move rfl rfl (v := SV.v (gs (g1 8))) rfl ?_
                   refine TL.move rfl rfl (v := .int .i64 x7) rfl ?_
                   refine TL.move rfl rfl (v := SV.v (gs (g1 8))) rfl ?_
                   refine TL.move rfl rfl (v := .int .i64 x7) rfl ?_
                   refine TL.ixsM x7 x7.toNat (RdM.mat 0 rfl) h7 Try.underlying32 Try.sizeOf22 rfl rfl rfl rfl (by omega) ?_
                   refine TL.loadM2 (RdM.mat 0 rfl) Try.isAgg22 x7 h7 (by omega) rfl rfl rfl ?_
                   refine TL.call (R := G.spec_l07Over.R) Try.call149 rfl rfl rfl (fun w hS => G.spec_l07Over.calls w (gt ss8 x7) (gt l11 x7) ((RdM.inn (RdM.mat 0 rfl) h7) w hS)) ?_
                   rintro r_4 _ _ ⟨s4, rfl, rfl⟩
                   refine TL.ixsM x7 x7.toNat (RdM.mat 1 rfl) h7 Try.underlying32 Try.sizeOf22 rfl rfl rfl rfl (by omega) ?_
                   refine TL.matlen 1 rfl fun h9 => ?_
                   refine TL.matcut 1 rfl ?_
                   refine TL.stE 0 (x7.toNat) s4 (v := SV.v s4) rfl Try.sizeOf22 rfl rfl rfl (by have h_ := h7; have l_ := h9; (try simp only [List.length_set] at h_ l_ ⊢); omega) (by simp only [show Ev.sz = 1 from rfl] <;> omega) rfl rfl rfl ?_
                   refine TL.hole 2 x7 rfl h7 ?_
                   refine TL.rowsPut 1 2 rfl rfl ?_
                   refine TL.matmk 0 2 rfl rfl ?_
                   refine TL.drop 0 rfl ?_
                   refine TL.asL [emp, mat Ei 2 22 (gs (g1 8)) (ss8.set x7.toNat s4) (l11.set x7.toNat r_4), row Eb 4 (gs (g1 32)) l12] (by kernel_rfl) ?_
                   refine TL.done ?_
                   exact TC.nrm ((l11.set x7.toNat r_4)) ((ss8.set x7.toNat s4)) ⟨rfl, rfl, rfl, rfl, rfl, trivial⟩ [1, 1] rfl
                  ·refine TC.skip ?_
                   exact TC.nrm (l11) (ss8) ⟨rfl, rfl, rfl, rfl, rfl, trivial⟩ [0, 0] rfl
                 ·rintro l18 ss11
                  refine TC.seq ?_
                  refine TC.region ?_
                  refine TL.move rfl rfl (v := SV.v (gs (g1 32))) rfl ?_
                  refine TL.move rfl rfl (v := .int .i64 x7) rfl ?_
                  refine TL.ixs x7 x7.toNat (Rd.row 1 rfl) h8 Try.underlying90 Try.sizeOf4 rfl rfl rfl rfl (by omega) ?_
                  refine TL.stE 1 (x7.toNat) true (v := .bool true) rfl Try.sizeOf4 rfl rfl rfl (by have h_ := h8; omega) (by simp only [show Eb.sz = 1 from rfl] <;> omega) rfl rfl rfl ?_
                  refine TL.done ?_
                  refine TC.region ?_
                  refine TL.assign rfl rfl (v := .bool true) rfl ?_
                  refine TL.done ?_
                  exact TC.inlB ((l18, (l12.set x7.toNat true), true)) (ss11) ⟨rfl, rfl, rfl, rfl, rfl, rfl, trivial⟩ [0, 0] rfl
             ·rintro ⟨l15, l16, x11⟩ ss10
              refine TC.region ?_
              refine TL.move rfl rfl (v := .int .i64 x7) rfl ?_
              refine TL.bin .i64 x7 1 rfl rfl rfl rfl (v := .int .i64 (w64 (x7 + 1))) rfl ?_
              refine TL.assign rfl rfl (v := .int .i64 (w64 (x7 + 1))) rfl ?_
              refine TL.done ?_
              exact TC.next1 ((l15, l16, x11, (w64 (x7 + 1)))) (ss10) ⟨rfl, rfl, rfl, rfl, rfl, rfl, trivial⟩ [0, 0] rfl
            ·exact TC.brk1 ((l11, l12, x6, x7)) (ss8) ⟨rfl, rfl, rfl, rfl, rfl, rfl, trivial⟩ [0, 0] rfl
          ·rintro ⟨l11, l12, x6, x7⟩ ss8
           refine TC.region ?_
           refine TL.move rfl rfl (v := .int .i64 x5) rfl ?_
           refine TL.bin .i64 x5 1 rfl rfl rfl rfl (v := .int .i64 (w64 (x5 + 1))) rfl ?_
           refine TL.assign rfl rfl (v := .int .i64 (w64 (x5 + 1))) rfl ?_
           refine TL.done ?_
           exact TC.next1 ((l11, l12, x6, (w64 (x5 + 1)))) (ss8) ⟨rfl, rfl, rfl, rfl, rfl, trivial⟩ [0, 0] rfl
         ·exact TC.brk1 ((l9, l10, x4, x5)) (ss7) ⟨rfl, rfl, rfl, rfl, rfl, trivial⟩ [0, 0] rfl
        ·rintro ⟨l9, l10, x4, x5⟩ ss7
         exact TC.next1 ((l9, l10, x4)) (ss7) ⟨rfl, rfl, rfl, rfl, trivial⟩ [0, 0] rfl
       ·exact TC.brk1 ((l7, l8, x3)) (ss6) ⟨rfl, rfl, rfl, rfl, trivial⟩ [0, 0] rfl
      ·rintro ⟨l7, l8, x3⟩ ss6
       exact TC.inlB ((l7, l8)) (ss6) ⟨rfl, rfl, rfl, trivial⟩ [0, 0] rfl
    ·rintro ⟨l5, l6⟩ ss5
     refine TC.region ?_
     refine TL.move rfl rfl (v := .int .i64 x2) rfl ?_
     refine TL.bin .i64 x2 1 rfl rfl rfl rfl (v := .int .i64 (w64 (x2 + 1))) rfl ?_
     refine TL.assign rfl rfl (v := .int .i64 (w64 (x2 + 1))) rfl ?_
     refine TL.done ?_
     exact TC.next1 ((l5, l6, (w64 (x2 + 1)))) (ss5) ⟨rfl, rfl, rfl, trivial⟩ [0, 0] rfl
   ·exact TC.brk1 ((l1, l2, x2)) (ss3) ⟨rfl, rfl, rfl, trivial⟩ [0, 0] rfl
  ·rintro ⟨l1, l2, x2⟩ ss3
   refine TC.seq ?_
   refine TC.region ?_
   refine TL.move rfl rfl (v := SV.v (gs (g1 8))) rfl ?_
   refine TL.move rfl rfl (v := SV.v (gs (g1 8))) rfl ?_
   refine TL.call (R := G.spec_l07Oriented.R) Try.call121 rfl rfl rfl (fun w hS => G.spec_l07Oriented.calls w (gs (g1 8)) ss3 l1 ((RdM.mat 0 rfl) w hS)) ?_
   rintro r_5 _ _ ⟨rfl, rfl⟩
   refine TL.assign rfl rfl (v := SV.v (gs (g1 8))) rfl ?_
   refine TL.assign rfl rfl (v := .bool r_5) rfl ?_
   refine TL.done ?_
   exact TC.retF (Fin.body (fin2 (.inr rfl) rfl (.tmp rfl) (.tmp rfl) [0] rfl ⟨(gs (g1 8)), ss3, rfl, rfl⟩))

end Go.Proofs.Ytiiljfpbcanphaa.G
