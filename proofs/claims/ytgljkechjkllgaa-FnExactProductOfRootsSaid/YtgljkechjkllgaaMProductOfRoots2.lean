/- Functions of the program, as pure functions. -/
import Derived.Test.YtgljkechjkllgaaMProductOfRoots1
import Derived.Test.YtgljkechjkllgaaProg
/- impl.rest, as a pure function. -/
set_option linter.unusedVariables false
namespace Go.Proofs.Ytgljkechjkllgaa.G
open Go Go.Sx Go.Proofs

def impl_rest.f (n_1 : Int) (p1 : Int) : Option Int := nz p1 (some (Int.tmod (w64 ((Int.tmod n_1 p1) + p1)) p1))

def impl_rest.R (r : Int) (v : Value) (L : List Asn) : Prop := v = .int .i64 r ∧ L = []

set_option maxRecDepth 100000 in
set_option maxHeartbeats 4000000 in
theorem impl_rest.calls (w : World) (n_1 : Int) (p1 : Int) :
    ∀ r, impl_rest.f n_1 p1 = some r → Calls Try.prog 74 #[.int .i64 n_1, .int .i64 p1] w (Ret w (impl_rest.R r)) := by

  refine calls_T (n := 12) (Γ := [(0, .int .i64 n_1), (1, .int .i64 p1)]) (R := impl_rest.R) Try.func74 rfl rfl (Nat.le_of_ble_eq_true rfl) ⟨rfl, rfl, trivial⟩ ?_
  unfold impl_rest.f
  refine TC.seq ?_
  refine TC.region ?_
  refine TL.assign rfl rfl (v := .int .i64 0) rfl ?_
  refine TL.done ?_
  refine TC.seq ?_
  refine TC.region ?_
  refine TL.move rfl rfl (v := .int .i64 n_1) rfl ?_
  refine TL.move rfl rfl (v := .int .i64 p1) rfl ?_
  refine TL.nz fun z1 => ?_
  refine TL.rem .i64 n_1 p1 z1 rfl rfl rfl rfl ?_
  refine TL.move rfl rfl (v := .int .i64 p1) rfl ?_
  refine TL.bin .i64 (Int.tmod n_1 p1) p1 rfl rfl rfl rfl (v := .int .i64 (w64 ((Int.tmod n_1 p1) + p1))) rfl ?_
  refine TL.move rfl rfl (v := .int .i64 p1) rfl ?_
  refine TL.rem .i64 (w64 ((Int.tmod n_1 p1) + p1)) p1 z1 rfl rfl rfl rfl ?_
  refine TL.assign rfl rfl (v := .int .i64 (Int.tmod (w64 ((Int.tmod n_1 p1) + p1)) p1)) rfl ?_
  refine TL.done ?_
  exact TC.retF (Fin.body (fin1 (.inr rfl) rfl (.tmp rfl) [] rfl ⟨rfl, rfl⟩))

end Go.Proofs.Ytgljkechjkllgaa.G

/- impl.ProductOfRoots, as a pure function. -/
set_option linter.unusedVariables false
namespace Go.Proofs.Ytgljkechjkllgaa.G
open Go Go.Sx Go.Proofs

def impl_ProductOfRoots.b0 (x3 : List Int) (x2 : List Int) (x4 : Int) (x1 : Int) : (List Int) × Int → Option (LB ((List Int) × Int)) := fun p => match p with | (l1, x5) => (bif (decide (x5 < (x3.length : Int))) then chk x5 x3.length (chk x5 l1.length ((G.impl_rest.f (w64 ((gt l1 x5) - (w64 ((gt x2 x4) * (gt x3 x5))))) x1).bind (fun r_4 => some (.next ((l1.set x5.toNat r_4), (w64 (x5 + 1))))))) else some (.brk (l1, x5)))

def impl_ProductOfRoots.b1 (x2 : List Int) (x1 : Int) : (List Int) × Int → Option (LB ((List Int) × Int)) := fun p => match p with | (x3, x4) => (bif (decide (x4 < (x2.length : Int))) then chk x4 x2.length (small (([0] : List Int).length + x3.length) ((loop1 (impl_ProductOfRoots.b0 x3 x2 x4 x1) ((([0] : List Int) ++ x3), 0)).bind (fun p => match p with | (l1, x5) => some (.next (l1, (w64 (x4 + 1))))))) else some (.brk (x3, x4)))

def impl_ProductOfRoots.f (x1 : Int) (x2 : List Int) : Option ((List Int) × Int) := (G.impl_isPrime.f x1).bind (fun r_1 => (bif (!r_1) then some true else (G.impl_in.f (x2.length : Int) 1 6).bind (fun r_2 => some (!r_2))).bind (fun b_2 => (bif b_2 then some true else (G.slices_ContainsFunc_int64_int64.f x2 (fun x0_ => G.impl_ProductOfRoots_1.f x0_ x1)).bind (fun r_3 => some r_3)).bind (fun b_3 => (bif b_3 then some (([] : List Int), 2) else (loop1 (impl_ProductOfRoots.b1 x2 x1) (([1] : List Int), 0)).bind (fun p => match p with | (x3, x4) => grd (decide (0 ≤ 0) && decide (0 ≤ (x2.length : Int)) && decide ((x2.length : Int) ≤ (x2.length : Int)) && decide ((x2.length : Int) ≤ (x3.length : Int))) (some (((x3.drop 0).take (((x2.length : Int).toNat) - 0)), 0)))))))

def impl_ProductOfRoots.R (r : (List Int) × Int) (v : Value) (L : List Asn) : Prop := ∃ (s0 : SV), v = .tuple #[SV.v s0, .int .i64 r.2] ∧ L = [row Ei 2 s0 r.1]

set_option maxRecDepth 100000 in
set_option maxHeartbeats 4000000 in
theorem impl_ProductOfRoots.calls (w : World) (x1 : Int) (s1 : SV) (x2 : List Int) (h1 : Reads Ei (hp w) s1 x2) :
    ∀ r, impl_ProductOfRoots.f x1 x2 = some r → Calls Try.prog 32 #[.int .i64 x1, SV.v s1] w (Ret w (impl_ProductOfRoots.R r)) := by

  refine calls_T (n := 65) (Γ := [(0, .int .i64 x1), (1, SV.v s1)]) (R := impl_ProductOfRoots.R) Try.func32 rfl rfl (Nat.le_of_ble_eq_true rfl) ⟨rfl, rfl, trivial⟩ ?_
  unfold impl_ProductOfRoots.f
  refine TC.seq ?_
  refine TC.region ?_
  refine TL.box [.one (.int .i64 x1)] rfl rfl rfl rfl fun b_1 => ?_
  refine TL.assign rfl rfl (v := SV.v ⟨none, 0, 0⟩) rfl ?_
  refine TL.assign rfl rfl (v := .int .i64 0) rfl ?_
  refine TL.done ?_
  refine TC.seq ?_
  refine TC.seq ?_
  refine TC.region ?_
  refine TL.load1 0 (Src.box 0 rfl) Try.isAgg2 rfl rfl rfl rfl rfl ?_
  refine TL.call (R := G.impl_isPrime.R) Try.call71 rfl rfl rfl (fun w hS => G.impl_isPrime.calls w x1) ?_
  rintro r_1 _ _ ⟨rfl, rfl⟩
  refine TL.not r_1 rfl rfl rfl ?_
  refine TL.move rfl rfl (v := .bool (!r_1)) rfl ?_
  refine TL.cutJ (σ := Bool) (γ := Unit) (Γ' := fun b_2 _ => [(20, .bool b_2), (0, .int .i64 x1), (1, SV.v s1), (2, bp b_1 0), (4, SV.v ⟨none, 0, 0⟩), (5, .int .i64 0), (12, .int .i64 x1), (13, .bool r_1), (14, .bool (!r_1)), (15, .bool (!r_1))]) (L' := fun _ _ => [box b_1 2 [.one (.int .i64 x1)]]) 5 ?_ ?_
  · refine TL.ifb (t := 15) (b := (!r_1)) rfl (fun c1 => ?_) (fun c2 => ?_)
    · refine TL.skip rfl rfl (by decide) ?_
      refine TL.skip rfl rfl (by decide) ?_
      refine TL.skip rfl rfl (by decide) ?_
      refine TL.skip rfl rfl (by decide) ?_
      refine TL.pick rfl rfl (b := true) rfl (r := .bool true) rfl ?_
      refine TL.done ?_
      exact TC.nrm (true) () ⟨rfl, rfl, rfl, rfl, rfl, rfl, rfl, rfl, rfl, (by rw [c1]; rfl), trivial⟩ [0] rfl
    · refine TL.move rfl rfl (v := SV.v s1) rfl ?_
      refine TL.len (Rd.old h1) Try.underlying44 rfl rfl rfl ?_
      refine TL.call (R := G.impl_in.R) Try.call56 rfl rfl rfl (fun w hS => G.impl_in.calls w (x2.length : Int) 1 6) ?_
      rintro r_2 _ _ ⟨rfl, rfl⟩
      refine TL.not r_2 rfl rfl rfl ?_
      refine TL.pick rfl rfl (b := false) rfl (r := .bool (!r_2)) rfl ?_
      refine TL.done ?_
      exact TC.nrm ((!r_2)) () ⟨rfl, rfl, rfl, rfl, rfl, rfl, rfl, rfl, rfl, (by rw [c2]; rfl), trivial⟩ [0] rfl
  · rintro b_2 _
    refine TL.move rfl rfl (v := .bool b_2) rfl ?_
    refine TL.cutJ (σ := Bool) (γ := Unit) (Γ' := fun b_3 _ => [(25, .bool b_3), (0, .int .i64 x1), (1, SV.v s1), (2, bp b_1 0), (4, SV.v ⟨none, 0, 0⟩), (5, .int .i64 0), (12, .int .i64 x1), (13, .bool r_1), (14, .bool (!r_1)), (15, .bool (!r_1)), (20, .bool b_2), (21, .bool b_2)]) (L' := fun _ _ => [box b_1 2 [.one (.int .i64 x1)]]) 4 ?_ ?_
    · refine TL.ifb (t := 21) (b := b_2) rfl (fun c3 => ?_) (fun c4 => ?_)
      · refine TL.skip rfl rfl (by decide) ?_
        refine TL.skip rfl rfl (by decide) ?_
        refine TL.skip rfl rfl (by decide) ?_
        refine TL.pick rfl rfl (b := true) rfl (r := .bool true) rfl ?_
        refine TL.done ?_
        exact TC.nrm (true) () ⟨rfl, rfl, rfl, rfl, rfl, rfl, rfl, rfl, rfl, rfl, rfl, (by rw [c3]; rfl), trivial⟩ [0] rfl
      · refine TL.move rfl rfl (v := SV.v s1) rfl ?_
        refine TL.makeFunc rfl rfl (us := []) (vs := [bp b_1 0]) rfl rfl ?_
        refine TL.call (R := G.slices_ContainsFunc_int64_int64.R) Try.call72 rfl rfl rfl (fun w hS => G.slices_ContainsFunc_int64_int64.calls w s1 x2 73 [] [bp b_1 0] (fun x0_ => G.impl_ProductOfRoots_1.f x0_ x1) ((Rd.old h1) w hS) Try.call73 (fun w_ hle_ x0_ r_ hr_ => G.impl_ProductOfRoots_1.calls w_ x0_ b_1 x1 (((Src.box 0 rfl) w hS).mono hle_) r_ hr_)) ?_
        rintro r_3 _ _ ⟨rfl, rfl⟩
        refine TL.pick rfl rfl (b := false) rfl (r := .bool r_3) rfl ?_
        refine TL.done ?_
        exact TC.nrm (r_3) () ⟨rfl, rfl, rfl, rfl, rfl, rfl, rfl, rfl, rfl, rfl, rfl, (by rw [c4]; rfl), trivial⟩ [0] rfl
    · rintro b_3 _
      refine TL.done ?_
      refine TC.cond (b := b_3) rfl (fun c5 => ?_) (fun c6 => ?_)
      · refine TC.seq ?_
        refine TC.region ?_
        refine TL.assign rfl rfl (v := SV.v ⟨none, 0, 0⟩) rfl ?_
        refine TL.assign rfl rfl (v := .int .i64 2) rfl ?_
        refine TL.done ?_
        refine TC.nilrow Ei 2 ?_
        exact TC.retF (Fin.body (fin2 (.inr rfl) rfl (.tmp rfl) (.tmp rfl) [0] rfl ⟨⟨none, 0, 0⟩, rfl, rfl⟩))
      · refine TC.skip ?_
        refine TC.seq ?_
        refine TC.region ?_
        refine TL.blit Ei ([1] : List Int) Try.underlying44 Try.sizeOf2 Try.zeroValue2 rfl rfl rfl [(0, .int .i64 1)] rfl ⟨rfl, rfl, trivial⟩ rfl rfl fun s2 => ?_
        refine TL.assign rfl rfl (v := SV.v s2) rfl ?_
        refine TL.done ?_
        refine TC.seq ?_
        refine TC.seq ?_
        refine TC.region ?_
        refine TL.move rfl rfl (v := SV.v s1) rfl ?_
        refine TL.len (Rd.old h1) Try.underlying44 rfl rfl rfl ?_
        refine TL.move rfl rfl (v := .int .i64 0) rfl ?_
        refine TL.done ?_
        refine TC.loop1 (σ := (List Int) × Int) (γ := SV) (Γ' := (fun p q => match p, q with | (x3, x4), s3 => [(1, SV.v s1), (2, bp b_1 0), (6, SV.v s3), (27, SV.v s1), (28, .int .i64 (x2.length : Int)), (29, .int .i64 x4)])) (L' := (fun p q => match p, q with | (x3, x4), s3 => [box b_1 2 [.one (.int .i64 x1)], row Ei 2 s3 x3])) (Γb := (fun p q => match p, q with | (x3, x4), s3 => [(1, SV.v s1), (2, bp b_1 0), (6, SV.v s3), (27, SV.v s1), (28, .int .i64 (x2.length : Int)), (29, .int .i64 x4)])) (Lb := (fun p q => match p, q with | (x3, x4), s3 => [box b_1 2 [.one (.int .i64 x1)], row Ei 2 s3 x3])) ((([1] : List Int), 0)) (s2) ⟨rfl, rfl, rfl, rfl, rfl, rfl, trivial⟩ [1, 0] rfl ?_ ?_
        · rintro ⟨x3, x4⟩ s3
          refine TC.seq ?_
          refine TC.region ?_
          refine TL.bin .i64 x4 (x2.length : Int) rfl rfl rfl rfl (v := .bool (decide (x4 < (x2.length : Int)))) rfl ?_
          refine TL.done ?_
          refine TC.seq ?_
          refine TC.cond (b := (decide (x4 < (x2.length : Int)))) rfl (fun c7 => ?_) (fun c8 => ?_)
          · refine TC.skip ?_
            refine TC.seq ?_
            refine TC.block (NoEx.loop1 rfl) ?_
            refine TC.seq ?_
            refine TC.region ?_
            refine TL.chk fun h2 => ?_
            refine TL.ixs x4 x4.toNat (Rd.old h1) h2 Try.underlying44 Try.sizeOf2 rfl rfl rfl rfl (by omega) ?_
            refine TL.loadE (Rd.old h1) Try.isAgg2 x4.toNat 0 (gt_spec h2) (v := .int .i64 (gt x2 x4)) rfl (by simp only [show Ei.sz = 1 from rfl]; omega) rfl rfl rfl ?_
            refine TL.assign rfl rfl (v := .int .i64 (gt x2 x4)) rfl ?_
            refine TL.done ?_
            refine TC.seq ?_
            refine TC.region ?_
            refine TL.blit Ei ([0] : List Int) Try.underlying44 Try.sizeOf2 Try.zeroValue2 rfl rfl rfl [(0, .int .i64 0)] rfl ⟨rfl, rfl, trivial⟩ rfl rfl fun s4 => ?_
            refine TL.move rfl rfl (v := SV.v s3) rfl ?_
            refine TL.small fun h3 => ?_
            refine TL.append 0 rfl (Rd.row 2 rfl) Try.underlying44 (info_of Try.type2) (zv := (Try.t2.zero.getD (.bool false))) rfl rfl rfl (by decide) h3 rfl rfl rfl rfl fun s5 => ?_
            refine TL.assign rfl rfl (v := SV.v s5) rfl ?_
            refine TL.done ?_
            refine TC.seq ?_
            refine TC.seq ?_
            refine TC.region ?_
            refine TL.move rfl rfl (v := SV.v s3) rfl ?_
            refine TL.len (Rd.row 2 rfl) Try.underlying44 rfl rfl rfl ?_
            refine TL.move rfl rfl (v := .int .i64 0) rfl ?_
            refine TL.done ?_
            refine TC.loop1 (σ := (List Int) × Int) (γ := Unit) (Γ' := (fun p q => match p, q with | (l1, x5), _ => [(1, SV.v s1), (2, bp b_1 0), (8, .int .i64 (gt x2 x4)), (9, SV.v s5), (27, SV.v s1), (28, .int .i64 (x2.length : Int)), (29, .int .i64 x4), (36, SV.v s3), (37, .int .i64 (x3.length : Int)), (38, .int .i64 x5)])) (L' := (fun p q => match p, q with | (l1, x5), _ => [box b_1 2 [.one (.int .i64 x1)], row Ei 2 s5 l1, row Ei 2 s3 x3])) (Γb := (fun p q => match p, q with | (l1, x5), _ => [(1, SV.v s1), (2, bp b_1 0), (8, .int .i64 (gt x2 x4)), (9, SV.v s5), (27, SV.v s1), (28, .int .i64 (x2.length : Int)), (29, .int .i64 x4), (36, SV.v s3), (37, .int .i64 (x3.length : Int)), (38, .int .i64 x5)])) (Lb := (fun p q => match p, q with | (l1, x5), _ => [box b_1 2 [.one (.int .i64 x1)], row Ei 2 s5 l1, row Ei 2 s3 x3])) (((([0] : List Int) ++ x3), 0)) (()) ⟨rfl, rfl, rfl, rfl, rfl, rfl, rfl, rfl, rfl, rfl, trivial⟩ [1, 0, 0] rfl ?_ ?_
            · rintro ⟨l1, x5⟩ _
              refine TC.seq ?_
              refine TC.region ?_
              refine TL.bin .i64 x5 (x3.length : Int) rfl rfl rfl rfl (v := .bool (decide (x5 < (x3.length : Int)))) rfl ?_
              refine TL.done ?_
              refine TC.seq ?_
              refine TC.cond (b := (decide (x5 < (x3.length : Int)))) rfl (fun c9 => ?_) (fun c10 => ?_)
              · refine TC.skip ?_
                refine TC.seq ?_
                refine TC.block (NoEx.loop1 rfl) ?_
                refine TC.seq ?_
                refine TC.region ?_
                refine TL.move rfl rfl (v := .int .i64 x5) rfl ?_
                refine TL.chk fun h4 => ?_
                refine TL.ixs x5 x5.toNat (Rd.row 2 rfl) h4 Try.underlying44 Try.sizeOf2 rfl rfl rfl rfl (by omega) ?_
                refine TL.loadE (Rd.row 2 rfl) Try.isAgg2 x5.toNat 0 (gt_spec h4) (v := .int .i64 (gt x3 x5)) rfl (by simp only [show Ei.sz = 1 from rfl]; omega) rfl rfl rfl ?_
                refine TL.assign rfl rfl (v := .int .i64 x5) rfl ?_
                refine TL.assign rfl rfl (v := .int .i64 (gt x3 x5)) rfl ?_
                refine TL.done ?_
                refine TC.wk (Γ' := [(1, SV.v s1), (2, bp b_1 0), (8, .int .i64 (gt x2 x4)), (9, SV.v s5), (27, SV.v s1), (28, .int .i64 (x2.length : Int)), (29, .int .i64 x4), (36, SV.v s3), (37, .int .i64 (x3.length : Int)), (38, .int .i64 x5), (39, .bool (decide (x5 < (x3.length : Int)))), (40, .int .i64 x5), (41, ep s3 x5.toNat), (42, .int .i64 (gt x3 x5)), (10, .int .i64 x5), (11, .int .i64 (gt x3 x5))]) ⟨rfl, rfl, rfl, rfl, rfl, rfl, rfl, rfl, rfl, rfl, rfl, rfl, rfl, rfl, rfl, rfl, trivial⟩ ?_
                refine TC.chk fun h5 => ?_
                refine TC.bindE fun r_4 hr1 => ?_
                refine TC.draw [SV.v s5, .int .i64 x5, SV.v s5, .int .i64 x5, ep s5 x5.toNat, .int .i64 (gt l1 x5), .int .i64 (gt x2 x4), .int .i64 (gt x3 x5), .int .i64 (w64 ((gt x2 x4) * (gt x3 x5))), .int .i64 (w64 ((gt l1 x5) - (w64 ((gt x2 x4) * (gt x3 x5))))), .int .i64 x1, .int .i64 r_4, ep s5 x5.toNat, undef] 13 [box b_1 2 [.one (.int .i64 x1)], row Ei 2 s5 (l1.set x5.toNat r_4), row Ei 2 s3 x3] (by kernel_rfl) rfl rfl rfl rfl ?_ ?_
                · refine ⟨?_, ?_, ?_, ?_, ?_, ?_, ?_, ?_, ?_, ?_, ?_, ?_, ?_, ?_, trivial⟩
                  · refine TL.move rfl rfl (v := SV.v s5) rfl ?_
                    refine TL.done ?_
                    exact TC.nrm () () ⟨rfl, trivial⟩ [0, 0, 0] rfl
                  · refine TL.move rfl rfl (v := .int .i64 x5) rfl ?_
                    refine TL.done ?_
                    exact TC.nrm () () ⟨rfl, trivial⟩ [0, 0, 0] rfl
                  · refine TL.move rfl rfl (v := SV.v s5) rfl ?_
                    refine TL.done ?_
                    exact TC.nrm () () ⟨rfl, trivial⟩ [0, 0, 0] rfl
                  · refine TL.move rfl rfl (v := .int .i64 x5) rfl ?_
                    refine TL.done ?_
                    exact TC.nrm () () ⟨rfl, trivial⟩ [0, 0, 0] rfl
                  · refine TL.ixs x5 x5.toNat (Rd.row 1 rfl) h5 Try.underlying44 Try.sizeOf2 rfl rfl rfl rfl (by omega) ?_
                    refine TL.done ?_
                    exact TC.nrm () () ⟨rfl, trivial⟩ [0, 0, 0] rfl
                  · refine TL.loadE (Rd.row 1 rfl) Try.isAgg2 x5.toNat 0 (gt_spec h5) (v := .int .i64 (gt l1 x5)) rfl (by simp only [show Ei.sz = 1 from rfl]; omega) rfl rfl rfl ?_
                    refine TL.done ?_
                    exact TC.nrm () () ⟨rfl, trivial⟩ [0, 0, 0] rfl
                  · refine TL.move rfl rfl (v := .int .i64 (gt x2 x4)) rfl ?_
                    refine TL.done ?_
                    exact TC.nrm () () ⟨rfl, trivial⟩ [0, 0, 0] rfl
                  · refine TL.move rfl rfl (v := .int .i64 (gt x3 x5)) rfl ?_
                    refine TL.done ?_
                    exact TC.nrm () () ⟨rfl, trivial⟩ [0, 0, 0] rfl
                  · refine TL.bin .i64 (gt x2 x4) (gt x3 x5) rfl rfl rfl rfl (v := .int .i64 (w64 ((gt x2 x4) * (gt x3 x5)))) rfl ?_
                    refine TL.done ?_
                    exact TC.nrm () () ⟨rfl, trivial⟩ [0, 0, 0] rfl
                  · refine TL.bin .i64 (gt l1 x5) (w64 ((gt x2 x4) * (gt x3 x5))) rfl rfl rfl rfl (v := .int .i64 (w64 ((gt l1 x5) - (w64 ((gt x2 x4) * (gt x3 x5)))))) rfl ?_
                    refine TL.done ?_
                    exact TC.nrm () () ⟨rfl, trivial⟩ [0, 0, 0] rfl
                  · refine TL.load1 0 (Src.box 0 rfl) Try.isAgg2 rfl rfl rfl rfl rfl ?_
                    refine TL.done ?_
                    exact TC.nrm () () ⟨rfl, trivial⟩ [0, 0, 0] rfl
                  · refine TL.callH (R := G.impl_rest.R) hr1 Try.call74 rfl rfl rfl (fun w hS => G.impl_rest.calls w (w64 ((gt l1 x5) - (w64 ((gt x2 x4) * (gt x3 x5))))) x1) ?_
                    rintro _ _ ⟨rfl, rfl⟩
                    refine TL.done ?_
                    exact TC.nrm () () ⟨rfl, trivial⟩ [0, 0, 0] rfl
                  · refine TL.ixs x5 x5.toNat (Rd.row 1 rfl) h5 Try.underlying44 Try.sizeOf2 rfl rfl rfl rfl (by omega) ?_
                    refine TL.done ?_
                    exact TC.nrm () () ⟨rfl, trivial⟩ [0, 0, 0] rfl
                  · refine TL.stE 1 (x5.toNat) r_4 (v := .int .i64 r_4) rfl Try.sizeOf2 rfl rfl rfl (by have h_ := h5; omega) (by simp only [show Ei.sz = 1 from rfl]; omega) rfl rfl rfl ?_
                    refine TL.done ?_
                    exact TC.nrm () () trivial [0, 0, 0] rfl
                · refine TC.region ?_
                  refine TL.bin .i64 x5 1 rfl rfl rfl rfl (v := .int .i64 (w64 (x5 + 1))) rfl ?_
                  refine TL.move rfl rfl (v := .int .i64 (w64 (x5 + 1))) rfl ?_
                  refine TL.done ?_
                  exact TC.next1 (((l1.set x5.toNat r_4), (w64 (x5 + 1)))) (()) ⟨rfl, rfl, rfl, rfl, rfl, rfl, rfl, rfl, rfl, rfl, trivial⟩ [0, 0, 0] rfl
              · exact TC.brk1 ((l1, x5)) (()) ⟨rfl, rfl, rfl, rfl, rfl, rfl, rfl, rfl, rfl, rfl, trivial⟩ [0, 0, 0] rfl
            · rintro ⟨l1, x5⟩ _
              refine TC.region ?_
              refine TL.move rfl rfl (v := SV.v s5) rfl ?_
              refine TL.assign rfl rfl (v := SV.v s5) rfl ?_
              refine TL.done ?_
              refine TC.region ?_
              refine TL.bin .i64 x4 1 rfl rfl rfl rfl (v := .int .i64 (w64 (x4 + 1))) rfl ?_
              refine TL.move rfl rfl (v := .int .i64 (w64 (x4 + 1))) rfl ?_
              refine TL.done ?_
              exact TC.next1 ((l1, (w64 (x4 + 1)))) (s5) ⟨rfl, rfl, rfl, rfl, rfl, rfl, trivial⟩ [0, 0] rfl
          · exact TC.brk1 ((x3, x4)) (s3) ⟨rfl, rfl, rfl, rfl, rfl, rfl, trivial⟩ [0, 0] rfl
        · rintro ⟨x3, x4⟩ s3
          refine TC.seq ?_
          refine TC.region ?_
          refine TL.move rfl rfl (v := SV.v s3) rfl ?_
          refine TL.move rfl rfl (v := SV.v s1) rfl ?_
          refine TL.len (Rd.old h1) Try.underlying44 rfl rfl rfl ?_
          refine TL.move rfl rfl (v := SV.v s1) rfl ?_
          refine TL.len (Rd.old h1) Try.underlying44 rfl rfl rfl ?_
          refine TL.grd fun h6 => ?_
          refine TL.slice3 (li := none) (hi' := (x2.length : Int)) (mi := (x2.length : Int)) (l := 0) (h := ((x2.length : Int).toNat)) (c := ((x2.length : Int).toNat)) (Rd.row 1 rfl) Try.underlying44 Try.sizeOf2 rfl rfl rfl (by have h_ := h6; simp only [Bool.and_eq_true, decide_eq_true_eq] at h_; first | rfl | omega | (simp only [Option.getD_none, Option.getD_some]; omega)) (by have h_ := h6; simp only [Bool.and_eq_true, decide_eq_true_eq] at h_; first | rfl | omega | (simp only [Option.getD_none, Option.getD_some]; omega)) (by have h_ := h6; simp only [Bool.and_eq_true, decide_eq_true_eq] at h_; first | rfl | omega | (simp only [Option.getD_none, Option.getD_some]; omega)) (by have h_ := h6; simp only [Bool.and_eq_true, decide_eq_true_eq] at h_; first | rfl | omega | (simp only [Option.getD_none, Option.getD_some]; omega)) (by have h_ := h6; simp only [Bool.and_eq_true, decide_eq_true_eq] at h_; first | rfl | omega | (simp only [Option.getD_none, Option.getD_some]; omega)) (by have h_ := h6; simp only [Bool.and_eq_true, decide_eq_true_eq] at h_; first | rfl | omega | (simp only [Option.getD_none, Option.getD_some]; omega)) rfl rfl rfl ?_
          refine TL.trim (l := ((x2.length : Int).toNat)) (c := ((x2.length : Int).toNat)) 1 rfl (by have h_ := h6; simp only [Bool.and_eq_true, decide_eq_true_eq] at h_; first | rfl | omega | (simp only [Option.getD_none, Option.getD_some]; omega)) (by have h_ := h6; simp only [Bool.and_eq_true, decide_eq_true_eq] at h_; first | rfl | omega | (simp only [Option.getD_none, Option.getD_some]; omega)) ?_
          refine TL.assign rfl rfl (v := SV.v (SV.cut s3 0 ((x2.length : Int).toNat) ((x2.length : Int).toNat) Ei.sz)) rfl ?_
          refine TL.assign rfl rfl (v := .int .i64 0) rfl ?_
          refine TL.done ?_
          exact TC.retF (Fin.body (fin2 (.inr rfl) rfl (.tmp rfl) (.tmp rfl) [1] rfl ⟨(SV.cut s3 0 ((x2.length : Int).toNat) ((x2.length : Int).toNat) Ei.sz), rfl, rfl⟩))

end Go.Proofs.Ytgljkechjkllgaa.G

/- laws.eqInt64S, as a pure function. -/
set_option linter.unusedVariables false
namespace Go.Proofs.Ytgljkechjkllgaa.G
open Go Go.Sx Go.Proofs

def laws_eqInt64S.b0 (a_1 : List Int) (b_1 : List Int) : Int → Option (LR Int Bool) := fun i1 => (bif (decide (i1 < (a_1.length : Int))) then chk i1 a_1.length (chk i1 b_1.length ((bif ((gt a_1 i1) != (gt b_1 i1)) then some (.ret (false)) else some (.next (w64 (i1 + 1)))))) else some (.brk i1))

def laws_eqInt64S.f (a_1 : List Int) (b_1 : List Int) : Option Bool := (bif ((a_1.length : Int) != (b_1.length : Int)) then some false else (loop (laws_eqInt64S.b0 a_1 b_1) 0).bind (ln (fun i1 => some true)))

def laws_eqInt64S.R (r : Bool) (v : Value) (L : List Asn) : Prop := v = .bool r ∧ L = []

set_option maxRecDepth 100000 in
set_option maxHeartbeats 4000000 in
theorem laws_eqInt64S.calls (w : World) (s1 : SV) (a_1 : List Int) (s2 : SV) (b_1 : List Int) (h1 : Reads Ei (hp w) s1 a_1) (h2 : Reads Ei (hp w) s2 b_1) :
    ∀ r, laws_eqInt64S.f a_1 b_1 = some r → Calls Try.prog 33 #[SV.v s1, SV.v s2] w (Ret w (laws_eqInt64S.R r)) := by

  refine calls_T (n := 26) (Γ := [(0, SV.v s1), (1, SV.v s2)]) (R := laws_eqInt64S.R) Try.func33 rfl rfl (Nat.le_of_ble_eq_true rfl) ⟨rfl, rfl, trivial⟩ ?_
  unfold laws_eqInt64S.f
  refine TC.seq ?_
  refine TC.region ?_
  refine TL.assign rfl rfl (v := .bool false) rfl ?_
  refine TL.done ?_
  refine TC.seq ?_
  refine TC.seq ?_
  refine TC.region ?_
  refine TL.move rfl rfl (v := SV.v s1) rfl ?_
  refine TL.len (Rd.old h1) Try.underlying44 rfl rfl rfl ?_
  refine TL.move rfl rfl (v := SV.v s2) rfl ?_
  refine TL.len (Rd.old h2) Try.underlying44 rfl rfl rfl ?_
  refine TL.bin .i64 (a_1.length : Int) (b_1.length : Int) rfl rfl rfl rfl (v := .bool ((a_1.length : Int) != (b_1.length : Int))) rfl ?_
  refine TL.done ?_
  refine TC.cond (b := ((a_1.length : Int) != (b_1.length : Int))) rfl (fun c1 => ?_) (fun c2 => ?_)
  · refine TC.seq ?_
    refine TC.region ?_
    refine TL.assign rfl rfl (v := .bool false) rfl ?_
    refine TL.done ?_
    exact TC.retF (Fin.body (fin1 (.inr rfl) rfl (.tmp rfl) [] rfl ⟨rfl, rfl⟩))
  · refine TC.skip ?_
    refine TC.seq ?_
    refine TC.seq ?_
    refine TC.region ?_
    refine TL.assign rfl rfl (v := .int .i64 0) rfl ?_
    refine TL.done ?_
    refine TC.loopK (σ := Int) (γ := Unit) (Γ' := (fun i1 _ => [(0, SV.v s1), (1, SV.v s2), (5, .int .i64 i1)])) (L' := (fun i1 _ => [])) (Γb := (fun i1 _ => [(0, SV.v s1), (1, SV.v s2), (5, .int .i64 i1)])) (Lb := (fun i1 _ => [])) (0) (()) ⟨rfl, rfl, rfl, trivial⟩ [] rfl ?_ ?_
    · rintro i1 _
      refine TC.seq ?_
      refine TC.seq ?_
      refine TC.region ?_
      refine TL.move rfl rfl (v := .int .i64 i1) rfl ?_
      refine TL.move rfl rfl (v := SV.v s1) rfl ?_
      refine TL.len (Rd.old h1) Try.underlying44 rfl rfl rfl ?_
      refine TL.bin .i64 i1 (a_1.length : Int) rfl rfl rfl rfl (v := .bool (decide (i1 < (a_1.length : Int)))) rfl ?_
      refine TL.done ?_
      refine TC.cond (b := (decide (i1 < (a_1.length : Int)))) rfl (fun c3 => ?_) (fun c4 => ?_)
      · refine TC.skip ?_
        refine TC.seq ?_
        refine TC.block (NoEx.loop rfl NoEx.body) ?_
        refine TC.seq ?_
        refine TC.wk (Γ' := [(0, SV.v s1), (1, SV.v s2), (5, .int .i64 i1), (11, .int .i64 i1), (12, SV.v s1), (13, .int .i64 (a_1.length : Int)), (14, .bool (decide (i1 < (a_1.length : Int))))]) ⟨rfl, rfl, rfl, rfl, rfl, rfl, rfl, trivial⟩ ?_
        refine TC.chk fun h3 => ?_
        refine TC.chk fun h4 => ?_
        refine TC.draw [SV.v s1, .int .i64 i1, ep s1 i1.toNat, .int .i64 (gt a_1 i1), SV.v s2, .int .i64 i1, ep s2 i1.toNat, .int .i64 (gt b_1 i1), .bool ((gt a_1 i1) != (gt b_1 i1))] 9 [] (by kernel_rfl) rfl rfl rfl rfl ?_ ?_
        · refine ⟨?_, ?_, ?_, ?_, ?_, ?_, ?_, ?_, ?_, trivial⟩
          · refine TL.move rfl rfl (v := SV.v s1) rfl ?_
            refine TL.done ?_
            exact TC.nrm () () ⟨rfl, trivial⟩ [] rfl
          · refine TL.move rfl rfl (v := .int .i64 i1) rfl ?_
            refine TL.done ?_
            exact TC.nrm () () ⟨rfl, trivial⟩ [] rfl
          · refine TL.ixs i1 i1.toNat (Rd.old h1) h3 Try.underlying44 Try.sizeOf2 rfl rfl rfl rfl (by omega) ?_
            refine TL.done ?_
            exact TC.nrm () () ⟨rfl, trivial⟩ [] rfl
          · refine TL.loadE (Rd.old h1) Try.isAgg2 i1.toNat 0 (gt_spec h3) (v := .int .i64 (gt a_1 i1)) rfl (by simp only [show Ei.sz = 1 from rfl]; omega) rfl rfl rfl ?_
            refine TL.done ?_
            exact TC.nrm () () ⟨rfl, trivial⟩ [] rfl
          · refine TL.move rfl rfl (v := SV.v s2) rfl ?_
            refine TL.done ?_
            exact TC.nrm () () ⟨rfl, trivial⟩ [] rfl
          · refine TL.move rfl rfl (v := .int .i64 i1) rfl ?_
            refine TL.done ?_
            exact TC.nrm () () ⟨rfl, trivial⟩ [] rfl
          · refine TL.ixs i1 i1.toNat (Rd.old h2) h4 Try.underlying44 Try.sizeOf2 rfl rfl rfl rfl (by omega) ?_
            refine TL.done ?_
            exact TC.nrm () () ⟨rfl, trivial⟩ [] rfl
          · refine TL.loadE (Rd.old h2) Try.isAgg2 i1.toNat 0 (gt_spec h4) (v := .int .i64 (gt b_1 i1)) rfl (by simp only [show Ei.sz = 1 from rfl]; omega) rfl rfl rfl ?_
            refine TL.done ?_
            exact TC.nrm () () ⟨rfl, trivial⟩ [] rfl
          · refine TL.bin .i64 (gt a_1 i1) (gt b_1 i1) rfl rfl rfl rfl (v := .bool ((gt a_1 i1) != (gt b_1 i1))) rfl ?_
            refine TL.done ?_
            exact TC.nrm () () ⟨rfl, trivial⟩ [] rfl
        · refine TC.cond (b := ((gt a_1 i1) != (gt b_1 i1))) rfl (fun c5 => ?_) (fun c6 => ?_)
          · refine TC.seq ?_
            refine TC.region ?_
            refine TL.assign rfl rfl (v := .bool false) rfl ?_
            refine TL.done ?_
            exact TC.retF (Fin.loop Far.ret (Fin.body (fin1 (.inr rfl) rfl (.tmp rfl) [] rfl ⟨rfl, rfl⟩)))
          · refine TC.skip ?_
            refine TC.region ?_
            refine TL.move rfl rfl (v := .int .i64 i1) rfl ?_
            refine TL.bin .i64 i1 1 rfl rfl rfl rfl (v := .int .i64 (w64 (i1 + 1))) rfl ?_
            refine TL.assign rfl rfl (v := .int .i64 (w64 (i1 + 1))) rfl ?_
            refine TL.done ?_
            exact TC.next ((w64 (i1 + 1))) (()) ⟨rfl, rfl, rfl, trivial⟩ [] rfl
      · exact TC.brk (i1) (()) ⟨rfl, rfl, rfl, trivial⟩ [] rfl
    · rintro i1 _
      refine TC.seq ?_
      refine TC.region ?_
      refine TL.assign rfl rfl (v := .bool true) rfl ?_
      refine TL.done ?_
      exact TC.retF (Fin.body (fin1 (.inr rfl) rfl (.tmp rfl) [] rfl ⟨rfl, rfl⟩))

end Go.Proofs.Ytgljkechjkllgaa.G

/- laws.markInt64S, as a pure function. -/
set_option linter.unusedVariables false
namespace Go.Proofs.Ytgljkechjkllgaa.G
open Go Go.Sx Go.Proofs

def laws_markInt64S.b0 : (List Int) × Int × Int → Option (LB ((List Int) × Int × Int)) := fun p => match p with | (a_2, k_2, i1) => (bif (decide (i1 < (a_2.length : Int))) then chk i1 a_2.length (some (.next ((a_2.set i1.toNat k_2), (w64 (k_2 + 1)), (w64 (i1 + 1))))) else some (.brk (a_2, k_2, i1)))

def laws_markInt64S.f (a_1 : List Int) (k_1 : Int) : Option (Int × (List Int)) := (loop1 (laws_markInt64S.b0) (a_1, k_1, 0)).bind (fun p => match p with | (a_2, k_2, i1) => some (k_2, a_2))

def laws_markInt64S.R (s1 : SV) (r : Int × (List Int)) (v : Value) (L : List Asn) : Prop := v = .int .i64 r.1 ∧ L = [row Ei 2 s1 r.2]

set_option maxRecDepth 100000 in
set_option maxHeartbeats 4000000 in
theorem laws_markInt64S.calls (w0 : World) (I : Hp) (w : World) (s1 : SV) (a_1 : List Int) (k_1 : Int) (hS : St w0 I [row Ei 2 s1 a_1] w) :
    ∀ r, laws_markInt64S.f a_1 k_1 = some r → Calls Try.prog 34 #[SV.v s1, .int .i64 k_1] w (RetM w0 I ((laws_markInt64S.R s1) r)) := by

  refine calls_TM (w0 := w0) (I := I) (L := [row Ei 2 s1 a_1]) (n := 19) (Γ := [(0, SV.v s1), (1, .int .i64 k_1)]) (R := (laws_markInt64S.R s1)) Try.func34 rfl rfl (Nat.le_of_ble_eq_true rfl) ⟨rfl, rfl, trivial⟩ ?_ w hS
  unfold laws_markInt64S.f
  refine TC.seq ?_
  refine TC.region ?_
  refine TL.assign rfl rfl (v := .int .i64 0) rfl ?_
  refine TL.done ?_
  refine TC.seq ?_
  refine TC.seq ?_
  refine TC.region ?_
  refine TL.assign rfl rfl (v := .int .i64 0) rfl ?_
  refine TL.done ?_
  refine TC.loop1 (σ := (List Int) × Int × Int) (γ := Unit) (Γ' := (fun p q => match p, q with | (a_2, k_2, i1), _ => [(0, SV.v s1), (1, .int .i64 k_2), (5, .int .i64 i1)])) (L' := (fun p q => match p, q with | (a_2, k_2, i1), _ => [row Ei 2 s1 a_2])) (Γb := (fun p q => match p, q with | (a_2, k_2, i1), _ => [(0, SV.v s1), (1, .int .i64 k_2), (5, .int .i64 i1)])) (Lb := (fun p q => match p, q with | (a_2, k_2, i1), _ => [row Ei 2 s1 a_2])) ((a_1, k_1, 0)) (()) ⟨rfl, rfl, rfl, trivial⟩ [0] rfl ?_ ?_
  · rintro ⟨a_2, k_2, i1⟩ _
    refine TC.seq ?_
    refine TC.seq ?_
    refine TC.region ?_
    refine TL.move rfl rfl (v := .int .i64 i1) rfl ?_
    refine TL.move rfl rfl (v := SV.v s1) rfl ?_
    refine TL.len (Rd.row 0 rfl) Try.underlying44 rfl rfl rfl ?_
    refine TL.bin .i64 i1 (a_2.length : Int) rfl rfl rfl rfl (v := .bool (decide (i1 < (a_2.length : Int)))) rfl ?_
    refine TL.done ?_
    refine TC.cond (b := (decide (i1 < (a_2.length : Int)))) rfl (fun c1 => ?_) (fun c2 => ?_)
    · refine TC.skip ?_
      refine TC.seq ?_
      refine TC.block (NoEx.loop1 rfl) ?_
      refine TC.seq ?_
      refine TC.region ?_
      refine TL.move rfl rfl (v := SV.v s1) rfl ?_
      refine TL.move rfl rfl (v := .int .i64 i1) rfl ?_
      refine TL.move rfl rfl (v := .int .i64 k_2) rfl ?_
      refine TL.chk fun h1 => ?_
      refine TL.ixs i1 i1.toNat (Rd.row 0 rfl) h1 Try.underlying44 Try.sizeOf2 rfl rfl rfl rfl (by omega) ?_
      refine TL.stE 0 (i1.toNat) k_2 (v := .int .i64 k_2) rfl Try.sizeOf2 rfl rfl rfl (by have h_ := h1; omega) (by simp only [show Ei.sz = 1 from rfl]; omega) rfl rfl rfl ?_
      refine TL.done ?_
      refine TC.region ?_
      refine TL.move rfl rfl (v := .int .i64 k_2) rfl ?_
      refine TL.bin .i64 k_2 1 rfl rfl rfl rfl (v := .int .i64 (w64 (k_2 + 1))) rfl ?_
      refine TL.assign rfl rfl (v := .int .i64 (w64 (k_2 + 1))) rfl ?_
      refine TL.done ?_
      refine TC.region ?_
      refine TL.move rfl rfl (v := .int .i64 i1) rfl ?_
      refine TL.bin .i64 i1 1 rfl rfl rfl rfl (v := .int .i64 (w64 (i1 + 1))) rfl ?_
      refine TL.assign rfl rfl (v := .int .i64 (w64 (i1 + 1))) rfl ?_
      refine TL.done ?_
      exact TC.next1 (((a_2.set i1.toNat k_2), (w64 (k_2 + 1)), (w64 (i1 + 1)))) (()) ⟨rfl, rfl, rfl, trivial⟩ [0] rfl
    · exact TC.brk1 ((a_2, k_2, i1)) (()) ⟨rfl, rfl, rfl, trivial⟩ [0] rfl
  · rintro ⟨a_2, k_2, i1⟩ _
    refine TC.seq ?_
    refine TC.region ?_
    refine TL.move rfl rfl (v := .int .i64 k_2) rfl ?_
    refine TL.assign rfl rfl (v := .int .i64 k_2) rfl ?_
    refine TL.done ?_
    exact TC.retF (Fin.body (fin1 (.inr rfl) rfl (.tmp rfl) [0] rfl ⟨rfl, rfl⟩))

end Go.Proofs.Ytgljkechjkllgaa.G

/- laws.heldInt64S, as a pure function. -/
set_option linter.unusedVariables false
namespace Go.Proofs.Ytgljkechjkllgaa.G
open Go Go.Sx Go.Proofs

def laws_heldInt64S.b0 (a_1 : List Int) : Int × Int → Option (LR (Int × Int) Int) := fun p => match p with | (k_2, i1) => (bif (decide (i1 < (a_1.length : Int))) then chk i1 a_1.length ((bif ((gt a_1 i1) != k_2) then some (.ret ((-1))) else some (.next ((w64 (k_2 + 1)), (w64 (i1 + 1)))))) else some (.brk (k_2, i1)))

def laws_heldInt64S.f (a_1 : List Int) (k_1 : Int) : Option Int := (loop (laws_heldInt64S.b0 a_1) (k_1, 0)).bind (ln (fun p => match p with | (k_2, i1) => some k_2))

def laws_heldInt64S.R (r : Int) (v : Value) (L : List Asn) : Prop := v = .int .i64 r ∧ L = []

set_option maxRecDepth 100000 in
set_option maxHeartbeats 4000000 in
theorem laws_heldInt64S.calls (w : World) (s1 : SV) (a_1 : List Int) (k_1 : Int) (h1 : Reads Ei (hp w) s1 a_1) :
    ∀ r, laws_heldInt64S.f a_1 k_1 = some r → Calls Try.prog 35 #[SV.v s1, .int .i64 k_1] w (Ret w (laws_heldInt64S.R r)) := by

  refine calls_T (n := 21) (Γ := [(0, SV.v s1), (1, .int .i64 k_1)]) (R := laws_heldInt64S.R) Try.func35 rfl rfl (Nat.le_of_ble_eq_true rfl) ⟨rfl, rfl, trivial⟩ ?_
  unfold laws_heldInt64S.f
  refine TC.seq ?_
  refine TC.region ?_
  refine TL.assign rfl rfl (v := .int .i64 0) rfl ?_
  refine TL.done ?_
  refine TC.seq ?_
  refine TC.seq ?_
  refine TC.region ?_
  refine TL.assign rfl rfl (v := .int .i64 0) rfl ?_
  refine TL.done ?_
  refine TC.loopK (σ := Int × Int) (γ := Unit) (Γ' := (fun p q => match p, q with | (k_2, i1), _ => [(0, SV.v s1), (1, .int .i64 k_2), (5, .int .i64 i1)])) (L' := (fun p q => match p, q with | (k_2, i1), _ => [])) (Γb := (fun p q => match p, q with | (k_2, i1), _ => [(0, SV.v s1), (1, .int .i64 k_2), (5, .int .i64 i1)])) (Lb := (fun p q => match p, q with | (k_2, i1), _ => [])) ((k_1, 0)) (()) ⟨rfl, rfl, rfl, trivial⟩ [] rfl ?_ ?_
  · rintro ⟨k_2, i1⟩ _
    refine TC.seq ?_
    refine TC.seq ?_
    refine TC.region ?_
    refine TL.move rfl rfl (v := .int .i64 i1) rfl ?_
    refine TL.move rfl rfl (v := SV.v s1) rfl ?_
    refine TL.len (Rd.old h1) Try.underlying44 rfl rfl rfl ?_
    refine TL.bin .i64 i1 (a_1.length : Int) rfl rfl rfl rfl (v := .bool (decide (i1 < (a_1.length : Int)))) rfl ?_
    refine TL.done ?_
    refine TC.cond (b := (decide (i1 < (a_1.length : Int)))) rfl (fun c1 => ?_) (fun c2 => ?_)
    · refine TC.skip ?_
      refine TC.seq ?_
      refine TC.block (NoEx.loop rfl NoEx.body) ?_
      refine TC.seq ?_
      refine TC.seq ?_
      refine TC.region ?_
      refine TL.move rfl rfl (v := SV.v s1) rfl ?_
      refine TL.move rfl rfl (v := .int .i64 i1) rfl ?_
      refine TL.chk fun h2 => ?_
      refine TL.ixs i1 i1.toNat (Rd.old h1) h2 Try.underlying44 Try.sizeOf2 rfl rfl rfl rfl (by omega) ?_
      refine TL.loadE (Rd.old h1) Try.isAgg2 i1.toNat 0 (gt_spec h2) (v := .int .i64 (gt a_1 i1)) rfl (by simp only [show Ei.sz = 1 from rfl]; omega) rfl rfl rfl ?_
      refine TL.move rfl rfl (v := .int .i64 k_2) rfl ?_
      refine TL.bin .i64 (gt a_1 i1) k_2 rfl rfl rfl rfl (v := .bool ((gt a_1 i1) != k_2)) rfl ?_
      refine TL.done ?_
      refine TC.cond (b := ((gt a_1 i1) != k_2)) rfl (fun c3 => ?_) (fun c4 => ?_)
      · refine TC.seq ?_
        refine TC.region ?_
        refine TL.assign rfl rfl (v := .int .i64 (-1)) rfl ?_
        refine TL.done ?_
        exact TC.retF (Fin.loop Far.ret (Fin.body (fin1 (.inr rfl) rfl (.tmp rfl) [] rfl ⟨rfl, rfl⟩)))
      · refine TC.skip ?_
        refine TC.region ?_
        refine TL.move rfl rfl (v := .int .i64 k_2) rfl ?_
        refine TL.bin .i64 k_2 1 rfl rfl rfl rfl (v := .int .i64 (w64 (k_2 + 1))) rfl ?_
        refine TL.assign rfl rfl (v := .int .i64 (w64 (k_2 + 1))) rfl ?_
        refine TL.done ?_
        refine TC.region ?_
        refine TL.move rfl rfl (v := .int .i64 i1) rfl ?_
        refine TL.bin .i64 i1 1 rfl rfl rfl rfl (v := .int .i64 (w64 (i1 + 1))) rfl ?_
        refine TL.assign rfl rfl (v := .int .i64 (w64 (i1 + 1))) rfl ?_
        refine TL.done ?_
        exact TC.next (((w64 (k_2 + 1)), (w64 (i1 + 1)))) (()) ⟨rfl, rfl, rfl, trivial⟩ [] rfl
    · exact TC.brk ((k_2, i1)) (()) ⟨rfl, rfl, rfl, trivial⟩ [] rfl
  · rintro ⟨k_2, i1⟩ _
    refine TC.seq ?_
    refine TC.region ?_
    refine TL.move rfl rfl (v := .int .i64 k_2) rfl ?_
    refine TL.assign rfl rfl (v := .int .i64 k_2) rfl ?_
    refine TL.done ?_
    exact TC.retF (Fin.body (fin1 (.inr rfl) rfl (.tmp rfl) [] rfl ⟨rfl, rfl⟩))

end Go.Proofs.Ytgljkechjkllgaa.G

/- laws.FnExactProductOfRoots, as a pure function. -/
set_option linter.unusedVariables false
namespace Go.Proofs.Ytgljkechjkllgaa.G
open Go Go.Sx Go.Proofs

def laws_FnExactProductOfRoots.f (x1 : Int) (x2 : List Int) : Option Bool := (bif (decide ((x2.length : Int) > 1048576)) then some true else (G.laws_toInt64S.f x2).bind (fun r_1 => (G.spec_ProductOfRoots.f x1 r_1).bind (fun p => match p with | (r_2, r_3) => (G.laws_toInt64S.f x2).bind (fun r_4 => (G.impl_ProductOfRoots.f x1 r_4).bind (fun p => match p with | (r_5, r_6) => (G.laws_eqInt64S.f r_5 r_2).bind (fun r_7 => (bif ((!r_7) || (r_6 != r_3)) then some false else (G.laws_toInt64S.f x2).bind (fun r_8 => (G.laws_eqInt64S.f r_4 r_8).bind (fun r_9 => (bif (!r_9) then some false else (G.laws_markInt64S.f r_4 1).bind (fun p => match p with | (r_10, l1) => (bif (decide (r_10 < 0)) then some true else (G.laws_eqInt64S.f r_5 r_2).bind (fun r_11 => some (!r_11))).bind (fun b_1 => (bif (b_1 || (r_6 != r_3)) then some false else (G.laws_markInt64S.f r_5 1).bind (fun p => match p with | (r_12, l2) => (G.laws_heldInt64S.f l2 1).bind (fun r_13 => (bif (decide (r_13 < 0)) then some false else (bif (r_13 != r_12) then some false else (G.laws_toInt64S.f x2).bind (fun r_14 => (G.impl_ProductOfRoots.f x1 r_14).bind (fun p => match p with | (r_15, r_16) => (G.laws_eqInt64S.f r_15 r_2).bind (fun r_17 => (bif ((!r_17) || (r_16 != r_3)) then some false else (G.laws_heldInt64S.f l2 1).bind (fun r_18 => (bif (decide (r_18 < 0)) then some false else (bif (r_18 != r_12) then some false else some true))))))))))))))))))))))))

def laws_FnExactProductOfRoots.R (r : Bool) (v : Value) (L : List Asn) : Prop := v = .bool r ∧ L = []

set_option maxRecDepth 100000 in
set_option maxHeartbeats 4000000 in
theorem laws_FnExactProductOfRoots.calls (w : World) (x1 : Int) (s1 : SV) (x2 : List Int) (h1 : Reads Ei (hp w) s1 x2) :
    ∀ r, laws_FnExactProductOfRoots.f x1 x2 = some r → Calls Try.prog 8 #[.int .i64 x1, SV.v s1] w (Ret w (laws_FnExactProductOfRoots.R r)) := by

  refine calls_T (n := 98) (Γ := [(0, .int .i64 x1), (1, SV.v s1)]) (R := laws_FnExactProductOfRoots.R) Try.func8 rfl rfl (Nat.le_of_ble_eq_true rfl) ⟨rfl, rfl, trivial⟩ ?_
  unfold laws_FnExactProductOfRoots.f
  refine TC.seq ?_
  refine TC.region ?_
  refine TL.assign rfl rfl (v := .bool false) rfl ?_
  refine TL.done ?_
  refine TC.seq ?_
  refine TC.seq ?_
  refine TC.region ?_
  refine TL.move rfl rfl (v := SV.v s1) rfl ?_
  refine TL.len (Rd.old h1) Try.underlying44 rfl rfl rfl ?_
  refine TL.bin .i64 (x2.length : Int) 1048576 rfl rfl rfl rfl (v := .bool (decide ((x2.length : Int) > 1048576))) rfl ?_
  refine TL.done ?_
  refine TC.cond (b := (decide ((x2.length : Int) > 1048576))) rfl (fun c1 => ?_) (fun c2 => ?_)
  · refine TC.seq ?_
    refine TC.region ?_
    refine TL.assign rfl rfl (v := .bool true) rfl ?_
    refine TL.done ?_
    exact TC.retF (Fin.body (fin1 (.inr rfl) rfl (.tmp rfl) [] rfl ⟨rfl, rfl⟩))
  · refine TC.skip ?_
    refine TC.seq ?_
    refine TC.region ?_
    refine TL.move rfl rfl (v := .int .i64 x1) rfl ?_
    refine TL.move rfl rfl (v := SV.v s1) rfl ?_
    refine TL.call (R := G.laws_toInt64S.R) Try.call31 rfl rfl rfl (fun w hS => G.laws_toInt64S.calls w s1 x2 ((Rd.old h1) w hS)) ?_
    rintro r_1 _ _ ⟨s2, rfl, rfl⟩
    refine TL.call (R := G.spec_ProductOfRoots.R) Try.call30 rfl rfl rfl (fun w hS => G.spec_ProductOfRoots.calls w x1 s2 r_1 ((Rd.row 0 rfl) w hS)) ?_
    rintro ⟨r_2, r_3⟩ _ _ ⟨s3, rfl, rfl⟩
    refine TL.move rfl rfl (v := .tuple #[SV.v s3, .int .i64 r_3]) rfl ?_
    refine TL.extract rfl rfl rfl (v := SV.v s3) rfl ?_
    refine TL.extract rfl rfl rfl (v := .int .i64 r_3) rfl ?_
    refine TL.assign rfl rfl (v := SV.v s3) rfl ?_
    refine TL.assign rfl rfl (v := .int .i64 r_3) rfl ?_
    refine TL.done ?_
    refine TC.seq ?_
    refine TC.region ?_
    refine TL.move rfl rfl (v := SV.v s1) rfl ?_
    refine TL.call (R := G.laws_toInt64S.R) Try.call31 rfl rfl rfl (fun w hS => G.laws_toInt64S.calls w s1 x2 ((Rd.old h1) w hS)) ?_
    rintro r_4 _ _ ⟨s4, rfl, rfl⟩
    refine TL.assign rfl rfl (v := SV.v s4) rfl ?_
    refine TL.done ?_
    refine TC.seq ?_
    refine TC.region ?_
    refine TL.move rfl rfl (v := .int .i64 x1) rfl ?_
    refine TL.move rfl rfl (v := SV.v s4) rfl ?_
    refine TL.call (R := G.impl_ProductOfRoots.R) Try.call32 rfl rfl rfl (fun w hS => G.impl_ProductOfRoots.calls w x1 s4 r_4 ((Rd.row 0 rfl) w hS)) ?_
    rintro ⟨r_5, r_6⟩ _ _ ⟨s5, rfl, rfl⟩
    refine TL.move rfl rfl (v := .tuple #[SV.v s5, .int .i64 r_6]) rfl ?_
    refine TL.extract rfl rfl rfl (v := SV.v s5) rfl ?_
    refine TL.extract rfl rfl rfl (v := .int .i64 r_6) rfl ?_
    refine TL.assign rfl rfl (v := SV.v s5) rfl ?_
    refine TL.assign rfl rfl (v := .int .i64 r_6) rfl ?_
    refine TL.done ?_
    refine TC.seq ?_
    refine TC.seq ?_
    refine TC.region ?_
    refine TL.move rfl rfl (v := SV.v s5) rfl ?_
    refine TL.move rfl rfl (v := SV.v s3) rfl ?_
    refine TL.call (R := G.laws_eqInt64S.R) Try.call33 rfl rfl rfl (fun w hS => G.laws_eqInt64S.calls w s5 r_5 s3 r_2 ((Rd.row 0 rfl) w hS) ((Rd.row 2 rfl) w hS)) ?_
    rintro r_7 _ _ ⟨rfl, rfl⟩
    refine TL.not r_7 rfl rfl rfl ?_
    refine TL.move rfl rfl (v := .bool (!r_7)) rfl ?_
    refine TL.cutU 4 [(41, .bool ((!r_7) || (r_6 != r_3))), (0, .int .i64 x1), (1, SV.v s1), (4, .bool false), (15, SV.v s1), (16, .int .i64 (x2.length : Int)), (17, .bool (decide ((x2.length : Int) > 1048576))), (19, .int .i64 x1), (20, SV.v s1), (21, SV.v s2), (22, .tuple #[SV.v s3, .int .i64 r_3]), (18, .tuple #[SV.v s3, .int .i64 r_3]), (23, SV.v s3), (24, .int .i64 r_3), (5, SV.v s3), (6, .int .i64 r_3), (25, SV.v s1), (26, SV.v s4), (7, SV.v s4), (28, .int .i64 x1), (29, SV.v s4), (30, .tuple #[SV.v s5, .int .i64 r_6]), (27, .tuple #[SV.v s5, .int .i64 r_6]), (31, SV.v s5), (32, .int .i64 r_6), (8, SV.v s5), (9, .int .i64 r_6), (33, SV.v s5), (34, SV.v s3), (35, .bool r_7), (36, .bool (!r_7)), (37, .bool (!r_7))] [row Ei 2 s5 r_5, row Ei 2 s4 r_4, row Ei 2 s3 r_2, row Ei 2 s2 r_1] ?_ ?_
    · refine TL.cases (t := 37) (b := (!r_7)) rfl (fun c3 => ?_) (fun c4 => ?_)
      · refine TL.skip rfl rfl (by decide) ?_
        refine TL.skip rfl rfl (by decide) ?_
        refine TL.skip rfl rfl (by decide) ?_
        refine TL.pick rfl rfl (b := true) rfl (r := .bool true) rfl ?_
        refine TL.done ?_
        exact TC.nrm () () ⟨(by rw [c3]; rfl), rfl, rfl, rfl, rfl, rfl, rfl, rfl, rfl, rfl, rfl, rfl, rfl, rfl, rfl, rfl, rfl, rfl, rfl, rfl, rfl, rfl, rfl, rfl, rfl, rfl, rfl, rfl, rfl, rfl, rfl, (by rw [c3]; rfl), trivial⟩ [0, 0, 0, 0] rfl
      · refine TL.move rfl rfl (v := .int .i64 r_6) rfl ?_
        refine TL.move rfl rfl (v := .int .i64 r_3) rfl ?_
        refine TL.bin .i64 r_6 r_3 rfl rfl rfl rfl (v := .bool (r_6 != r_3)) rfl ?_
        refine TL.pick rfl rfl (b := false) rfl (r := .bool (r_6 != r_3)) rfl ?_
        refine TL.done ?_
        exact TC.nrm () () ⟨(by rw [c4]; rfl), rfl, rfl, rfl, rfl, rfl, rfl, rfl, rfl, rfl, rfl, rfl, rfl, rfl, rfl, rfl, rfl, rfl, rfl, rfl, rfl, rfl, rfl, rfl, rfl, rfl, rfl, rfl, rfl, rfl, rfl, (by rw [c4]; rfl), trivial⟩ [0, 0, 0, 0] rfl
    · refine TL.done ?_
      refine TC.cond (b := ((!r_7) || (r_6 != r_3))) rfl (fun c5 => ?_) (fun c6 => ?_)
      · refine TC.seq ?_
        refine TC.region ?_
        refine TL.assign rfl rfl (v := .bool false) rfl ?_
        refine TL.done ?_
        exact TC.retF (Fin.body (fin1 (.inr rfl) rfl (.tmp rfl) [] rfl ⟨rfl, rfl⟩))
      · refine TC.skip ?_
        refine TC.seq ?_
        refine TC.seq ?_
        refine TC.region ?_
        refine TL.move rfl rfl (v := SV.v s4) rfl ?_
        refine TL.move rfl rfl (v := SV.v s1) rfl ?_
        refine TL.call (R := G.laws_toInt64S.R) Try.call31 rfl rfl rfl (fun w hS => G.laws_toInt64S.calls w s1 x2 ((Rd.old h1) w hS)) ?_
        rintro r_8 _ _ ⟨s6, rfl, rfl⟩
        refine TL.call (R := G.laws_eqInt64S.R) Try.call33 rfl rfl rfl (fun w hS => G.laws_eqInt64S.calls w s4 r_4 s6 r_8 ((Rd.row 2 rfl) w hS) ((Rd.row 0 rfl) w hS)) ?_
        rintro r_9 _ _ ⟨rfl, rfl⟩
        refine TL.not r_9 rfl rfl rfl ?_
        refine TL.done ?_
        refine TC.cond (b := (!r_9)) rfl (fun c7 => ?_) (fun c8 => ?_)
        · refine TC.seq ?_
          refine TC.region ?_
          refine TL.assign rfl rfl (v := .bool false) rfl ?_
          refine TL.done ?_
          exact TC.retF (Fin.body (fin1 (.inr rfl) rfl (.tmp rfl) [] rfl ⟨rfl, rfl⟩))
        · refine TC.skip ?_
          refine TC.seq ?_
          refine TC.region ?_
          refine TL.assign rfl rfl (v := .int .i64 1) rfl ?_
          refine TL.done ?_
          refine TC.seq ?_
          refine TC.region ?_
          refine TL.move rfl rfl (v := SV.v s4) rfl ?_
          refine TL.move rfl rfl (v := .int .i64 1) rfl ?_
          refine TL.callX (R := G.laws_markInt64S.R s4) [2, 0, 0, 0, 0] [row Ei 2 s4 r_4] [row Ei 2 s6 r_8, row Ei 2 s5 r_5, row Ei 2 s3 r_2, row Ei 2 s2 r_1] rfl Try.call34 rfl rfl rfl (fun w I_ hle hB hS => G.laws_markInt64S.calls _ I_ w s4 r_4 1 hS) ?_
          rintro ⟨r_10, l1⟩ _ _ ⟨rfl, rfl⟩
          refine TL.assign rfl rfl (v := .int .i64 r_10) rfl ?_
          refine TL.done ?_
          refine TC.seq ?_
          refine TC.seq ?_
          refine TC.region ?_
          refine TL.move rfl rfl (v := .int .i64 r_10) rfl ?_
          refine TL.bin .i64 r_10 0 rfl rfl rfl rfl (v := .bool (decide (r_10 < 0))) rfl ?_
          refine TL.move rfl rfl (v := .bool (decide (r_10 < 0))) rfl ?_
          refine TL.cutJ (σ := Bool) (γ := Unit) (Γ' := fun b_1 _ => [(57, .bool b_1), (0, .int .i64 x1), (1, SV.v s1), (4, .bool false), (15, SV.v s1), (16, .int .i64 (x2.length : Int)), (17, .bool (decide ((x2.length : Int) > 1048576))), (19, .int .i64 x1), (20, SV.v s1), (21, SV.v s2), (22, .tuple #[SV.v s3, .int .i64 r_3]), (18, .tuple #[SV.v s3, .int .i64 r_3]), (23, SV.v s3), (24, .int .i64 r_3), (5, SV.v s3), (6, .int .i64 r_3), (25, SV.v s1), (26, SV.v s4), (7, SV.v s4), (28, .int .i64 x1), (29, SV.v s4), (30, .tuple #[SV.v s5, .int .i64 r_6]), (27, .tuple #[SV.v s5, .int .i64 r_6]), (31, SV.v s5), (32, .int .i64 r_6), (8, SV.v s5), (9, .int .i64 r_6), (33, SV.v s5), (34, SV.v s3), (35, .bool r_7), (36, .bool (!r_7)), (37, .bool (!r_7)), (41, .bool ((!r_7) || (r_6 != r_3))), (42, SV.v s4), (43, SV.v s1), (44, SV.v s6), (45, .bool r_9), (46, .bool (!r_9)), (10, .int .i64 r_10), (47, SV.v s4), (48, .int .i64 1), (49, .int .i64 r_10), (50, .int .i64 r_10), (51, .bool (decide (r_10 < 0))), (52, .bool (decide (r_10 < 0)))]) (L' := fun _ _ => [row Ei 2 s4 l1, row Ei 2 s6 r_8, row Ei 2 s5 r_5, row Ei 2 s3 r_2, row Ei 2 s2 r_1]) 5 ?_ ?_
          · refine TL.ifb (t := 52) (b := (decide (r_10 < 0))) rfl (fun c9 => ?_) (fun c10 => ?_)
            · refine TL.skip rfl rfl (by decide) ?_
              refine TL.skip rfl rfl (by decide) ?_
              refine TL.skip rfl rfl (by decide) ?_
              refine TL.skip rfl rfl (by decide) ?_
              refine TL.pick rfl rfl (b := true) rfl (r := .bool true) rfl ?_
              refine TL.done ?_
              exact TC.nrm (true) () ⟨rfl, rfl, rfl, rfl, rfl, rfl, rfl, rfl, rfl, rfl, rfl, rfl, rfl, rfl, rfl, rfl, rfl, rfl, rfl, rfl, rfl, rfl, rfl, rfl, rfl, rfl, rfl, rfl, rfl, rfl, rfl, rfl, rfl, rfl, rfl, rfl, rfl, rfl, rfl, rfl, rfl, rfl, rfl, rfl, (by rw [c9]; rfl), trivial⟩ [0, 0, 0, 0, 0] rfl
            · refine TL.move rfl rfl (v := SV.v s5) rfl ?_
              refine TL.move rfl rfl (v := SV.v s3) rfl ?_
              refine TL.call (R := G.laws_eqInt64S.R) Try.call33 rfl rfl rfl (fun w hS => G.laws_eqInt64S.calls w s5 r_5 s3 r_2 ((Rd.row 2 rfl) w hS) ((Rd.row 3 rfl) w hS)) ?_
              rintro r_11 _ _ ⟨rfl, rfl⟩
              refine TL.not r_11 rfl rfl rfl ?_
              refine TL.pick rfl rfl (b := false) rfl (r := .bool (!r_11)) rfl ?_
              refine TL.done ?_
              exact TC.nrm ((!r_11)) () ⟨rfl, rfl, rfl, rfl, rfl, rfl, rfl, rfl, rfl, rfl, rfl, rfl, rfl, rfl, rfl, rfl, rfl, rfl, rfl, rfl, rfl, rfl, rfl, rfl, rfl, rfl, rfl, rfl, rfl, rfl, rfl, rfl, rfl, rfl, rfl, rfl, rfl, rfl, rfl, rfl, rfl, rfl, rfl, rfl, (by rw [c10]; rfl), trivial⟩ [0, 0, 0, 0, 0] rfl
          · rintro b_1 _
            refine TL.move rfl rfl (v := .bool b_1) rfl ?_
            refine TL.cutU 4 [(62, .bool (b_1 || (r_6 != r_3))), (0, .int .i64 x1), (1, SV.v s1), (4, .bool false), (15, SV.v s1), (16, .int .i64 (x2.length : Int)), (17, .bool (decide ((x2.length : Int) > 1048576))), (19, .int .i64 x1), (20, SV.v s1), (21, SV.v s2), (22, .tuple #[SV.v s3, .int .i64 r_3]), (18, .tuple #[SV.v s3, .int .i64 r_3]), (23, SV.v s3), (24, .int .i64 r_3), (5, SV.v s3), (6, .int .i64 r_3), (25, SV.v s1), (26, SV.v s4), (7, SV.v s4), (28, .int .i64 x1), (29, SV.v s4), (30, .tuple #[SV.v s5, .int .i64 r_6]), (27, .tuple #[SV.v s5, .int .i64 r_6]), (31, SV.v s5), (32, .int .i64 r_6), (8, SV.v s5), (9, .int .i64 r_6), (33, SV.v s5), (34, SV.v s3), (35, .bool r_7), (36, .bool (!r_7)), (37, .bool (!r_7)), (41, .bool ((!r_7) || (r_6 != r_3))), (42, SV.v s4), (43, SV.v s1), (44, SV.v s6), (45, .bool r_9), (46, .bool (!r_9)), (10, .int .i64 r_10), (47, SV.v s4), (48, .int .i64 1), (49, .int .i64 r_10), (50, .int .i64 r_10), (51, .bool (decide (r_10 < 0))), (52, .bool (decide (r_10 < 0))), (57, .bool b_1), (58, .bool b_1)] [row Ei 2 s4 l1, row Ei 2 s6 r_8, row Ei 2 s5 r_5, row Ei 2 s3 r_2, row Ei 2 s2 r_1] ?_ ?_
            · refine TL.cases (t := 58) (b := b_1) rfl (fun c11 => ?_) (fun c12 => ?_)
              · refine TL.skip rfl rfl (by decide) ?_
                refine TL.skip rfl rfl (by decide) ?_
                refine TL.skip rfl rfl (by decide) ?_
                refine TL.pick rfl rfl (b := true) rfl (r := .bool true) rfl ?_
                refine TL.done ?_
                exact TC.nrm () () ⟨(by rw [c11]; rfl), rfl, rfl, rfl, rfl, rfl, rfl, rfl, rfl, rfl, rfl, rfl, rfl, rfl, rfl, rfl, rfl, rfl, rfl, rfl, rfl, rfl, rfl, rfl, rfl, rfl, rfl, rfl, rfl, rfl, rfl, rfl, rfl, rfl, rfl, rfl, rfl, rfl, rfl, rfl, rfl, rfl, rfl, rfl, rfl, rfl, (by rw [c11]; rfl), trivial⟩ [0, 0, 0, 0, 0] rfl
              · refine TL.move rfl rfl (v := .int .i64 r_6) rfl ?_
                refine TL.move rfl rfl (v := .int .i64 r_3) rfl ?_
                refine TL.bin .i64 r_6 r_3 rfl rfl rfl rfl (v := .bool (r_6 != r_3)) rfl ?_
                refine TL.pick rfl rfl (b := false) rfl (r := .bool (r_6 != r_3)) rfl ?_
                refine TL.done ?_
                exact TC.nrm () () ⟨(by rw [c12]; rfl), rfl, rfl, rfl, rfl, rfl, rfl, rfl, rfl, rfl, rfl, rfl, rfl, rfl, rfl, rfl, rfl, rfl, rfl, rfl, rfl, rfl, rfl, rfl, rfl, rfl, rfl, rfl, rfl, rfl, rfl, rfl, rfl, rfl, rfl, rfl, rfl, rfl, rfl, rfl, rfl, rfl, rfl, rfl, rfl, rfl, (by rw [c12]; rfl), trivial⟩ [0, 0, 0, 0, 0] rfl
            · refine TL.done ?_
              refine TC.cond (b := (b_1 || (r_6 != r_3))) rfl (fun c13 => ?_) (fun c14 => ?_)
              · refine TC.seq ?_
                refine TC.region ?_
                refine TL.assign rfl rfl (v := .bool false) rfl ?_
                refine TL.done ?_
                exact TC.retF (Fin.body (fin1 (.inr rfl) rfl (.tmp rfl) [] rfl ⟨rfl, rfl⟩))
              · refine TC.skip ?_
                refine TC.seq ?_
                refine TC.region ?_
                refine TL.assign rfl rfl (v := .int .i64 1) rfl ?_
                refine TL.done ?_
                refine TC.seq ?_
                refine TC.region ?_
                refine TL.move rfl rfl (v := SV.v s5) rfl ?_
                refine TL.move rfl rfl (v := .int .i64 1) rfl ?_
                refine TL.callX (R := G.laws_markInt64S.R s5) [2, 0, 0, 0, 0] [row Ei 2 s5 r_5] [row Ei 2 s4 l1, row Ei 2 s6 r_8, row Ei 2 s3 r_2, row Ei 2 s2 r_1] rfl Try.call34 rfl rfl rfl (fun w I_ hle hB hS => G.laws_markInt64S.calls _ I_ w s5 r_5 1 hS) ?_
                rintro ⟨r_12, l2⟩ _ _ ⟨rfl, rfl⟩
                refine TL.assign rfl rfl (v := .int .i64 r_12) rfl ?_
                refine TL.done ?_
                refine TC.seq ?_
                refine TC.region ?_
                refine TL.assign rfl rfl (v := .int .i64 1) rfl ?_
                refine TL.done ?_
                refine TC.seq ?_
                refine TC.region ?_
                refine TL.move rfl rfl (v := SV.v s5) rfl ?_
                refine TL.move rfl rfl (v := .int .i64 1) rfl ?_
                refine TL.call (R := G.laws_heldInt64S.R) Try.call35 rfl rfl rfl (fun w hS => G.laws_heldInt64S.calls w s5 l2 1 ((Rd.row 0 rfl) w hS)) ?_
                rintro r_13 _ _ ⟨rfl, rfl⟩
                refine TL.assign rfl rfl (v := .int .i64 r_13) rfl ?_
                refine TL.done ?_
                refine TC.seq ?_
                refine TC.seq ?_
                refine TC.region ?_
                refine TL.move rfl rfl (v := .int .i64 r_13) rfl ?_
                refine TL.bin .i64 r_13 0 rfl rfl rfl rfl (v := .bool (decide (r_13 < 0))) rfl ?_
                refine TL.done ?_
                refine TC.cond (b := (decide (r_13 < 0))) rfl (fun c15 => ?_) (fun c16 => ?_)
                · refine TC.seq ?_
                  refine TC.region ?_
                  refine TL.assign rfl rfl (v := .bool false) rfl ?_
                  refine TL.done ?_
                  exact TC.retF (Fin.body (fin1 (.inr rfl) rfl (.tmp rfl) [] rfl ⟨rfl, rfl⟩))
                · refine TC.skip ?_
                  refine TC.seq ?_
                  refine TC.seq ?_
                  refine TC.region ?_
                  refine TL.move rfl rfl (v := .int .i64 r_13) rfl ?_
                  refine TL.move rfl rfl (v := .int .i64 r_12) rfl ?_
                  refine TL.bin .i64 r_13 r_12 rfl rfl rfl rfl (v := .bool (r_13 != r_12)) rfl ?_
                  refine TL.done ?_
                  refine TC.cond (b := (r_13 != r_12)) rfl (fun c17 => ?_) (fun c18 => ?_)
                  · refine TC.seq ?_
                    refine TC.region ?_
                    refine TL.assign rfl rfl (v := .bool false) rfl ?_
                    refine TL.done ?_
                    exact TC.retF (Fin.body (fin1 (.inr rfl) rfl (.tmp rfl) [] rfl ⟨rfl, rfl⟩))
                  · refine TC.skip ?_
                    refine TC.seq ?_
                    refine TC.region ?_
                    refine TL.move rfl rfl (v := .int .i64 x1) rfl ?_
                    refine TL.move rfl rfl (v := SV.v s1) rfl ?_
                    refine TL.call (R := G.laws_toInt64S.R) Try.call31 rfl rfl rfl (fun w hS => G.laws_toInt64S.calls w s1 x2 ((Rd.old h1) w hS)) ?_
                    rintro r_14 _ _ ⟨s7, rfl, rfl⟩
                    refine TL.call (R := G.impl_ProductOfRoots.R) Try.call32 rfl rfl rfl (fun w hS => G.impl_ProductOfRoots.calls w x1 s7 r_14 ((Rd.row 0 rfl) w hS)) ?_
                    rintro ⟨r_15, r_16⟩ _ _ ⟨s8, rfl, rfl⟩
                    refine TL.move rfl rfl (v := .tuple #[SV.v s8, .int .i64 r_16]) rfl ?_
                    refine TL.extract rfl rfl rfl (v := SV.v s8) rfl ?_
                    refine TL.extract rfl rfl rfl (v := .int .i64 r_16) rfl ?_
                    refine TL.assign rfl rfl (v := SV.v s8) rfl ?_
                    refine TL.assign rfl rfl (v := .int .i64 r_16) rfl ?_
                    refine TL.done ?_
                    refine TC.seq ?_
                    refine TC.seq ?_
                    refine TC.region ?_
                    refine TL.move rfl rfl (v := SV.v s8) rfl ?_
                    refine TL.move rfl rfl (v := SV.v s3) rfl ?_
                    refine TL.call (R := G.laws_eqInt64S.R) Try.call33 rfl rfl rfl (fun w hS => G.laws_eqInt64S.calls w s8 r_15 s3 r_2 ((Rd.row 0 rfl) w hS) ((Rd.row 5 rfl) w hS)) ?_
                    rintro r_17 _ _ ⟨rfl, rfl⟩
                    refine TL.not r_17 rfl rfl rfl ?_
                    refine TL.move rfl rfl (v := .bool (!r_17)) rfl ?_
                    refine TL.cutU 4 [(89, .bool ((!r_17) || (r_16 != r_3))), (0, .int .i64 x1), (1, SV.v s1), (4, .bool false), (15, SV.v s1), (16, .int .i64 (x2.length : Int)), (17, .bool (decide ((x2.length : Int) > 1048576))), (19, .int .i64 x1), (20, SV.v s1), (21, SV.v s2), (22, .tuple #[SV.v s3, .int .i64 r_3]), (18, .tuple #[SV.v s3, .int .i64 r_3]), (23, SV.v s3), (24, .int .i64 r_3), (5, SV.v s3), (6, .int .i64 r_3), (25, SV.v s1), (26, SV.v s4), (7, SV.v s4), (28, .int .i64 x1), (29, SV.v s4), (30, .tuple #[SV.v s5, .int .i64 r_6]), (27, .tuple #[SV.v s5, .int .i64 r_6]), (31, SV.v s5), (32, .int .i64 r_6), (8, SV.v s5), (9, .int .i64 r_6), (33, SV.v s5), (34, SV.v s3), (35, .bool r_7), (36, .bool (!r_7)), (37, .bool (!r_7)), (41, .bool ((!r_7) || (r_6 != r_3))), (42, SV.v s4), (43, SV.v s1), (44, SV.v s6), (45, .bool r_9), (46, .bool (!r_9)), (10, .int .i64 r_10), (47, SV.v s4), (48, .int .i64 1), (49, .int .i64 r_10), (50, .int .i64 r_10), (51, .bool (decide (r_10 < 0))), (52, .bool (decide (r_10 < 0))), (57, .bool b_1), (58, .bool b_1), (62, .bool (b_1 || (r_6 != r_3))), (11, .int .i64 r_12), (63, SV.v s5), (64, .int .i64 1), (65, .int .i64 r_12), (12, .int .i64 r_13), (66, SV.v s5), (67, .int .i64 1), (68, .int .i64 r_13), (69, .int .i64 r_13), (70, .bool (decide (r_13 < 0))), (71, .int .i64 r_13), (72, .int .i64 r_12), (73, .bool (r_13 != r_12)), (75, .int .i64 x1), (76, SV.v s1), (77, SV.v s7), (78, .tuple #[SV.v s8, .int .i64 r_16]), (74, .tuple #[SV.v s8, .int .i64 r_16]), (79, SV.v s8), (80, .int .i64 r_16), (13, SV.v s8), (14, .int .i64 r_16), (81, SV.v s8), (82, SV.v s3), (83, .bool r_17), (84, .bool (!r_17)), (85, .bool (!r_17))] [row Ei 2 s8 r_15, row Ei 2 s7 r_14, row Ei 2 s5 l2, row Ei 2 s4 l1, row Ei 2 s6 r_8, row Ei 2 s3 r_2, row Ei 2 s2 r_1] ?_ ?_
                    · refine TL.cases (t := 85) (b := (!r_17)) rfl (fun c19 => ?_) (fun c20 => ?_)
                      · refine TL.skip rfl rfl (by decide) ?_
                        refine TL.skip rfl rfl (by decide) ?_
                        refine TL.skip rfl rfl (by decide) ?_
                        refine TL.pick rfl rfl (b := true) rfl (r := .bool true) rfl ?_
                        refine TL.done ?_
                        exact TC.nrm () () ⟨(by rw [c19]; rfl), rfl, rfl, rfl, rfl, rfl, rfl, rfl, rfl, rfl, rfl, rfl, rfl, rfl, rfl, rfl, rfl, rfl, rfl, rfl, rfl, rfl, rfl, rfl, rfl, rfl, rfl, rfl, rfl, rfl, rfl, rfl, rfl, rfl, rfl, rfl, rfl, rfl, rfl, rfl, rfl, rfl, rfl, rfl, rfl, rfl, rfl, rfl, rfl, rfl, rfl, rfl, rfl, rfl, rfl, rfl, rfl, rfl, rfl, rfl, rfl, rfl, rfl, rfl, rfl, rfl, rfl, rfl, rfl, rfl, rfl, rfl, rfl, rfl, (by rw [c19]; rfl), trivial⟩ [0, 0, 0, 0, 0, 0, 0] rfl
                      · refine TL.move rfl rfl (v := .int .i64 r_16) rfl ?_
                        refine TL.move rfl rfl (v := .int .i64 r_3) rfl ?_
                        refine TL.bin .i64 r_16 r_3 rfl rfl rfl rfl (v := .bool (r_16 != r_3)) rfl ?_
                        refine TL.pick rfl rfl (b := false) rfl (r := .bool (r_16 != r_3)) rfl ?_
                        refine TL.done ?_
                        exact TC.nrm () () ⟨(by rw [c20]; rfl), rfl, rfl, rfl, rfl, rfl, rfl, rfl, rfl, rfl, rfl, rfl, rfl, rfl, rfl, rfl, rfl, rfl, rfl, rfl, rfl, rfl, rfl, rfl, rfl, rfl, rfl, rfl, rfl, rfl, rfl, rfl, rfl, rfl, rfl, rfl, rfl, rfl, rfl, rfl, rfl, rfl, rfl, rfl, rfl, rfl, rfl, rfl, rfl, rfl, rfl, rfl, rfl, rfl, rfl, rfl, rfl, rfl, rfl, rfl, rfl, rfl, rfl, rfl, rfl, rfl, rfl, rfl, rfl, rfl, rfl, rfl, rfl, rfl, (by rw [c20]; rfl), trivial⟩ [0, 0, 0, 0, 0, 0, 0] rfl
                    · refine TL.done ?_
                      refine TC.cond (b := ((!r_17) || (r_16 != r_3))) rfl (fun c21 => ?_) (fun c22 => ?_)
                      · refine TC.seq ?_
                        refine TC.region ?_
                        refine TL.assign rfl rfl (v := .bool false) rfl ?_
                        refine TL.done ?_
                        exact TC.retF (Fin.body (fin1 (.inr rfl) rfl (.tmp rfl) [] rfl ⟨rfl, rfl⟩))
                      · refine TC.skip ?_
                        refine TC.seq ?_
                        refine TC.region ?_
                        refine TL.assign rfl rfl (v := .int .i64 1) rfl ?_
                        refine TL.done ?_
                        refine TC.seq ?_
                        refine TC.region ?_
                        refine TL.move rfl rfl (v := SV.v s5) rfl ?_
                        refine TL.move rfl rfl (v := .int .i64 1) rfl ?_
                        refine TL.call (R := G.laws_heldInt64S.R) Try.call35 rfl rfl rfl (fun w hS => G.laws_heldInt64S.calls w s5 l2 1 ((Rd.row 2 rfl) w hS)) ?_
                        rintro r_18 _ _ ⟨rfl, rfl⟩
                        refine TL.assign rfl rfl (v := .int .i64 r_18) rfl ?_
                        refine TL.done ?_
                        refine TC.seq ?_
                        refine TC.seq ?_
                        refine TC.region ?_
                        refine TL.move rfl rfl (v := .int .i64 r_18) rfl ?_
                        refine TL.bin .i64 r_18 0 rfl rfl rfl rfl (v := .bool (decide (r_18 < 0))) rfl ?_
                        refine TL.done ?_
                        refine TC.cond (b := (decide (r_18 < 0))) rfl (fun c23 => ?_) (fun c24 => ?_)
                        · refine TC.seq ?_
                          refine TC.region ?_
                          refine TL.assign rfl rfl (v := .bool false) rfl ?_
                          refine TL.done ?_
                          exact TC.retF (Fin.body (fin1 (.inr rfl) rfl (.tmp rfl) [] rfl ⟨rfl, rfl⟩))
                        · refine TC.skip ?_
                          refine TC.seq ?_
                          refine TC.seq ?_
                          refine TC.region ?_
                          refine TL.move rfl rfl (v := .int .i64 r_18) rfl ?_
                          refine TL.move rfl rfl (v := .int .i64 r_12) rfl ?_
                          refine TL.bin .i64 r_18 r_12 rfl rfl rfl rfl (v := .bool (r_18 != r_12)) rfl ?_
                          refine TL.done ?_
                          refine TC.cond (b := (r_18 != r_12)) rfl (fun c25 => ?_) (fun c26 => ?_)
                          · refine TC.seq ?_
                            refine TC.region ?_
                            refine TL.assign rfl rfl (v := .bool false) rfl ?_
                            refine TL.done ?_
                            exact TC.retF (Fin.body (fin1 (.inr rfl) rfl (.tmp rfl) [] rfl ⟨rfl, rfl⟩))
                          · refine TC.skip ?_
                            refine TC.seq ?_
                            refine TC.region ?_
                            refine TL.assign rfl rfl (v := .bool true) rfl ?_
                            refine TL.done ?_
                            exact TC.retF (Fin.body (fin1 (.inr rfl) rfl (.tmp rfl) [] rfl ⟨rfl, rfl⟩))

end Go.Proofs.Ytgljkechjkllgaa.G

/- laws.szInt64S, as a pure function. -/
set_option linter.unusedVariables false
namespace Go.Proofs.Ytgljkechjkllgaa.G
open Go Go.Sx Go.Proofs

def laws_szInt64S.f (a_1 : List Int) (left_1 : Int) : Option Int := (bif (decide ((w64 (left_1 - (a_1.length : Int))) < 0)) then some (-1) else some (w64 (left_1 - (a_1.length : Int))))

def laws_szInt64S.R (r : Int) (v : Value) (L : List Asn) : Prop := v = .int .i64 r ∧ L = []

set_option maxRecDepth 100000 in
set_option maxHeartbeats 4000000 in
theorem laws_szInt64S.calls (w : World) (s1 : SV) (a_1 : List Int) (left_1 : Int) (h1 : Reads Ei (hp w) s1 a_1) :
    ∀ r, laws_szInt64S.f a_1 left_1 = some r → Calls Try.prog 79 #[SV.v s1, .int .i64 left_1] w (Ret w (laws_szInt64S.R r)) := by

  refine calls_T (n := 12) (Γ := [(0, SV.v s1), (1, .int .i64 left_1)]) (R := laws_szInt64S.R) Try.func79 rfl rfl (Nat.le_of_ble_eq_true rfl) ⟨rfl, rfl, trivial⟩ ?_
  unfold laws_szInt64S.f
  refine TC.seq ?_
  refine TC.region ?_
  refine TL.assign rfl rfl (v := .int .i64 0) rfl ?_
  refine TL.done ?_
  refine TC.seq ?_
  refine TC.region ?_
  refine TL.move rfl rfl (v := .int .i64 left_1) rfl ?_
  refine TL.move rfl rfl (v := SV.v s1) rfl ?_
  refine TL.len (Rd.old h1) Try.underlying44 rfl rfl rfl ?_
  refine TL.bin .i64 left_1 (a_1.length : Int) rfl rfl rfl rfl (v := .int .i64 (w64 (left_1 - (a_1.length : Int)))) rfl ?_
  refine TL.assign rfl rfl (v := .int .i64 (w64 (left_1 - (a_1.length : Int)))) rfl ?_
  refine TL.done ?_
  refine TC.seq ?_
  refine TC.seq ?_
  refine TC.region ?_
  refine TL.move rfl rfl (v := .int .i64 (w64 (left_1 - (a_1.length : Int)))) rfl ?_
  refine TL.bin .i64 (w64 (left_1 - (a_1.length : Int))) 0 rfl rfl rfl rfl (v := .bool (decide ((w64 (left_1 - (a_1.length : Int))) < 0))) rfl ?_
  refine TL.done ?_
  refine TC.cond (b := (decide ((w64 (left_1 - (a_1.length : Int))) < 0))) rfl (fun c1 => ?_) (fun c2 => ?_)
  · refine TC.seq ?_
    refine TC.region ?_
    refine TL.assign rfl rfl (v := .int .i64 (-1)) rfl ?_
    refine TL.done ?_
    exact TC.retF (Fin.body (fin1 (.inr rfl) rfl (.tmp rfl) [] rfl ⟨rfl, rfl⟩))
  · refine TC.skip ?_
    refine TC.seq ?_
    refine TC.region ?_
    refine TL.move rfl rfl (v := .int .i64 (w64 (left_1 - (a_1.length : Int)))) rfl ?_
    refine TL.assign rfl rfl (v := .int .i64 (w64 (left_1 - (a_1.length : Int)))) rfl ?_
    refine TL.done ?_
    exact TC.retF (Fin.body (fin1 (.inr rfl) rfl (.tmp rfl) [] rfl ⟨rfl, rfl⟩))

end Go.Proofs.Ytgljkechjkllgaa.G
