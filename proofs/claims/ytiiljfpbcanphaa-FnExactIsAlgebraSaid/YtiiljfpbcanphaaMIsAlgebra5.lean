/- Functions of the program, as pure functions. -/
import Derived.Test.YtiiljfpbcanphaaMIsAlgebra4
import Derived.Test.YtiiljfpbcanphaaProg
/- impl.reduce, as a pure function. -/
set_option linter.unusedVariables false
namespace Go.Proofs.Ytiiljfpbcanphaa.G
open Go Go.Sx Go.Proofs

def impl_reduce.b0 (x4 : List (List Int)) (r_1 : Int) (x5 : Int) (r_3 : List Int) (x2 : Int) : (List (List Int)) × Int → Option (LB ((List (List Int)) × Int)) := fun p => match p with | (l1, x8) => (bif (decide (x8 < ((x4.eraseIdx r_1.toNat).length : Int))) then chk x8 l1.length (chk x5 ((gt l1 x8).length) ((G.impl_lessTimes.f (gt l1 x8) r_3 (gt (gt l1 x8) x5) x2).bind (fun r_4 => some (.next ((l1.set x8.toNat r_4), (w64 (x8 + 1))))))) else some (.brk (l1, x8)))

def impl_reduce.b1 (x3 : List (List Int)) (x5 : Int) (r_3 : List Int) (x2 : Int) : (List (List Int)) × Int → Option (LB ((List (List Int)) × Int)) := fun p => match p with | (l2, x9) => (bif (decide (x9 < (x3.length : Int))) then chk x9 l2.length (chk x5 ((gt l2 x9).length) ((G.impl_lessTimes.f (gt l2 x9) r_3 (gt (gt l2 x9) x5) x2).bind (fun r_5 => some (.next ((l2.set x9.toNat r_5), (w64 (x9 + 1))))))) else some (.brk (l2, x9)))

def impl_reduce.b2 (x1 : List (List Int)) (x2 : Int) : (List (List Int)) × (List (List Int)) × Int → Option (LB ((List (List Int)) × (List (List Int)) × Int)) := fun p => match p with | (x3, x4, x5) => (bif (decide (x5 < ((gt x1 0).length : Int))) then ((G.slices_IndexFunc_int64_int64_197.f x4 (fun x0_ => G.impl_reduce_1.f x0_ x5)).bind (fun r_1 => (bif (decide (r_1 < 0)) then some (.inl (x3, x4)) else chk r_1 x4.length (chk x5 ((gt x4 r_1).length) ((G.impl_inverse.f (gt (gt x4 r_1) x5) x2).bind (fun r_2 => (G.impl_scaled.f (gt x4 r_1) r_2 x2).bind (fun r_3 => (loop1 (impl_reduce.b0 x4 r_1 x5 r_3 x2) ((x4.eraseIdx r_1.toNat), 0)).bind (fun p => match p with | (l1, x8) => (loop1 (impl_reduce.b1 x3 x5 r_3 x2) (x3, 0)).bind (fun p => match p with | (l2, x9) => small (l2.length + 1) (some (.inl ((l2 ++ [r_3]), l1)))))))))))).bind (jn (fun p => match p with | (x6, x7) => some (.next (x6, x7, (w64 (x5 + 1)))))) else some (.brk (x3, x4, x5)))

def impl_reduce.f (x1 : List (List Int)) (x2 : Int) : Option (List (List Int)) := (bif ((x1.length : Int) == 0) then some ([] : List (List Int)) else small x1.length (chk 0 x1.length ((loop1 (impl_reduce.b2 x1 x2) (([] : List (List Int)), x1, 0)).bind (fun p => match p with | (x3, x4, x5) => some x3))))

def impl_reduce.R (r : List (List Int)) (v : Value) (L : List Asn) : Prop := ∃ (s0 : SV) (ss0 : List SV), v = SV.v s0 ∧ L = [mat Ei 2 22 s0 ss0 r, emp]

set_option maxRecDepth 100000 in
set_option maxHeartbeats 4000000 in
theorem impl_reduce.calls (w0 : World) (I : Hp) (w : World) (s1 : SV) (ss1 : List SV) (x1 : List (List Int)) (x2 : Int) (hS : St w0 I [mat Ei 2 22 s1 ss1 x1] w) :
    ∀ r, impl_reduce.f x1 x2 = some r → Calls Try.prog 193 #[SV.v s1, .int .i64 x2] w (RetM w0 I ((impl_reduce.R) r)) := by

  refine calls_TM (w0 := w0) (I := I) (L := [mat Ei 2 22 s1 ss1 x1]) (n := 97) (Γ := [(0, SV.v s1), (1, .int .i64 x2)]) (R := (impl_reduce.R)) Try.func193 rfl rfl (Nat.le_of_ble_eq_true rfl) ⟨rfl, rfl, trivial⟩ ?_ w hS
  unfold impl_reduce.f
  refine TC.seq ?_
  refine TC.region ?_
  refine TL.assign rfl rfl (v := SV.v ⟨none, 0, 0⟩) rfl ?_
  refine TL.done ?_
  refine TC.seq ?_
  refine TC.region ?_
  refine TL.bslice0 Ev Try.underlying32 Try.sizeOf22 rfl rfl fun s2 => ?_
  refine TL.rows0 Ei 2 ?_
  refine TL.matmk 1 0 rfl rfl ?_
  refine TL.asL [mat Ei 2 22 s2 ([] : List SV) ([] : List (List Int)), emp, mat Ei 2 22 s1 ss1 x1] (by kernel_rfl) ?_
  refine TL.assign rfl rfl (v := SV.v s2) rfl ?_
  refine TL.done ?_
  refine TC.seq ?_
  refine TC.seq ?_
  refine TC.region ?_
  refine TL.move rfl rfl (v := SV.v s1) rfl ?_
  refine TL.lenM (RdM.mat 2 rfl) Try.underlying32 rfl rfl rfl ?_
  refine TL.bin .i64 (x1.length : Int) 0 rfl rfl rfl rfl (v := .bool ((x1.length : Int) == 0)) rfl ?_
  refine TL.done ?_
  refine TC.cond (b := ((x1.length : Int) == 0)) rfl (fun c1 => ?_) (fun c2 => ?_)
  · refine TC.seq ?_
    refine TC.region ?_
    refine TL.move rfl rfl (v := SV.v s2) rfl ?_
    refine TL.assign rfl rfl (v := SV.v s2) rfl ?_
    refine TL.done ?_
    refine TC.mkemp ?_
    exact TC.retF (Fin.body (fin1 (.inr rfl) rfl (.tmp rfl) [1, 0] rfl ⟨s2, ([] : List SV), rfl, rfl⟩))
  · refine TC.skip ?_
    refine TC.seq ?_
    refine TC.region ?_
    refine TL.move rfl rfl (v := SV.v s1) rfl ?_
    refine TL.small fun h1 => ?_
    refine TL.cloneM 2 rfl h1 rfl rfl rfl fun s3 => ?_
    refine TL.assign rfl rfl (v := SV.v s3) rfl ?_
    refine TL.done ?_
    refine TC.seq ?_
    refine TC.seq ?_
    refine TC.region ?_
    refine TL.move rfl rfl (v := SV.v s1) rfl ?_
    refine TL.chk fun h2 => ?_
    refine TL.ixsM 0 0 (RdM.split (Rd.row 0 rfl) (RdM.mat 3 rfl)) h2 Try.underlying32 Try.sizeOf22 rfl rfl rfl rfl rfl ?_
    refine TL.loadM2 (RdM.split (Rd.row 0 rfl) (RdM.mat 3 rfl)) Try.isAgg22 0 h2 rfl rfl rfl rfl ?_
    refine TL.len (RdM.inn (RdM.split (Rd.row 0 rfl) (RdM.mat 3 rfl)) h2) Try.underlying22 rfl rfl rfl ?_
    refine TL.move rfl rfl (v := .int .i64 0) rfl ?_
    refine TL.done ?_
    refine TC.loop1 (σ := (List (List Int)) × (List (List Int)) × Int) (γ := SV × (List SV) × SV × (List SV)) (Γ' := (fun p q => match p, q with | (x3, x4, x5), (s4, ss2, s5, ss3) => [(1, .int .i64 x2), (5, SV.v s4), (6, SV.v s5), (24, .int .i64 ((gt x1 0).length : Int)), (25, .int .i64 x5)])) (L' := (fun p q => match p, q with | (x3, x4, x5), (s4, ss2, s5, ss3) => [mat Ei 2 22 s4 ss2 x3, mat Ei 2 22 s5 ss3 x4])) (Γb := (fun p q => match p, q with | (x3, x4, x5), (s4, ss2, s5, ss3) => [(1, .int .i64 x2), (5, SV.v s4), (6, SV.v s5), (24, .int .i64 ((gt x1 0).length : Int)), (25, .int .i64 x5)])) (Lb := (fun p q => match p, q with | (x3, x4, x5), (s4, ss2, s5, ss3) => [mat Ei 2 22 s4 ss2 x3, mat Ei 2 22 s5 ss3 x4])) ((([] : List (List Int)), x1, 0)) ((s2, ([] : List SV), s3, ss1)) ⟨rfl, rfl, rfl, rfl, rfl, trivial⟩ [1, 2] rfl ?_ ?_
    · rintro ⟨x3, x4, x5⟩ ⟨s4, ss2, s5, ss3⟩
      refine TC.seq ?_
      refine TC.region ?_
      refine TL.bin .i64 x5 ((gt x1 0).length : Int) rfl rfl rfl rfl (v := .bool (decide (x5 < ((gt x1 0).length : Int)))) rfl ?_
      refine TL.done ?_
      refine TC.seq ?_
      refine TC.cond (b := (decide (x5 < ((gt x1 0).length : Int)))) rfl (fun c3 => ?_) (fun c4 => ?_)
      · refine TC.skip ?_
        refine TC.seq ?_
        refine TC.blockJ (σ := (List (List Int)) × (List (List Int))) (γ := SV × (List SV) × SV × (List SV)) (Γ' := (fun p q => match p, q with | (x6, x7), (s6, ss4, s7, ss5) => [(1, .int .i64 x2), (5, SV.v s6), (6, SV.v s7), (24, .int .i64 ((gt x1 0).length : Int)), (25, .int .i64 x5)])) (L' := (fun p q => match p, q with | (x6, x7), (s6, ss4, s7, ss5) => [mat Ei 2 22 s6 ss4 x6, mat Ei 2 22 s7 ss5 x7])) ?_ ?_
        · refine TC.seq ?_
          refine TC.region ?_
          refine TL.move rfl rfl (v := .int .i64 x5) rfl ?_
          refine TL.alloc [.one (.int .i64 0)] rfl rfl Try.zeroValue3 rfl fun b_1 => ?_
          refine TL.st1 0 0 rfl Try.sizeOf3 rfl rfl rfl rfl rfl rfl rfl ?_
          refine TL.done ?_
          refine TC.seq ?_
          refine TC.region ?_
          refine TL.move rfl rfl (v := SV.v s5) rfl ?_
          refine TL.makeFunc rfl rfl (us := []) (vs := [bp b_1 0]) rfl rfl ?_
          refine TL.call (R := G.slices_IndexFunc_int64_int64_197.R) Try.call197 rfl rfl rfl (fun w hS => G.slices_IndexFunc_int64_int64_197.calls w s5 ss3 x4 198 [] [bp b_1 0] (fun x0_ => G.impl_reduce_1.f x0_ x5) ((RdM.mat 2 rfl) w hS) Try.call198 (fun w_ hle_ s1_ x0_ h0_ r_ hr_ => G.impl_reduce_1.calls w_ s1_ x0_ b_1 x5 h0_ (((Src.box 0 rfl) w hS).mono hle_) r_ hr_)) ?_
          rintro r_1 _ _ ⟨rfl, rfl⟩
          refine TL.assign rfl rfl (v := .int .i64 r_1) rfl ?_
          refine TL.done ?_
          refine TC.seq ?_
          refine TC.seq ?_
          refine TC.region ?_
          refine TL.move rfl rfl (v := .int .i64 r_1) rfl ?_
          refine TL.bin .i64 r_1 0 rfl rfl rfl rfl (v := .bool (decide (r_1 < 0))) rfl ?_
          refine TL.done ?_
          refine TC.cond (b := (decide (r_1 < 0))) rfl (fun c5 => ?_) (fun c6 => ?_)
          · exact TC.exB ((x3, x4)) ((s4, ss2, s5, ss3)) ⟨rfl, rfl, rfl, rfl, rfl, trivial⟩ [1, 1] rfl
          · refine TC.skip ?_
            refine TC.seq ?_
            refine TC.wk (Γ' := [(1, .int .i64 x2), (5, SV.v s4), (6, SV.v s5), (24, .int .i64 ((gt x1 0).length : Int)), (25, .int .i64 x5), (26, .bool (decide (x5 < ((gt x1 0).length : Int)))), (27, .int .i64 x5), (7, bp b_1 0), (28, SV.v s5), (29, .func (.func 198) #[] #[bp b_1 0]), (30, .int .i64 r_1), (8, .int .i64 r_1), (31, .int .i64 r_1), (32, .bool (decide (r_1 < 0)))]) ⟨rfl, rfl, rfl, rfl, rfl, rfl, rfl, rfl, rfl, rfl, rfl, rfl, rfl, rfl, trivial⟩ ?_
            refine TC.chk fun h3 => ?_
            refine TC.chk fun h4 => ?_
            refine TC.bindE ?_
            rintro r_2 hr1
            refine TC.bindE ?_
            rintro r_3 hr2
            refine TC.drawG [(1, .int .i64 x2), (5, SV.v s4), (6, SV.v s5), (24, .int .i64 ((gt x1 0).length : Int)), (25, .int .i64 x5), (26, .bool (decide (x5 < ((gt x1 0).length : Int)))), (27, .int .i64 x5), (7, bp b_1 0), (28, SV.v s5), (29, .func (.func 198) #[] #[bp b_1 0]), (30, .int .i64 r_1), (8, .int .i64 r_1), (31, .int .i64 r_1), (32, .bool (decide (r_1 < 0)))] [] ⟨rfl, rfl, rfl, rfl, rfl, rfl, rfl, rfl, rfl, rfl, rfl, rfl, rfl, rfl, trivial⟩ trivial (fun l_ g1 => [box b_1 3 [.one (.int .i64 x5)], mat Ei 2 22 s4 ss2 x3, mat Ei 2 22 s5 ss3 x4, (bif nb l_ 14 then row Ei 2 (gs (g1 112)) r_3 else emp)]) (fun g1 => [SV.v s5, .int .i64 r_1, ep s5 r_1.toNat, SV.v (gt ss3 r_1), SV.v s5, .int .i64 r_1, ep s5 r_1.toNat, SV.v (gt ss3 r_1), .int .i64 x5, ep (gt ss3 r_1) x5.toNat, .int .i64 (gt (gt x4 r_1) x5), .int .i64 x2, .int .i64 r_2, .int .i64 x2, SV.v (gs (g1 112)), SV.v (gs (g1 112))]) [[], [], [0, 1], [0, 1, 2], [], [], [4, 5], [4, 5, 6], [], [4, 5, 6, 7, 8], [4, 5, 6, 7, 8, 9], [], [4, 5, 6, 7, 8, 9, 10, 11], [], [0, 1, 2, 3, 4, 5, 6, 7, 8, 9, 10, 11, 12, 13], [0, 1, 2, 3, 4, 5, 6, 7, 8, 9, 10, 11, 12, 13, 14]] [[some false, none, some false, some false, none, none, none, none, none, none, none, none, none, none, some false, some false], [none, some false, some false, some false, none, none, none, none, none, none, none, none, none, none, some false, some false], [some true, some true, some false, some false, none, none, none, none, none, none, none, none, none, none, some false, some false], [some true, some true, some true, some false, none, none, none, none, none, none, none, none, none, none, some false, some false], [none, none, none, none, some false, none, some false, some false, none, some false, some false, none, some false, none, some false, some false], [none, none, none, none, none, some false, some false, some false, none, some false, some false, none, some false, none, some false, some false], [none, none, none, none, some true, some true, some false, some false, none, some false, some false, none, some false, none, some false, some false], [none, none, none, none, some true, some true, some true, some false, none, some false, some false, none, some false, none, some false, some false], [none, none, none, none, none, none, none, none, some false, some false, some false, none, some false, none, some false, some false], [none, none, none, none, some true, some true, some true, some true, some true, some false, some false, none, some false, none, some false, some false], [none, none, none, none, some true, some true, some true, some true, some true, some true, some false, none, some false, none, some false, some false], [none, none, none, none, none, none, none, none, none, none, none, some false, some false, none, some false, some false], [none, none, none, none, some true, some true, some true, some true, some true, some true, some true, some true, some false, none, some false, some false], [none, none, none, none, none, none, none, none, none, none, none, none, none, some false, some false, some false], [some true, some true, some true, some true, some true, some true, some true, some true, some true, some true, some true, some true, some true, some true, some false, some false], [some true, some true, some true, some true, some true, some true, some true, some true, some true, some true, some true, some true, some true, some true, some true, some false]] (by kernel_rfl) (fun _ => rfl) rfl rfl rfl rfl rfl (fun _ _ => ⟨⟨⟨⟨⟨⟨⟨⟨⟨⟨⟨⟨⟨⟨⟨⟨trivial, rfl⟩, rfl⟩, rfl⟩, rfl⟩, rfl⟩, rfl⟩, rfl⟩, rfl⟩, rfl⟩, rfl⟩, rfl⟩, rfl⟩, rfl⟩, rfl⟩, rfl⟩, rfl⟩) 1 [1, 1, 1, 0] (fun _ => by kernel_rfl) ?_ ?_
            · refine ⟨rfl, ?_, rfl, ?_, rfl, ?_, rfl, ?_, rfl, ?_, rfl, ?_, rfl, ?_, rfl, ?_, rfl, ?_, rfl, ?_, rfl, ?_, rfl, ?_, rfl, ?_, rfl, ?_, rfl, ?_, rfl, ?_, trivial⟩
              · intro b1_ b4_ b5_ b6_ b7_ b8_ b9_ b10_ b11_ b12_ b13_ g1
                refine TL.move rfl rfl (v := SV.v s5) rfl ?_
                refine TL.done ?_
                exact TC.nrm () [] ⟨rfl, trivial⟩ [0, 0, 0, 0] (by kernel_rfl)
              · intro b0_ b4_ b5_ b6_ b7_ b8_ b9_ b10_ b11_ b12_ b13_ g1
                refine TL.move rfl rfl (v := .int .i64 r_1) rfl ?_
                refine TL.done ?_
                exact TC.nrm () [] ⟨rfl, trivial⟩ [0, 0, 0, 0] (by kernel_rfl)
              · intro b4_ b5_ b6_ b7_ b8_ b9_ b10_ b11_ b12_ b13_ g1
                refine TL.asL [box b_1 3 [.one (.int .i64 x5)], mat Ei 2 22 s4 ss2 x3, mat Ei 2 22 s5 ss3 x4, emp] (by kernel_rfl) ?_
                refine TL.ixsM r_1 r_1.toNat (RdM.mat 2 rfl) h3 Try.underlying32 Try.sizeOf22 rfl rfl rfl rfl (by omega) ?_
                refine TL.done ?_
                exact TC.nrm () [] ⟨rfl, trivial⟩ [0, 0, 0, 0] (by kernel_rfl)
              · intro b4_ b5_ b6_ b7_ b8_ b9_ b10_ b11_ b12_ b13_ g1
                refine TL.asL [box b_1 3 [.one (.int .i64 x5)], mat Ei 2 22 s4 ss2 x3, mat Ei 2 22 s5 ss3 x4, emp] (by kernel_rfl) ?_
                refine TL.loadM2 (RdM.mat 2 rfl) Try.isAgg22 r_1 h3 (by omega) rfl rfl rfl ?_
                refine TL.done ?_
                exact TC.nrm () [] ⟨rfl, trivial⟩ [0, 0, 0, 0] (by kernel_rfl)
              · intro b0_ b1_ b2_ b3_ b5_ b8_ b11_ b13_ g1
                refine TL.move rfl rfl (v := SV.v s5) rfl ?_
                refine TL.done ?_
                exact TC.nrm () [] ⟨rfl, trivial⟩ [0, 0, 0, 0] (by kernel_rfl)
              · intro b0_ b1_ b2_ b3_ b4_ b8_ b11_ b13_ g1
                refine TL.move rfl rfl (v := .int .i64 r_1) rfl ?_
                refine TL.done ?_
                exact TC.nrm () [] ⟨rfl, trivial⟩ [0, 0, 0, 0] (by kernel_rfl)
              · intro b0_ b1_ b2_ b3_ b8_ b11_ b13_ g1
                refine TL.asL [box b_1 3 [.one (.int .i64 x5)], mat Ei 2 22 s4 ss2 x3, mat Ei 2 22 s5 ss3 x4, emp] (by kernel_rfl) ?_
                refine TL.ixsM r_1 r_1.toNat (RdM.mat 2 rfl) h3 Try.underlying32 Try.sizeOf22 rfl rfl rfl rfl (by omega) ?_
                refine TL.done ?_
                exact TC.nrm () [] ⟨rfl, trivial⟩ [0, 0, 0, 0] (by kernel_rfl)
              · intro b0_ b1_ b2_ b3_ b8_ b11_ b13_ g1
                refine TL.asL [box b_1 3 [.one (.int .i64 x5)], mat Ei 2 22 s4 ss2 x3, mat Ei 2 22 s5 ss3 x4, emp] (by kernel_rfl) ?_
                refine TL.loadM2 (RdM.mat 2 rfl) Try.isAgg22 r_1 h3 (by omega) rfl rfl rfl ?_
                refine TL.done ?_
                exact TC.nrm () [] ⟨rfl, trivial⟩ [0, 0, 0, 0] (by kernel_rfl)
              · intro b0_ b1_ b2_ b3_ b4_ b5_ b6_ b7_ b11_ b13_ g1
                refine TL.asL [box b_1 3 [.one (.int .i64 x5)], mat Ei 2 22 s4 ss2 x3, mat Ei 2 22 s5 ss3 x4, emp] (by kernel_rfl) ?_
                refine TL.load1 0 (Src.box 0 rfl) Try.isAgg3 rfl rfl rfl rfl rfl ?_
                refine TL.done ?_
                exact TC.nrm () [] ⟨rfl, trivial⟩ [0, 0, 0, 0] (by kernel_rfl)
              · intro b0_ b1_ b2_ b3_ b11_ b13_ g1
                refine TL.asL [box b_1 3 [.one (.int .i64 x5)], mat Ei 2 22 s4 ss2 x3, mat Ei 2 22 s5 ss3 x4, emp] (by kernel_rfl) ?_
                refine TL.ixs x5 x5.toNat (RdM.inn (RdM.mat 2 rfl) h3) h4 Try.underlying22 Try.sizeOf2 rfl rfl rfl rfl (by omega) ?_
                refine TL.done ?_
                exact TC.nrm () [] ⟨rfl, trivial⟩ [0, 0, 0, 0] (by kernel_rfl)
              · intro b0_ b1_ b2_ b3_ b11_ b13_ g1
                refine TL.asL [box b_1 3 [.one (.int .i64 x5)], mat Ei 2 22 s4 ss2 x3, mat Ei 2 22 s5 ss3 x4, emp] (by kernel_rfl) ?_
                refine TL.loadE (RdM.inn (RdM.mat 2 rfl) h3) Try.isAgg2 x5.toNat 0 (gt_spec h4) (v := .int .i64 (gt (gt x4 r_1) x5)) rfl (by simp only [show Ei.sz = 1 from rfl] <;> omega) rfl rfl rfl ?_
                refine TL.done ?_
                exact TC.nrm () [] ⟨rfl, trivial⟩ [0, 0, 0, 0] (by kernel_rfl)
              · intro b0_ b1_ b2_ b3_ b4_ b5_ b6_ b7_ b8_ b9_ b10_ b13_ g1
                refine TL.move rfl rfl (v := .int .i64 x2) rfl ?_
                refine TL.done ?_
                exact TC.nrm () [] ⟨rfl, trivial⟩ [0, 0, 0, 0] (by kernel_rfl)
              · intro b0_ b1_ b2_ b3_ b13_ g1
                refine TL.asL [box b_1 3 [.one (.int .i64 x5)], mat Ei 2 22 s4 ss2 x3, mat Ei 2 22 s5 ss3 x4, emp] (by kernel_rfl) ?_
                refine TL.callH (R := G.impl_inverse.R) hr1 Try.call77 rfl rfl rfl (fun w hS => G.impl_inverse.calls w (gt (gt x4 r_1) x5) x2) ?_
                rintro _ _ ⟨rfl, rfl⟩
                refine TL.done ?_
                exact TC.nrm () [] ⟨rfl, trivial⟩ [0, 0, 0, 0] (by kernel_rfl)
              · intro b0_ b1_ b2_ b3_ b4_ b5_ b6_ b7_ b8_ b9_ b10_ b11_ b12_ g1
                refine TL.move rfl rfl (v := .int .i64 x2) rfl ?_
                refine TL.done ?_
                exact TC.nrm () [] ⟨rfl, trivial⟩ [0, 0, 0, 0] (by kernel_rfl)
              · intro g1
                refine TL.asL [box b_1 3 [.one (.int .i64 x5)], mat Ei 2 22 s4 ss2 x3, mat Ei 2 22 s5 ss3 x4, emp] (by kernel_rfl) ?_
                refine TL.callH (R := G.impl_scaled.R) hr2 Try.call199 rfl rfl rfl (fun w hS => G.impl_scaled.calls w (gt ss3 r_1) (gt x4 r_1) r_2 x2 ((RdM.inn (RdM.mat 2 rfl) h3) w hS)) ?_
                rintro _ _ ⟨s8, rfl, rfl⟩
                refine TL.done ?_
                exact TC.nrm () [[s8]] ⟨rfl, trivial⟩ [1, 1, 1, 0] (by kernel_rfl)
              · intro g1
                refine TL.assign rfl rfl (v := SV.v (gs (g1 112))) rfl ?_
                refine TL.done ?_
                exact TC.nrm () [] ⟨rfl, trivial⟩ [0, 0, 0, 0] (by kernel_rfl)
            · intro g1
              refine TC.asL [box b_1 3 [.one (.int .i64 x5)], mat Ei 2 22 s4 ss2 x3, mat Ei 2 22 s5 ss3 x4, row Ei 2 (gs (g1 112)) r_3] (by kernel_rfl) ?_
              refine TC.seq ?_
              refine TC.region ?_
              refine TL.move rfl rfl (v := SV.v s5) rfl ?_
              refine TL.move rfl rfl (v := .int .i64 r_1) rfl ?_
              refine TL.move rfl rfl (v := .int .i64 r_1) rfl ?_
              refine TL.bin .i64 r_1 1 rfl rfl rfl rfl (v := .int .i64 (w64 (r_1 + 1))) rfl ?_
              refine TL.deleteM 2 rfl r_1 h3 rfl rfl rfl fun s9 => ?_
              refine TL.assign rfl rfl (v := SV.v s9) rfl ?_
              refine TL.done ?_
              refine TC.seq ?_
              refine TC.seq ?_
              refine TC.region ?_
              refine TL.move rfl rfl (v := SV.v s9) rfl ?_
              refine TL.lenM (RdM.mat 2 rfl) Try.underlying32 rfl rfl rfl ?_
              refine TL.move rfl rfl (v := .int .i64 0) rfl ?_
              refine TL.done ?_
              refine TC.loop1 (σ := (List (List Int)) × Int) (γ := (List SV)) (Γ' := (fun p q => match p, q with | (l1, x8), ss6 => [(1, .int .i64 x2), (5, SV.v s4), (6, SV.v s9), (7, bp b_1 0), (9, SV.v (gs (g1 112))), (24, .int .i64 ((gt x1 0).length : Int)), (25, .int .i64 x5), (53, SV.v s9), (54, .int .i64 ((x4.eraseIdx r_1.toNat).length : Int)), (55, .int .i64 x8)])) (L' := (fun p q => match p, q with | (l1, x8), ss6 => [mat Ei 2 22 s4 ss2 x3, mat Ei 2 22 s9 ss6 l1, box b_1 3 [.one (.int .i64 x5)], row Ei 2 (gs (g1 112)) r_3])) (Γb := (fun p q => match p, q with | (l1, x8), ss6 => [(1, .int .i64 x2), (5, SV.v s4), (6, SV.v s9), (7, bp b_1 0), (9, SV.v (gs (g1 112))), (24, .int .i64 ((gt x1 0).length : Int)), (25, .int .i64 x5), (53, SV.v s9), (54, .int .i64 ((x4.eraseIdx r_1.toNat).length : Int)), (55, .int .i64 x8)])) (Lb := (fun p q => match p, q with | (l1, x8), ss6 => [mat Ei 2 22 s4 ss2 x3, mat Ei 2 22 s9 ss6 l1, box b_1 3 [.one (.int .i64 x5)], row Ei 2 (gs (g1 112)) r_3])) (((x4.eraseIdx r_1.toNat), 0)) ((ss3.eraseIdx r_1.toNat)) ⟨rfl, rfl, rfl, rfl, rfl, rfl, rfl, rfl, rfl, rfl, trivial⟩ [1, 1, 0, 0] rfl ?_ ?_
              · rintro ⟨l1, x8⟩ ss6
                refine TC.seq ?_
                refine TC.region ?_
                refine TL.bin .i64 x8 ((x4.eraseIdx r_1.toNat).length : Int) rfl rfl rfl rfl (v := .bool (decide (x8 < ((x4.eraseIdx r_1.toNat).length : Int)))) rfl ?_
                refine TL.done ?_
                refine TC.seq ?_
                refine TC.cond (b := (decide (x8 < ((x4.eraseIdx r_1.toNat).length : Int)))) rfl (fun c7 => ?_) (fun c8 => ?_)
                · refine TC.skip ?_
                  refine TC.seq ?_
                  refine TC.block (NoEx.loop1 rfl) ?_
                  refine TC.seq ?_
                  refine TC.region ?_
                  refine TL.move rfl rfl (v := .int .i64 x8) rfl ?_
                  refine TL.chk fun h5 => ?_
                  refine TL.ixsM x8 x8.toNat (RdM.mat 1 rfl) h5 Try.underlying32 Try.sizeOf22 rfl rfl rfl rfl (by omega) ?_
                  refine TL.loadM2 (RdM.mat 1 rfl) Try.isAgg22 x8 h5 (by omega) rfl rfl rfl ?_
                  refine TL.assign rfl rfl (v := .int .i64 x8) rfl ?_
                  refine TL.assign rfl rfl (v := SV.v (gt ss6 x8)) rfl ?_
                  refine TL.done ?_
                  refine TC.region ?_
                  refine TL.move rfl rfl (v := SV.v s9) rfl ?_
                  refine TL.move rfl rfl (v := .int .i64 x8) rfl ?_
                  refine TL.move rfl rfl (v := SV.v (gt ss6 x8)) rfl ?_
                  refine TL.move rfl rfl (v := SV.v (gs (g1 112))) rfl ?_
                  refine TL.move rfl rfl (v := SV.v (gt ss6 x8)) rfl ?_
                  refine TL.load1 0 (Src.box 2 rfl) Try.isAgg3 rfl rfl rfl rfl rfl ?_
                  refine TL.chk fun h6 => ?_
                  refine TL.ixs x5 x5.toNat (RdM.inn (RdM.mat 1 rfl) h5) h6 Try.underlying22 Try.sizeOf2 rfl rfl rfl rfl (by omega) ?_
                  refine TL.loadE (RdM.inn (RdM.mat 1 rfl) h5) Try.isAgg2 x5.toNat 0 (gt_spec h6) (v := .int .i64 (gt (gt l1 x8) x5)) rfl (by simp only [show Ei.sz = 1 from rfl] <;> omega) rfl rfl rfl ?_
                  refine TL.move rfl rfl (v := .int .i64 x2) rfl ?_
                  refine TL.call (R := G.impl_lessTimes.R) Try.call201 rfl rfl rfl (fun w hS => G.impl_lessTimes.calls w (gt ss6 x8) (gt l1 x8) (gs (g1 112)) r_3 (gt (gt l1 x8) x5) x2 ((RdM.inn (RdM.mat 1 rfl) h5) w hS) ((Rd.row 3 rfl) w hS)) ?_
                  rintro r_4 _ _ ⟨s10, rfl, rfl⟩
                  refine TL.ixsM x8 x8.toNat (RdM.mat 2 rfl) h5 Try.underlying32 Try.sizeOf22 rfl rfl rfl rfl (by omega) ?_
                  refine TL.matlen 2 rfl fun h7 => ?_
                  refine TL.matcut 2 rfl ?_
                  refine TL.stE 0 (x8.toNat) s10 (v := SV.v s10) rfl Try.sizeOf22 rfl rfl rfl (by have h_ := h5; have l_ := h7; (try simp only [List.length_set] at h_ l_ ⊢); omega) (by simp only [show Ev.sz = 1 from rfl] <;> omega) rfl rfl rfl ?_
                  refine TL.hole 3 x8 rfl h5 ?_
                  refine TL.rowsPut 1 3 rfl rfl ?_
                  refine TL.matmk 0 3 rfl rfl ?_
                  refine TL.drop 0 rfl ?_
                  refine TL.asL [emp, mat Ei 2 22 s4 ss2 x3, mat Ei 2 22 s9 (ss6.set x8.toNat s10) (l1.set x8.toNat r_4), box b_1 3 [.one (.int .i64 x5)], row Ei 2 (gs (g1 112)) r_3] (by kernel_rfl) ?_
                  refine TL.done ?_
                  refine TC.region ?_
                  refine TL.bin .i64 x8 1 rfl rfl rfl rfl (v := .int .i64 (w64 (x8 + 1))) rfl ?_
                  refine TL.move rfl rfl (v := .int .i64 (w64 (x8 + 1))) rfl ?_
                  refine TL.done ?_
                  exact TC.next1 (((l1.set x8.toNat r_4), (w64 (x8 + 1)))) ((ss6.set x8.toNat s10)) ⟨rfl, rfl, rfl, rfl, rfl, rfl, rfl, rfl, rfl, rfl, trivial⟩ [1, 1, 1, 1] rfl
                · exact TC.brk1 ((l1, x8)) (ss6) ⟨rfl, rfl, rfl, rfl, rfl, rfl, rfl, rfl, rfl, rfl, trivial⟩ [0, 0, 0, 0] rfl
              · rintro ⟨l1, x8⟩ ss6
                refine TC.seq ?_
                refine TC.seq ?_
                refine TC.region ?_
                refine TL.move rfl rfl (v := SV.v s4) rfl ?_
                refine TL.lenM (RdM.mat 0 rfl) Try.underlying32 rfl rfl rfl ?_
                refine TL.move rfl rfl (v := .int .i64 0) rfl ?_
                refine TL.done ?_
                refine TC.loop1 (σ := (List (List Int)) × Int) (γ := (List SV)) (Γ' := (fun p q => match p, q with | (l2, x9), ss7 => [(1, .int .i64 x2), (5, SV.v s4), (6, SV.v s9), (7, bp b_1 0), (9, SV.v (gs (g1 112))), (24, .int .i64 ((gt x1 0).length : Int)), (25, .int .i64 x5), (72, SV.v s4), (73, .int .i64 (x3.length : Int)), (74, .int .i64 x9)])) (L' := (fun p q => match p, q with | (l2, x9), ss7 => [mat Ei 2 22 s4 ss7 l2, mat Ei 2 22 s9 ss6 l1, box b_1 3 [.one (.int .i64 x5)], row Ei 2 (gs (g1 112)) r_3])) (Γb := (fun p q => match p, q with | (l2, x9), ss7 => [(1, .int .i64 x2), (5, SV.v s4), (6, SV.v s9), (7, bp b_1 0), (9, SV.v (gs (g1 112))), (24, .int .i64 ((gt x1 0).length : Int)), (25, .int .i64 x5), (72, SV.v s4), (73, .int .i64 (x3.length : Int)), (74, .int .i64 x9)])) (Lb := (fun p q => match p, q with | (l2, x9), ss7 => [mat Ei 2 22 s4 ss7 l2, mat Ei 2 22 s9 ss6 l1, box b_1 3 [.one (.int .i64 x5)], row Ei 2 (gs (g1 112)) r_3])) ((x3, 0)) (ss2) ⟨rfl, rfl, rfl, rfl, rfl, rfl, rfl, rfl, rfl, rfl, trivial⟩ [0, 0, 0, 0] rfl ?_ ?_
                · rintro ⟨l2, x9⟩ ss7
                  refine TC.seq ?_
                  refine TC.region ?_
                  refine TL.bin .i64 x9 (x3.length : Int) rfl rfl rfl rfl (v := .bool (decide (x9 < (x3.length : Int)))) rfl ?_
                  refine TL.done ?_
                  refine TC.seq ?_
                  refine TC.cond (b := (decide (x9 < (x3.length : Int)))) rfl (fun c9 => ?_) (fun c10 => ?_)
                  · refine TC.skip ?_
                    refine TC.seq ?_
                    refine TC.block (NoEx.loop1 rfl) ?_
                    refine TC.seq ?_
                    refine TC.region ?_
                    refine TL.move rfl rfl (v := .int .i64 x9) rfl ?_
                    refine TL.chk fun h8 => ?_
                    refine TL.ixsM x9 x9.toNat (RdM.mat 0 rfl) h8 Try.underlying32 Try.sizeOf22 rfl rfl rfl rfl (by omega) ?_
                    refine TL.loadM2 (RdM.mat 0 rfl) Try.isAgg22 x9 h8 (by omega) rfl rfl rfl ?_
                    refine TL.assign rfl rfl (v := .int .i64 x9) rfl ?_
                    refine TL.assign rfl rfl (v := SV.v (gt ss7 x9)) rfl ?_
                    refine TL.done ?_
                    refine TC.region ?_
                    refine TL.move rfl rfl (v := SV.v s4) rfl ?_
                    refine TL.move rfl rfl (v := .int .i64 x9) rfl ?_
                    refine TL.move rfl rfl (v := SV.v (gt ss7 x9)) rfl ?_
                    refine TL.move rfl rfl (v := SV.v (gs (g1 112))) rfl ?_
                    refine TL.move rfl rfl (v := SV.v (gt ss7 x9)) rfl ?_
                    refine TL.load1 0 (Src.box 2 rfl) Try.isAgg3 rfl rfl rfl rfl rfl ?_
                    refine TL.chk fun h9 => ?_
                    refine TL.ixs x5 x5.toNat (RdM.inn (RdM.mat 0 rfl) h8) h9 Try.underlying22 Try.sizeOf2 rfl rfl rfl rfl (by omega) ?_
                    refine TL.loadE (RdM.inn (RdM.mat 0 rfl) h8) Try.isAgg2 x5.toNat 0 (gt_spec h9) (v := .int .i64 (gt (gt l2 x9) x5)) rfl (by simp only [show Ei.sz = 1 from rfl] <;> omega) rfl rfl rfl ?_
                    refine TL.move rfl rfl (v := .int .i64 x2) rfl ?_
                    refine TL.call (R := G.impl_lessTimes.R) Try.call201 rfl rfl rfl (fun w hS => G.impl_lessTimes.calls w (gt ss7 x9) (gt l2 x9) (gs (g1 112)) r_3 (gt (gt l2 x9) x5) x2 ((RdM.inn (RdM.mat 0 rfl) h8) w hS) ((Rd.row 3 rfl) w hS)) ?_
                    rintro r_5 _ _ ⟨s11, rfl, rfl⟩
                    refine TL.ixsM x9 x9.toNat (RdM.mat 1 rfl) h8 Try.underlying32 Try.sizeOf22 rfl rfl rfl rfl (by omega) ?_
                    refine TL.matlen 1 rfl fun h10 => ?_
                    refine TL.matcut 1 rfl ?_
                    refine TL.stE 0 (x9.toNat) s11 (v := SV.v s11) rfl Try.sizeOf22 rfl rfl rfl (by have h_ := h8; have l_ := h10; (try simp only [List.length_set] at h_ l_ ⊢); omega) (by simp only [show Ev.sz = 1 from rfl] <;> omega) rfl rfl rfl ?_
                    refine TL.hole 2 x9 rfl h8 ?_
                    refine TL.rowsPut 1 2 rfl rfl ?_
                    refine TL.matmk 0 2 rfl rfl ?_
                    refine TL.drop 0 rfl ?_
                    refine TL.asL [emp, mat Ei 2 22 s4 (ss7.set x9.toNat s11) (l2.set x9.toNat r_5), mat Ei 2 22 s9 ss6 l1, box b_1 3 [.one (.int .i64 x5)], row Ei 2 (gs (g1 112)) r_3] (by kernel_rfl) ?_
                    refine TL.done ?_
                    refine TC.region ?_
                    refine TL.bin .i64 x9 1 rfl rfl rfl rfl (v := .int .i64 (w64 (x9 + 1))) rfl ?_
                    refine TL.move rfl rfl (v := .int .i64 (w64 (x9 + 1))) rfl ?_
                    refine TL.done ?_
                    exact TC.next1 (((l2.set x9.toNat r_5), (w64 (x9 + 1)))) ((ss7.set x9.toNat s11)) ⟨rfl, rfl, rfl, rfl, rfl, rfl, rfl, rfl, rfl, rfl, trivial⟩ [1, 1, 1, 1] rfl
                  · exact TC.brk1 ((l2, x9)) (ss7) ⟨rfl, rfl, rfl, rfl, rfl, rfl, rfl, rfl, rfl, rfl, trivial⟩ [0, 0, 0, 0] rfl
                · rintro ⟨l2, x9⟩ ss7
                  refine TC.region ?_
                  refine TL.move rfl rfl (v := SV.v s4) rfl ?_
                  refine TL.move rfl rfl (v := SV.v (gs (g1 112))) rfl ?_
                  refine TL.blit Ev ([(gs (g1 112))] : List SV) Try.underlying32 Try.sizeOf22 Try.zeroValue22 rfl rfl rfl [(0, SV.v (gs (g1 112)))] rfl ⟨rfl, rfl, trivial⟩ rfl rfl fun s12 => ?_
                  refine TL.small fun h11 => ?_
                  refine TL.matlen 1 rfl fun h12 => ?_
                  refine TL.matcut 1 rfl ?_
                  refine TL.append 0 rfl (Rd.row 1 rfl) Try.underlying32 (info_of Try.type22) (zv := (Try.t22.zero.getD (.bool false))) rfl rfl rfl (by decide) (by have h_ := h11; have l_ := h12; (try simp only [List.length_cons, List.length_nil] at h_ l_ ⊢); omega) rfl rfl rfl rfl fun s13 => ?_
                  refine TL.rowsPush 2 5 rfl rfl ?_
                  skip
                  refine TL.matmk 0 5 rfl rfl ?_
                  refine TL.drop 0 rfl ?_
                  refine TL.asL [row Ev 22 s12 ([(gs (g1 112))] : List SV), emp, mat Ei 2 22 s9 ss6 l1, box b_1 3 [.one (.int .i64 x5)], mat Ei 2 22 s13 (ss7 ++ [(gs (g1 112))]) (l2 ++ [r_3])] (by kernel_rfl) ?_
                  refine TL.assign rfl rfl (v := SV.v s13) rfl ?_
                  refine TL.done ?_
                  exact TC.inlB (((l2 ++ [r_3]), l1)) ((s13, (ss7 ++ [(gs (g1 112))]), s9, ss6)) ⟨rfl, rfl, rfl, rfl, rfl, trivial⟩ [4, 2] rfl
        · rintro ⟨x6, x7⟩ ⟨s6, ss4, s7, ss5⟩
          refine TC.region ?_
          refine TL.bin .i64 x5 1 rfl rfl rfl rfl (v := .int .i64 (w64 (x5 + 1))) rfl ?_
          refine TL.move rfl rfl (v := .int .i64 (w64 (x5 + 1))) rfl ?_
          refine TL.done ?_
          exact TC.next1 ((x6, x7, (w64 (x5 + 1)))) ((s6, ss4, s7, ss5)) ⟨rfl, rfl, rfl, rfl, rfl, trivial⟩ [0, 0] rfl
      · exact TC.brk1 ((x3, x4, x5)) ((s4, ss2, s5, ss3)) ⟨rfl, rfl, rfl, rfl, rfl, trivial⟩ [0, 0] rfl
    · rintro ⟨x3, x4, x5⟩ ⟨s4, ss2, s5, ss3⟩
      refine TC.seq ?_
      refine TC.region ?_
      refine TL.move rfl rfl (v := SV.v s4) rfl ?_
      refine TL.assign rfl rfl (v := SV.v s4) rfl ?_
      refine TL.done ?_
      refine TC.mkemp ?_
      exact TC.retF (Fin.body (fin1 (.inr rfl) rfl (.tmp rfl) [1, 0] rfl ⟨s4, ss2, rfl, rfl⟩))

end Go.Proofs.Ytiiljfpbcanphaa.G

/- slices.IndexFunc[[]int64,int64], as a pure function. -/
set_option linter.unusedVariables false
namespace Go.Proofs.Ytiiljfpbcanphaa.G
open Go Go.Sx Go.Proofs

def slices_IndexFunc_int64_int64.b0 (s1 : List Int) (f2 : Int → Option Bool) : Int → Option (LR Int Int) := fun x1 => (bif (decide (x1 < (s1.length : Int))) then chk x1 s1.length ((f2 (gt s1 x1)).bind (fun r_1 => (bif r_1 then some (.ret (x1)) else some (.next (w64 (x1 + 1)))))) else some (.brk x1))

def slices_IndexFunc_int64_int64.f (s1 : List Int) (f2 : Int → Option Bool) : Option Int := (loop (slices_IndexFunc_int64_int64.b0 s1 f2) 0).bind (ln (fun x1 => some (-1)))

def slices_IndexFunc_int64_int64.R (r : Int) (v : Value) (L : List Asn) : Prop := v = .int .i64 r ∧ L = []

set_option maxRecDepth 100000 in
set_option maxHeartbeats 4000000 in
theorem slices_IndexFunc_int64_int64.calls (w : World) (s2 : SV) (s1 : List Int) (f1 : Nat) (fst1 : List Value) (cap1 : List Value) (f2 : Int → Option Bool) (h1 : Reads Ei (hp w) s2 s1) (hc1 : ∀ (args_ : Array Value) (w_ : World), (callFunc f1 args_).run Try.prog w_ = .ok (.enter f1 args_) w_) (hf1 : ∀ w_, Hle (hp w) (hp w_) → ∀ (x0_ : Int), ∀ r_, f2 x0_ = some r_ → Calls Try.prog f1 (fst1 ++ ([.int .i64 x0_] : List Value) ++ cap1).toArray w_ (Ret w_ (fun (v_ : Value) (L_ : List Asn) => v_ = .bool r_ ∧ L_ = []))) :
    ∀ r, slices_IndexFunc_int64_int64.f s1 f2 = some r → Calls Try.prog 150 #[SV.v s2, .func (.func f1) fst1.toArray cap1.toArray] w (Ret w (slices_IndexFunc_int64_int64.R r)) := by

  refine calls_T (n := 19) (Γ := [(0, SV.v s2), (1, .func (.func f1) fst1.toArray cap1.toArray)]) (R := slices_IndexFunc_int64_int64.R) Try.func150 rfl rfl (Nat.le_of_ble_eq_true rfl) ⟨rfl, rfl, trivial⟩ ?_
  unfold slices_IndexFunc_int64_int64.f
  refine TC.seq ?_
  refine TC.region ?_
  refine TL.assign rfl rfl (v := .int .i64 0) rfl ?_
  refine TL.done ?_
  refine TC.seq ?_
  refine TC.seq ?_
  refine TC.region ?_
  refine TL.move rfl rfl (v := SV.v s2) rfl ?_
  refine TL.len (Rd.old h1) Try.underlying22 rfl rfl rfl ?_
  refine TL.move rfl rfl (v := .int .i64 0) rfl ?_
  refine TL.done ?_
  refine TC.loopK (σ := Int) (γ := Unit) (Γ' := (fun x1 _ => [(0, SV.v s2), (1, .func (.func f1) fst1.toArray cap1.toArray), (7, .int .i64 (s1.length : Int)), (8, .int .i64 x1)])) (L' := (fun x1 _ => [])) (Γb := (fun x1 _ => [(0, SV.v s2), (1, .func (.func f1) fst1.toArray cap1.toArray), (7, .int .i64 (s1.length : Int)), (8, .int .i64 x1)])) (Lb := (fun x1 _ => [])) (0) (()) ⟨rfl, rfl, rfl, rfl, trivial⟩ [] rfl ?_ ?_
  · rintro x1 _
    refine TC.seq ?_
    refine TC.region ?_
    refine TL.bin .i64 x1 (s1.length : Int) rfl rfl rfl rfl (v := .bool (decide (x1 < (s1.length : Int)))) rfl ?_
    refine TL.done ?_
    refine TC.seq ?_
    refine TC.cond (b := (decide (x1 < (s1.length : Int)))) rfl (fun c1 => ?_) (fun c2 => ?_)
    · refine TC.skip ?_
      refine TC.seq ?_
      refine TC.block (NoEx.loop rfl NoEx.body) ?_
      refine TC.seq ?_
      refine TC.region ?_
      refine TL.move rfl rfl (v := .int .i64 x1) rfl ?_
      refine TL.assign rfl rfl (v := .int .i64 x1) rfl ?_
      refine TL.done ?_
      refine TC.seq ?_
      refine TC.region ?_
      refine TL.move rfl rfl (v := .func (.func f1) fst1.toArray cap1.toArray) rfl ?_
      refine TL.move rfl rfl (v := SV.v s2) rfl ?_
      refine TL.move rfl rfl (v := .int .i64 x1) rfl ?_
      refine TL.chk fun h2 => ?_
      refine TL.ixs x1 x1.toNat (Rd.old h1) h2 Try.underlying22 Try.sizeOf2 rfl rfl rfl rfl (by omega) ?_
      refine TL.loadE (Rd.old h1) Try.isAgg2 x1.toNat 0 (gt_spec h2) (v := .int .i64 (gt s1 x1)) rfl (by simp only [show Ei.sz = 1 from rfl] <;> omega) rfl rfl rfl ?_
      refine TL.callv (R := (fun r_ => (fun (v_ : Value) (L_ : List Asn) => v_ = .bool r_ ∧ L_ = []))) (vs := [.int .i64 (gt s1 x1)]) hc1 rfl rfl rfl rfl (fun w hS => hf1 w hS.iw (gt s1 x1)) ?_
      rintro r_1 _ _ ⟨rfl, rfl⟩
      refine TL.done ?_
      refine TC.cond (b := r_1) rfl (fun c3 => ?_) (fun c4 => ?_)
      · refine TC.seq ?_
        refine TC.region ?_
        refine TL.move rfl rfl (v := .int .i64 x1) rfl ?_
        refine TL.assign rfl rfl (v := .int .i64 x1) rfl ?_
        refine TL.done ?_
        exact TC.retF (Fin.loop Far.ret (Fin.body (fin1 (.inr rfl) rfl (.tmp rfl) [] rfl ⟨rfl, rfl⟩)))
      · refine TC.skip ?_
        refine TC.region ?_
        refine TL.bin .i64 x1 1 rfl rfl rfl rfl (v := .int .i64 (w64 (x1 + 1))) rfl ?_
        refine TL.move rfl rfl (v := .int .i64 (w64 (x1 + 1))) rfl ?_
        refine TL.done ?_
        exact TC.next ((w64 (x1 + 1))) (()) ⟨rfl, rfl, rfl, rfl, trivial⟩ [] rfl
    · exact TC.brk (x1) (()) ⟨rfl, rfl, rfl, rfl, trivial⟩ [] rfl
  · rintro x1 _
    refine TC.seq ?_
    refine TC.region ?_
    refine TL.assign rfl rfl (v := .int .i64 (-1)) rfl ?_
    refine TL.done ?_
    exact TC.retF (Fin.body (fin1 (.inr rfl) rfl (.tmp rfl) [] rfl ⟨rfl, rfl⟩))

end Go.Proofs.Ytiiljfpbcanphaa.G

/- impl.leader$1, as a pure function. -/
set_option linter.unusedVariables false
namespace Go.Proofs.Ytiiljfpbcanphaa.G
open Go Go.Sx Go.Proofs

def impl_leader_1.f (x1 : Int) : Option Bool := some (x1 != 0)

def impl_leader_1.R (r : Bool) (v : Value) (L : List Asn) : Prop := v = .bool r ∧ L = []

set_option maxRecDepth 100000 in
set_option maxHeartbeats 4000000 in
theorem impl_leader_1.calls (w : World) (x1 : Int) :
    ∀ r, impl_leader_1.f x1 = some r → Calls Try.prog 202 #[.int .i64 x1] w (Ret w (impl_leader_1.R r)) := by

  refine calls_T (n := 5) (Γ := [(0, .int .i64 x1)]) (R := impl_leader_1.R) Try.func202 rfl rfl (Nat.le_of_ble_eq_true rfl) ⟨rfl, trivial⟩ ?_
  unfold impl_leader_1.f
  refine TC.seq ?_
  refine TC.region ?_
  refine TL.assign rfl rfl (v := .bool false) rfl ?_
  refine TL.done ?_
  refine TC.seq ?_
  refine TC.region ?_
  refine TL.move rfl rfl (v := .int .i64 x1) rfl ?_
  refine TL.bin .i64 x1 0 rfl rfl rfl rfl (v := .bool (x1 != 0)) rfl ?_
  refine TL.assign rfl rfl (v := .bool (x1 != 0)) rfl ?_
  refine TL.done ?_
  exact TC.retF (Fin.body (fin1 (.inr rfl) rfl (.tmp rfl) [] rfl ⟨rfl, rfl⟩))

end Go.Proofs.Ytiiljfpbcanphaa.G

/- impl.leader, as a pure function. -/
set_option linter.unusedVariables false
namespace Go.Proofs.Ytiiljfpbcanphaa.G
open Go Go.Sx Go.Proofs

def impl_leader.f (row_1 : List Int) : Option Int := (G.slices_IndexFunc_int64_int64.f row_1 G.impl_leader_1.f).bind (fun r_1 => some r_1)

def impl_leader.R (r : Int) (v : Value) (L : List Asn) : Prop := v = .int .i64 r ∧ L = []

set_option maxRecDepth 100000 in
set_option maxHeartbeats 4000000 in
theorem impl_leader.calls (w : World) (s1 : SV) (row_1 : List Int) (h1 : Reads Ei (hp w) s1 row_1) :
    ∀ r, impl_leader.f row_1 = some r → Calls Try.prog 194 #[SV.v s1] w (Ret w (impl_leader.R r)) := by

  refine calls_T (n := 5) (Γ := [(0, SV.v s1)]) (R := impl_leader.R) Try.func194 rfl rfl (Nat.le_of_ble_eq_true rfl) ⟨rfl, trivial⟩ ?_
  unfold impl_leader.f
  refine TC.seq ?_
  refine TC.region ?_
  refine TL.assign rfl rfl (v := .int .i64 0) rfl ?_
  refine TL.done ?_
  refine TC.seq ?_
  refine TC.region ?_
  refine TL.move rfl rfl (v := SV.v s1) rfl ?_
  refine TL.call (R := G.slices_IndexFunc_int64_int64.R) Try.call150 rfl rfl rfl (fun w hS => G.slices_IndexFunc_int64_int64.calls w s1 row_1 202 [] [] G.impl_leader_1.f ((Rd.old h1) w hS) Try.call202 (fun w_ hle_ x0_ r_ hr_ => G.impl_leader_1.calls w_ x0_ r_ hr_)) ?_
  rintro r_1 _ _ ⟨rfl, rfl⟩
  refine TL.assign rfl rfl (v := .int .i64 r_1) rfl ?_
  refine TL.done ?_
  exact TC.retF (Fin.body (fin1 (.inr rfl) rfl (.tmp rfl) [] rfl ⟨rfl, rfl⟩))

end Go.Proofs.Ytiiljfpbcanphaa.G

/- impl.solve, as a pure function. -/
set_option linter.unusedVariables false
namespace Go.Proofs.Ytiiljfpbcanphaa.G
open Go Go.Sx Go.Proofs

def impl_solve.b0 (r_1 : List (List Int)) (n_1 : Int) : (List Int) × Int → Option (LR ((List Int) × Int) ((List Int) × Bool)) := fun p => match p with | (out1, x1) => (bif (decide (x1 < (r_1.length : Int))) then chk x1 r_1.length ((G.impl_leader.f (gt r_1 x1)).bind (fun r_2 => (bif (r_2 == n_1) then some (.ret ((([] : List Int), false))) else chk n_1 ((gt r_1 x1).length) (chk r_2 out1.length (some (.next ((out1.set r_2.toNat (gt (gt r_1 x1) n_1)), (w64 (x1 + 1))))))))) else some (.brk (out1, x1)))

def impl_solve.f (rows1 : List (List Int)) (n_1 : Int) (p1 : Int) : Option ((List Int) × Bool) := grd (decide (0 ≤ n_1)) (small n_1.toNat ((G.impl_reduce.f rows1 p1).bind (fun r_1 => (loop (impl_solve.b0 r_1 n_1) ((List.replicate n_1.toNat (0 : Int)), 0)).bind (ln (fun p => match p with | (out1, x1) => some (out1, true))))))

def impl_solve.R (r : (List Int) × Bool) (v : Value) (L : List Asn) : Prop := ∃ (s0 : SV), v = .tuple #[SV.v s0, .bool r.2] ∧ L = [row Ei 2 s0 r.1, emp]

set_option maxRecDepth 100000 in
set_option maxHeartbeats 4000000 in
theorem impl_solve.calls (w0 : World) (I : Hp) (w : World) (s1 : SV) (ss1 : List SV) (rows1 : List (List Int)) (n_1 : Int) (p1 : Int) (hS : St w0 I [mat Ei 2 22 s1 ss1 rows1] w) :
    ∀ r, impl_solve.f rows1 n_1 p1 = some r → Calls Try.prog 186 #[SV.v s1, .int .i64 n_1, .int .i64 p1] w (RetM w0 I ((impl_solve.R) r)) := by

  refine calls_TM (w0 := w0) (I := I) (L := [mat Ei 2 22 s1 ss1 rows1]) (n := 36) (Γ := [(0, SV.v s1), (1, .int .i64 n_1), (2, .int .i64 p1)]) (R := (impl_solve.R)) Try.func186 rfl rfl (Nat.le_of_ble_eq_true rfl) ⟨rfl, rfl, rfl, trivial⟩ ?_ w hS
  unfold impl_solve.f
  refine TC.seq ?_
  refine TC.region ?_
  refine TL.assign rfl rfl (v := SV.v ⟨none, 0, 0⟩) rfl ?_
  refine TL.assign rfl rfl (v := .bool false) rfl ?_
  refine TL.done ?_
  refine TC.seq ?_
  refine TC.region ?_
  refine TL.move rfl rfl (v := .int .i64 n_1) rfl ?_
  refine TL.grd fun h2 => ?_
  refine TL.small fun h1 => ?_
  refine TL.mkslice Ei (0 : Int) n_1 Try.underlying22 (info_of Try.type2) (zv := (Try.t2.zero.getD (.bool false))) rfl rfl rfl (by simp [Ei, flat, Seg.cells]) (by decide) (by simpa using h2) (by omega) rfl rfl rfl rfl fun s2 => ?_
  refine TL.assign rfl rfl (v := SV.v s2) rfl ?_
  refine TL.done ?_
  refine TC.seq ?_
  refine TC.seq ?_
  refine TC.region ?_
  refine TL.move rfl rfl (v := SV.v s1) rfl ?_
  refine TL.move rfl rfl (v := .int .i64 p1) rfl ?_
  refine TL.callX (R := G.impl_reduce.R) [1, 0] [mat Ei 2 22 s1 ss1 rows1] [row Ei 2 s2 (List.replicate n_1.toNat (0 : Int))] rfl Try.call193 rfl rfl rfl (fun w I_ hle hB hS => G.impl_reduce.calls _ I_ w s1 ss1 rows1 p1 hS) ?_
  rintro r_1 _ _ ⟨s3, ss2, rfl, rfl⟩
  refine TL.lenM (RdM.mat 0 rfl) Try.underlying32 rfl rfl rfl ?_
  refine TL.move rfl rfl (v := .int .i64 0) rfl ?_
  refine TL.done ?_
  refine TC.loopK (σ := (List Int) × Int) (γ := Unit) (Γ' := (fun p q => match p, q with | (out1, x1), _ => [(1, .int .i64 n_1), (8, SV.v s2), (16, SV.v s3), (17, .int .i64 (r_1.length : Int)), (18, .int .i64 x1)])) (L' := (fun p q => match p, q with | (out1, x1), _ => [row Ei 2 s2 out1, mat Ei 2 22 s3 ss2 r_1])) (Γb := (fun p q => match p, q with | (out1, x1), _ => [(1, .int .i64 n_1), (8, SV.v s2), (16, SV.v s3), (17, .int .i64 (r_1.length : Int)), (18, .int .i64 x1)])) (Lb := (fun p q => match p, q with | (out1, x1), _ => [row Ei 2 s2 out1, mat Ei 2 22 s3 ss2 r_1])) (((List.replicate n_1.toNat (0 : Int)), 0)) (()) ⟨rfl, rfl, rfl, rfl, rfl, trivial⟩ [2, 0] rfl ?_ ?_
  · rintro ⟨out1, x1⟩ _
    refine TC.seq ?_
    refine TC.region ?_
    refine TL.bin .i64 x1 (r_1.length : Int) rfl rfl rfl rfl (v := .bool (decide (x1 < (r_1.length : Int)))) rfl ?_
    refine TL.done ?_
    refine TC.seq ?_
    refine TC.cond (b := (decide (x1 < (r_1.length : Int)))) rfl (fun c1 => ?_) (fun c2 => ?_)
    · refine TC.skip ?_
      refine TC.seq ?_
      refine TC.block (NoEx.loop rfl NoEx.body) ?_
      refine TC.seq ?_
      refine TC.region ?_
      refine TL.chk fun h3 => ?_
      refine TL.ixsM x1 x1.toNat (RdM.mat 1 rfl) h3 Try.underlying32 Try.sizeOf22 rfl rfl rfl rfl (by omega) ?_
      refine TL.loadM2 (RdM.mat 1 rfl) Try.isAgg22 x1 h3 (by omega) rfl rfl rfl ?_
      refine TL.assign rfl rfl (v := SV.v (gt ss2 x1)) rfl ?_
      refine TL.done ?_
      refine TC.seq ?_
      refine TC.region ?_
      refine TL.move rfl rfl (v := SV.v (gt ss2 x1)) rfl ?_
      refine TL.call (R := G.impl_leader.R) Try.call194 rfl rfl rfl (fun w hS => G.impl_leader.calls w (gt ss2 x1) (gt r_1 x1) ((RdM.inn (RdM.mat 1 rfl) h3) w hS)) ?_
      rintro r_2 _ _ ⟨rfl, rfl⟩
      refine TL.assign rfl rfl (v := .int .i64 r_2) rfl ?_
      refine TL.done ?_
      refine TC.seq ?_
      refine TC.seq ?_
      refine TC.region ?_
      refine TL.move rfl rfl (v := .int .i64 r_2) rfl ?_
      refine TL.move rfl rfl (v := .int .i64 n_1) rfl ?_
      refine TL.bin .i64 r_2 n_1 rfl rfl rfl rfl (v := .bool (r_2 == n_1)) rfl ?_
      refine TL.done ?_
      refine TC.cond (b := (r_2 == n_1)) rfl (fun c3 => ?_) (fun c4 => ?_)
      · refine TC.seq ?_
        refine TC.region ?_
        refine TL.assign rfl rfl (v := SV.v ⟨none, 0, 0⟩) rfl ?_
        refine TL.assign rfl rfl (v := .bool false) rfl ?_
        refine TL.done ?_
        refine TC.nilrow Ei 2 ?_
        refine TC.mkemp ?_
        exact TC.retF (Fin.loop Far.ret (Fin.body (fin2 (.inr rfl) rfl (.tmp rfl) (.tmp rfl) [1, 0] rfl ⟨⟨none, 0, 0⟩, rfl, rfl⟩)))
      · refine TC.skip ?_
        refine TC.region ?_
        refine TL.move rfl rfl (v := SV.v s2) rfl ?_
        refine TL.move rfl rfl (v := .int .i64 r_2) rfl ?_
        refine TL.move rfl rfl (v := SV.v (gt ss2 x1)) rfl ?_
        refine TL.move rfl rfl (v := .int .i64 n_1) rfl ?_
        refine TL.chk fun h4 => ?_
        refine TL.ixs n_1 n_1.toNat (RdM.inn (RdM.mat 1 rfl) h3) h4 Try.underlying22 Try.sizeOf2 rfl rfl rfl rfl (by omega) ?_
        refine TL.loadE (RdM.inn (RdM.mat 1 rfl) h3) Try.isAgg2 n_1.toNat 0 (gt_spec h4) (v := .int .i64 (gt (gt r_1 x1) n_1)) rfl (by simp only [show Ei.sz = 1 from rfl] <;> omega) rfl rfl rfl ?_
        refine TL.chk fun h5 => ?_
        refine TL.ixs r_2 r_2.toNat (Rd.row 0 rfl) h5 Try.underlying22 Try.sizeOf2 rfl rfl rfl rfl (by omega) ?_
        refine TL.stE 0 (r_2.toNat) (gt (gt r_1 x1) n_1) (v := .int .i64 (gt (gt r_1 x1) n_1)) rfl Try.sizeOf2 rfl rfl rfl (by have h_ := h5; omega) (by simp only [show Ei.sz = 1 from rfl] <;> omega) rfl rfl rfl ?_
        refine TL.done ?_
        refine TC.region ?_
        refine TL.bin .i64 x1 1 rfl rfl rfl rfl (v := .int .i64 (w64 (x1 + 1))) rfl ?_
        refine TL.move rfl rfl (v := .int .i64 (w64 (x1 + 1))) rfl ?_
        refine TL.done ?_
        exact TC.next (((out1.set r_2.toNat (gt (gt r_1 x1) n_1)), (w64 (x1 + 1)))) (()) ⟨rfl, rfl, rfl, rfl, rfl, trivial⟩ [0, 0] rfl
    · exact TC.brk ((out1, x1)) (()) ⟨rfl, rfl, rfl, rfl, rfl, trivial⟩ [0, 0] rfl
  · rintro ⟨out1, x1⟩ _
    refine TC.seq ?_
    refine TC.region ?_
    refine TL.move rfl rfl (v := SV.v s2) rfl ?_
    refine TL.assign rfl rfl (v := SV.v s2) rfl ?_
    refine TL.assign rfl rfl (v := .bool true) rfl ?_
    refine TL.done ?_
    refine TC.mkemp ?_
    exact TC.retF (Fin.body (fin2 (.inr rfl) rfl (.tmp rfl) (.tmp rfl) [1, 0] rfl ⟨s2, rfl, rfl⟩))

end Go.Proofs.Ytiiljfpbcanphaa.G

/- impl.vector, as a pure function. -/
set_option linter.unusedVariables false
namespace Go.Proofs.Ytiiljfpbcanphaa.G
open Go Go.Sx Go.Proofs

def impl_vector.b0 (row_1 : List Int) : (Nat → UInt8) × Int → Option (LB ((Nat → UInt8) × Int)) := fun p => match p with | (v_1, x1) => (bif (decide (x1 < (row_1.length : Int))) then chk x1 row_1.length (chk x1 6 (some (.next ((upd v_1 x1.toNat (UInt8.ofInt (gt row_1 x1))), (w64 (x1 + 1)))))) else some (.brk (v_1, x1)))

def impl_vector.f (row_1 : List Int) : Option (Nat → UInt8) := (loop1 (impl_vector.b0 row_1) ((fun _ => (0 : UInt8)), 0)).bind (fun p => match p with | (v_1, x1) => some v_1)

def impl_vector.R (r : Nat → UInt8) (v : Value) (L : List Asn) : Prop := v = sval [.arr 6 (enf u8v r)] ∧ L = []

set_option maxRecDepth 100000 in
set_option maxHeartbeats 4000000 in
theorem impl_vector.calls (w : World) (s1 : SV) (row_1 : List Int) (h1 : Reads Ei (hp w) s1 row_1) :
    ∀ r, impl_vector.f row_1 = some r → Calls Try.prog 187 #[SV.v s1] w (Ret w (impl_vector.R r)) := by

  refine calls_T (n := 20) (Γ := [(0, SV.v s1)]) (R := impl_vector.R) Try.func187 rfl rfl (Nat.le_of_ble_eq_true rfl) ⟨rfl, trivial⟩ ?_
  unfold impl_vector.f
  refine TC.seq ?_
  refine TC.region ?_
  refine TL.alloc [.arr 6 (enf u8v (fun _ => (0 : UInt8)))] rfl rfl Try.zeroValue41 rfl fun b_1 => ?_
  refine TL.done ?_
  refine TC.seq ?_
  refine TC.region ?_
  refine TL.buildA (segs0 := [.arr 6 (enf u8v (fun _ => (0 : UInt8)))]) (segs := [.arr 6 (enf u8v (fun _ => (0 : UInt8)))]) Try.underlying41 Try.sizeOf5 Try.zeroValue41 rfl [] rfl rfl rfl rfl ?_
  refine TL.alloc [.arr 6 (enf u8v (fun _ => (0 : UInt8)))] rfl rfl Try.zeroValue41 rfl fun b_2 => ?_
  refine TL.stM (news := [.arr 6 (enf u8v (fun _ => (0 : UInt8)))]) 0 0 1 rfl Try.sizeOf41 (ones_arr (fun _ => rfl) ones_nil) rfl rfl rfl rfl rfl rfl ?_
  refine TL.done ?_
  refine TC.seq ?_
  refine TC.seq ?_
  refine TC.region ?_
  refine TL.move rfl rfl (v := SV.v s1) rfl ?_
  refine TL.len (Rd.old h1) Try.underlying22 rfl rfl rfl ?_
  refine TL.move rfl rfl (v := .int .i64 0) rfl ?_
  refine TL.done ?_
  refine TC.loop1 (σ := (Nat → UInt8) × Int) (γ := Unit) (Γ' := (fun p q => match p, q with | (v_1, x1), _ => [(2, bp b_1 0), (3, bp b_2 0), (7, SV.v s1), (8, .int .i64 (row_1.length : Int)), (9, .int .i64 x1)])) (L' := (fun p q => match p, q with | (v_1, x1), _ => [box b_1 41 [.arr 6 (enf u8v (fun _ => (0 : UInt8)))], box b_2 41 [.arr 6 (enf u8v v_1)]])) (Γb := (fun p q => match p, q with | (v_1, x1), _ => [(2, bp b_1 0), (3, bp b_2 0), (7, SV.v s1), (8, .int .i64 (row_1.length : Int)), (9, .int .i64 x1)])) (Lb := (fun p q => match p, q with | (v_1, x1), _ => [box b_1 41 [.arr 6 (enf u8v (fun _ => (0 : UInt8)))], box b_2 41 [.arr 6 (enf u8v v_1)]])) (((fun _ => (0 : UInt8)), 0)) (()) ⟨rfl, rfl, rfl, rfl, rfl, trivial⟩ [1, 0] rfl ?_ ?_
  · rintro ⟨v_1, x1⟩ _
    refine TC.seq ?_
    refine TC.region ?_
    refine TL.bin .i64 x1 (row_1.length : Int) rfl rfl rfl rfl (v := .bool (decide (x1 < (row_1.length : Int)))) rfl ?_
    refine TL.done ?_
    refine TC.seq ?_
    refine TC.cond (b := (decide (x1 < (row_1.length : Int)))) rfl (fun c1 => ?_) (fun c2 => ?_)
    · refine TC.skip ?_
      refine TC.seq ?_
      refine TC.block (NoEx.loop1 rfl) ?_
      refine TC.seq ?_
      refine TC.region ?_
      refine TL.move rfl rfl (v := .int .i64 x1) rfl ?_
      refine TL.chk fun h2 => ?_
      refine TL.ixs x1 x1.toNat (Rd.old h1) h2 Try.underlying22 Try.sizeOf2 rfl rfl rfl rfl (by omega) ?_
      refine TL.loadE (Rd.old h1) Try.isAgg2 x1.toNat 0 (gt_spec h2) (v := .int .i64 (gt row_1 x1)) rfl (by simp only [show Ei.sz = 1 from rfl] <;> omega) rfl rfl rfl ?_
      refine TL.assign rfl rfl (v := .int .i64 x1) rfl ?_
      refine TL.assign rfl rfl (v := .int .i64 (gt row_1 x1)) rfl ?_
      refine TL.done ?_
      refine TC.region ?_
      refine TL.move rfl rfl (v := .int .i64 x1) rfl ?_
      refine TL.move rfl rfl (v := .int .i64 (gt row_1 x1)) rfl ?_
      refine TL.conv .i64 .u8 (gt row_1 x1) _ rfl rfl rfl Try.underlying2 Try.underlying5 (v := u8v (UInt8.ofInt (gt row_1 x1))) (conv_i64_u8 _) ?_
      refine TL.chk fun h3 => ?_
      refine TL.ixa x1 x1.toNat h3 Try.underlying41 Try.sizeOf5 rfl rfl rfl rfl (by omega) ?_
      refine TL.stA (e := u8v) (z := (UInt8.ofInt (gt row_1 x1))) 1 0 x1.toNat rfl Try.sizeOf5 rfl (by omega) (s := 0) rfl (by omega) rfl rfl rfl rfl rfl ?_
      refine TL.done ?_
      refine TC.region ?_
      refine TL.bin .i64 x1 1 rfl rfl rfl rfl (v := .int .i64 (w64 (x1 + 1))) rfl ?_
      refine TL.move rfl rfl (v := .int .i64 (w64 (x1 + 1))) rfl ?_
      refine TL.done ?_
      exact TC.next1 (((upd v_1 x1.toNat (UInt8.ofInt (gt row_1 x1))), (w64 (x1 + 1)))) (()) ⟨rfl, rfl, rfl, rfl, rfl, trivial⟩ [0, 0] rfl
    · exact TC.brk1 ((v_1, x1)) (()) ⟨rfl, rfl, rfl, rfl, rfl, trivial⟩ [0, 0] rfl
  · rintro ⟨v_1, x1⟩ _
    refine TC.seq ?_
    refine TC.region ?_
    refine TL.loadM 0 1 (Src.box 1 rfl) Try.isAgg41 Try.sizeOf41 (mid := [.arr 6 (enf u8v v_1)]) rfl rfl rfl rfl rfl rfl ?_
    refine TL.stM (news := [.arr 6 (enf u8v v_1)]) 0 0 1 rfl Try.sizeOf41 (ones_arr (fun _ => rfl) ones_nil) rfl rfl rfl rfl rfl rfl ?_
    refine TL.done ?_
    exact TC.retF (Fin.body (fin1 (.inr rfl) rfl (.cellN rfl (Src.box 0 rfl) Try.isAgg41 Try.sizeOf41 rfl) [] rfl ⟨rfl, rfl⟩))

end Go.Proofs.Ytiiljfpbcanphaa.G

/- impl.Algebra).solved, as a pure function. -/
set_option linter.unusedVariables false
namespace Go.Proofs.Ytiiljfpbcanphaa.G
open Go Go.Sx Go.Proofs

def impl_Algebra_solved.b0 (r_1 : List (List Int)) (a_1 : Int) (a_2 : Int) (a_3 : Nat → UInt8) (a_4 : Nat → UInt8) (targets1 : List (Nat → UInt8)) : (List (List Int)) × Int → Option (LB ((List (List Int)) × Int)) := fun p => match p with | (rows1, x1) => (bif (decide (x1 < (r_1.length : Int))) then chk x1 rows1.length ((G.impl_Algebra_n.f a_1 a_2 a_3 a_4).bind (fun r_2 => nz r_2 (chk (w64 (Int.tdiv x1 r_2)) targets1.length (chk (Int.tmod x1 r_2) 6 (small ((gt rows1 x1).length + ([(((gt targets1 (w64 (Int.tdiv x1 r_2))) ((Int.tmod x1 r_2).toNat)).toNat : Int)] : List Int).length) (some (.next ((rows1.set x1.toNat ((gt rows1 x1) ++ ([(((gt targets1 (w64 (Int.tdiv x1 r_2))) ((Int.tmod x1 r_2).toNat)).toNat : Int)] : List Int))), (w64 (x1 + 1)))))))))) else some (.brk (rows1, x1)))

def impl_Algebra_solved.f (a_1 : Int) (a_2 : Int) (a_3 : Nat → UInt8) (a_4 : Nat → UInt8) (targets1 : List (Nat → UInt8)) (maps1 : List ((Nat → UInt8) → Option (Nat → UInt8))) : Option ((Nat → UInt8) × Bool) := (G.impl_Algebra_equations.f a_1 a_2 a_3 a_4 maps1).bind (fun r_1 => (loop1 (impl_Algebra_solved.b0 r_1 a_1 a_2 a_3 a_4 targets1) (r_1, 0)).bind (fun p => match p with | (rows1, x1) => (G.impl_Algebra_n.f a_1 a_2 a_3 a_4).bind (fun r_4 => (G.impl_solve.f rows1 r_4 a_1).bind (fun p => match p with | (r_5, r_6) => (G.impl_vector.f r_5).bind (fun r_7 => some (r_7, r_6))))))

def impl_Algebra_solved.R (r : (Nat → UInt8) × Bool) (v : Value) (L : List Asn) : Prop := v = .tuple #[sval [.arr 6 (enf u8v r.1)], .bool r.2] ∧ L = []

set_option maxRecDepth 100000 in
set_option maxHeartbeats 4000000 in
theorem impl_Algebra_solved.calls (w : World) (b_1 : Nat) (a_1 : Int) (a_2 : Int) (a_3 : Nat → UInt8) (a_4 : Nat → UInt8) (s1 : SV) (targets1 : List (Nat → UInt8)) (s2 : SV) (ss1 : List FV) (maps1 : List ((Nat → UInt8) → Option (Nat → UInt8))) (h1 : At (hp w) b_1 [.one (.int .i64 a_1), .one (.int .i64 a_2), .arr 216 (enf u8v a_3), .arr 6 (enf u8v a_4)]) (h2 : Reads (Evec 6) (hp w) s1 targets1) (h3 : ReadsF Try.prog (hp w) s2 ss1 maps1) :
    ∀ r, impl_Algebra_solved.f a_1 a_2 a_3 a_4 targets1 maps1 = some r → Calls Try.prog 163 #[bp b_1 0, SV.v s1, SV.v s2] w (Ret w (impl_Algebra_solved.R r)) := by

  refine calls_T (n := 57) (Γ := [(0, bp b_1 0), (1, SV.v s1), (2, SV.v s2)]) (R := impl_Algebra_solved.R) Try.func163 rfl rfl (Nat.le_of_ble_eq_true rfl) ⟨rfl, rfl, rfl, trivial⟩ ?_
  unfold impl_Algebra_solved.f
  refine TC.seq ?_
  refine TC.region ?_
  refine TL.alloc [.arr 6 (enf u8v (fun _ => (0 : UInt8)))] rfl rfl Try.zeroValue41 rfl fun b_2 => ?_
  refine TL.assign rfl rfl (v := .bool false) rfl ?_
  refine TL.done ?_
  refine TC.seq ?_
  refine TC.region ?_
  refine TL.move rfl rfl (v := bp b_1 0) rfl ?_
  refine TL.move rfl rfl (v := SV.v s2) rfl ?_
  refine TL.call (R := G.impl_Algebra_equations.R) Try.call185 rfl rfl rfl (fun w hS => G.impl_Algebra_equations.calls w b_1 a_1 a_2 a_3 a_4 s2 ss1 maps1 ((Src.at h1) w hS) (h3.mono hS.iw)) ?_
  rintro r_1 _ _ ⟨s3, ss2, rfl, rfl⟩
  refine TL.assign rfl rfl (v := SV.v s3) rfl ?_
  refine TL.done ?_
  refine TC.seq ?_
  refine TC.seq ?_
  refine TC.region ?_
  refine TL.move rfl rfl (v := SV.v s3) rfl ?_
  refine TL.lenM (RdM.mat 0 rfl) Try.underlying32 rfl rfl rfl ?_
  refine TL.move rfl rfl (v := .int .i64 0) rfl ?_
  refine TL.done ?_
  refine TC.loop1 (σ := (List (List Int)) × Int) (γ := (List SV)) (Γ' := (fun p q => match p, q with | (rows1, x1), ss3 => [(0, bp b_1 0), (1, SV.v s1), (6, bp b_2 0), (8, SV.v s3), (16, .int .i64 (r_1.length : Int)), (17, .int .i64 x1)])) (L' := (fun p q => match p, q with | (rows1, x1), ss3 => [box b_2 41 [.arr 6 (enf u8v (fun _ => (0 : UInt8)))], mat Ei 2 22 s3 ss3 rows1])) (Γb := (fun p q => match p, q with | (rows1, x1), ss3 => [(0, bp b_1 0), (1, SV.v s1), (6, bp b_2 0), (8, SV.v s3), (16, .int .i64 (r_1.length : Int)), (17, .int .i64 x1)])) (Lb := (fun p q => match p, q with | (rows1, x1), ss3 => [box b_2 41 [.arr 6 (enf u8v (fun _ => (0 : UInt8)))], mat Ei 2 22 s3 ss3 rows1])) ((r_1, 0)) (ss2) ⟨rfl, rfl, rfl, rfl, rfl, rfl, trivial⟩ [1, 0] rfl ?_ ?_
  · rintro ⟨rows1, x1⟩ ss3
    refine TC.seq ?_
    refine TC.region ?_
    refine TL.bin .i64 x1 (r_1.length : Int) rfl rfl rfl rfl (v := .bool (decide (x1 < (r_1.length : Int)))) rfl ?_
    refine TL.done ?_
    refine TC.seq ?_
    refine TC.cond (b := (decide (x1 < (r_1.length : Int)))) rfl (fun c1 => ?_) (fun c2 => ?_)
    · refine TC.skip ?_
      refine TC.seq ?_
      refine TC.block (NoEx.loop1 rfl) ?_
      refine TC.seq ?_
      refine TC.region ?_
      refine TL.move rfl rfl (v := .int .i64 x1) rfl ?_
      refine TL.assign rfl rfl (v := .int .i64 x1) rfl ?_
      refine TL.done ?_
      refine TC.wk (Γ' := [(0, bp b_1 0), (1, SV.v s1), (6, bp b_2 0), (8, SV.v s3), (16, .int .i64 (r_1.length : Int)), (17, .int .i64 x1), (18, .bool (decide (x1 < (r_1.length : Int)))), (19, .int .i64 x1), (9, .int .i64 x1)]) ⟨rfl, rfl, rfl, rfl, rfl, rfl, rfl, rfl, rfl, trivial⟩ ?_
      refine TC.chk fun h4 => ?_
      refine TC.bindE ?_
      rintro r_2 hr1
      refine TC.nz fun z1 => ?_
      refine TC.chk fun h5 => ?_
      refine TC.chk fun h6 => ?_
      refine TC.small fun h7 => ?_
      refine TC.drawG [(0, bp b_1 0), (1, SV.v s1), (6, bp b_2 0), (8, SV.v s3), (16, .int .i64 (r_1.length : Int)), (17, .int .i64 x1), (18, .bool (decide (x1 < (r_1.length : Int)))), (19, .int .i64 x1), (9, .int .i64 x1)] [] ⟨rfl, rfl, rfl, rfl, rfl, rfl, rfl, rfl, rfl, trivial⟩ trivial (fun l_ g1 => [box b_2 41 [.arr 6 (enf u8v (fun _ => (0 : UInt8)))], (bif nb l_ 22 then mat Ei 2 22 s3 (ss3.set x1.toNat (gs (g1 160))) (rows1.set x1.toNat ((gt rows1 x1) ++ ([(((gt targets1 (w64 (Int.tdiv x1 r_2))) ((Int.tmod x1 r_2).toNat)).toNat : Int)] : List Int))) else (bif nb l_ 20 then matX Ei 2 22 x1.toNat s3 ss3 rows1 else mat Ei 2 22 s3 ss3 rows1)), (bif nb l_ 19 then row Ei 2 (gs (g1 152)) ([(((gt targets1 (w64 (Int.tdiv x1 r_2))) ((Int.tmod x1 r_2).toNat)).toNat : Int)] : List Int) else emp), (bif nb l_ 22 then emp else (bif nb l_ 20 then row Ei 2 (gs (g1 160)) ((gt rows1 x1) ++ ([(((gt targets1 (w64 (Int.tdiv x1 r_2))) ((Int.tmod x1 r_2).toNat)).toNat : Int)] : List Int)) else emp))]) (fun g1 => [SV.v s3, .int .i64 x1, SV.v s3, .int .i64 x1, ep s3 x1.toNat, SV.v (gt ss3 x1), SV.v s1, .int .i64 x1, bp b_1 0, .int .i64 r_2, .int .i64 (w64 (Int.tdiv x1 r_2)), .int .i64 x1, bp b_1 0, .int .i64 r_2, .int .i64 (Int.tmod x1 r_2), ep s1 ((w64 (Int.tdiv x1 r_2)).toNat * 6), ep s1 ((w64 (Int.tdiv x1 r_2)).toNat * 6 + (Int.tmod x1 r_2).toNat), u8v ((gt targets1 (w64 (Int.tdiv x1 r_2))) ((Int.tmod x1 r_2).toNat)), .int .i64 (((gt targets1 (w64 (Int.tdiv x1 r_2))) ((Int.tmod x1 r_2).toNat)).toNat : Int), SV.v (gs (g1 152)), SV.v (gs (g1 160)), ep s3 x1.toNat, undef]) [[], [], [], [], [2, 3], [2, 3, 4], [], [], [], [8], [7, 8, 9], [], [], [8, 9, 12], [8, 9, 11, 12, 13], [6, 7, 8, 9, 10], [6, 7, 8, 9, 10, 11, 12, 13, 14, 15], [6, 7, 8, 9, 10, 11, 12, 13, 14, 15, 16], [6, 7, 8, 9, 10, 11, 12, 13, 14, 15, 16, 17], [6, 7, 8, 9, 10, 11, 12, 13, 14, 15, 16, 17, 18], [2, 3, 4, 5, 6, 7, 8, 9, 10, 11, 12, 13, 14, 15, 16, 17, 18, 19], [0, 1, 2, 3, 4, 5, 6, 7, 8, 9, 10, 11, 12, 13, 14, 15, 16, 17, 18, 19, 20], [0, 1, 2, 3, 4, 5, 6, 7, 8, 9, 10, 11, 12, 13, 14, 15, 16, 17, 18, 19, 20, 21]] [[some false, none, none, none, none, none, none, none, none, none, none, none, none, none, none, none, none, none, none, none, none, some false, some false], [none, some false, none, none, none, none, none, none, none, none, none, none, none, none, none, none, none, none, none, none, none, some false, some false], [none, none, some false, none, some false, some false, none, none, none, none, none, none, none, none, none, none, none, none, none, none, some false, some false, some false], [none, none, none, some false, some false, some false, none, none, none, none, none, none, none, none, none, none, none, none, none, none, some false, some false, some false], [none, none, some true, some true, some false, some false, none, none, none, none, none, none, none, none, none, none, none, none, none, none, some false, some false, some false], [none, none, some true, some true, some true, some false, none, none, none, none, none, none, none, none, none, none, none, none, none, none, some false, some false, some false], [none, none, none, none, none, none, some false, none, none, none, none, none, none, none, none, some false, some false, some false, some false, some false, some false, some false, some false], [none, none, none, none, none, none, none, some false, none, none, some false, none, none, none, none, some false, some false, some false, some false, some false, some false, some false, some false], [none, none, none, none, none, none, none, none, some false, some false, some false, none, none, some false, some false, some false, some false, some false, some false, some false, some false, some false, some false], [none, none, none, none, none, none, none, none, some true, some false, some false, none, none, some false, some false, some false, some false, some false, some false, some false, some false, some false, some false], [none, none, none, none, none, none, none, some true, some true, some true, some false, none, none, none, none, some false, some false, some false, some false, some false, some false, some false, some false], [none, none, none, none, none, none, none, none, none, none, none, some false, none, none, some false, none, some false, some false, some false, some false, some false, some false, some false], [none, none, none, none, none, none, none, none, none, none, none, none, some false, some false, some false, none, some false, some false, some false, some false, some false, some false, some false], [none, none, none, none, none, none, none, none, some true, some true, none, none, some true, some false, some false, none, some false, some false, some false, some false, some false, some false, some false], [none, none, none, none, none, none, none, none, some true, some true, none, some true, some true, some true, some false, none, some false, some false, some false, some false, some false, some false, some false], [none, none, none, none, none, none, some true, some true, some true, some true, some true, none, none, none, none, some false, some false, some false, some false, some false, some false, some false, some false], [none, none, none, none, none, none, some true, some true, some true, some true, some true, some true, some true, some true, some true, some true, some false, some false, some false, some false, some false, some false, some false], [none, none, none, none, none, none, some true, some true, some true, some true, some true, some true, some true, some true, some true, some true, some true, some false, some false, some false, some false, some false, some false], [none, none, none, none, none, none, some true, some true, some true, some true, some true, some true, some true, some true, some true, some true, some true, some true, some false, some false, some false, some false, some false], [none, none, none, none, none, none, some true, some true, some true, some true, some true, some true, some true, some true, some true, some true, some true, some true, some true, some false, some false, some false, some false], [none, none, some true, some true, some true, some true, some true, some true, some true, some true, some true, some true, some true, some true, some true, some true, some true, some true, some true, some true, some false, some false, some false], [some true, some true, some true, some true, some true, some true, some true, some true, some true, some true, some true, some true, some true, some true, some true, some true, some true, some true, some true, some true, some true, some false, some false], [some true, some true, some true, some true, some true, some true, some true, some true, some true, some true, some true, some true, some true, some true, some true, some true, some true, some true, some true, some true, some true, some true, some false]] (by kernel_rfl) (fun _ => rfl) rfl rfl rfl rfl rfl (fun _ _ => ⟨⟨⟨⟨⟨⟨⟨⟨⟨⟨⟨⟨⟨⟨⟨⟨⟨⟨⟨⟨⟨⟨⟨trivial, rfl⟩, rfl⟩, rfl⟩, rfl⟩, rfl⟩, rfl⟩, rfl⟩, rfl⟩, rfl⟩, rfl⟩, rfl⟩, rfl⟩, rfl⟩, rfl⟩, rfl⟩, rfl⟩, rfl⟩, rfl⟩, rfl⟩, rfl⟩, rfl⟩, rfl⟩, rfl⟩) 2 [2, 2, 0, 0] (fun _ => by kernel_rfl) ?_ ?_
      · refine ⟨rfl, ?_, rfl, ?_, rfl, ?_, rfl, ?_, rfl, ?_, rfl, ?_, rfl, ?_, rfl, ?_, rfl, ?_, rfl, ?_, rfl, ?_, rfl, ?_, rfl, ?_, rfl, ?_, rfl, ?_, rfl, ?_, rfl, ?_, rfl, ?_, rfl, ?_, rfl, ?_, rfl, ?_, rfl, ?_, rfl, ?_, trivial⟩
        · intro b1_ b2_ b3_ b4_ b5_ b6_ b7_ b8_ b9_ b10_ b11_ b12_ b13_ b14_ b15_ b16_ b17_ b18_ b19_ b20_ g1
          refine TL.move rfl rfl (v := SV.v s3) rfl ?_
          refine TL.done ?_
          exact TC.nrm () [] ⟨rfl, trivial⟩ [0, 0, 0, 0] (by kernel_rfl)
        · intro b0_ b2_ b3_ b4_ b5_ b6_ b7_ b8_ b9_ b10_ b11_ b12_ b13_ b14_ b15_ b16_ b17_ b18_ b19_ b20_ g1
          refine TL.move rfl rfl (v := .int .i64 x1) rfl ?_
          refine TL.done ?_
          exact TC.nrm () [] ⟨rfl, trivial⟩ [0, 0, 0, 0] (by kernel_rfl)
        · intro b0_ b1_ b3_ b6_ b7_ b8_ b9_ b10_ b11_ b12_ b13_ b14_ b15_ b16_ b17_ b18_ b19_ g1
          refine TL.move rfl rfl (v := SV.v s3) rfl ?_
          refine TL.done ?_
          exact TC.nrm () [] ⟨rfl, trivial⟩ [0, 0, 0, 0] (by kernel_rfl)
        · intro b0_ b1_ b2_ b6_ b7_ b8_ b9_ b10_ b11_ b12_ b13_ b14_ b15_ b16_ b17_ b18_ b19_ g1
          refine TL.move rfl rfl (v := .int .i64 x1) rfl ?_
          refine TL.done ?_
          exact TC.nrm () [] ⟨rfl, trivial⟩ [0, 0, 0, 0] (by kernel_rfl)
        · intro b0_ b1_ b6_ b7_ b8_ b9_ b10_ b11_ b12_ b13_ b14_ b15_ b16_ b17_ b18_ b19_ g1
          refine TL.asL [box b_2 41 [.arr 6 (enf u8v (fun _ => (0 : UInt8)))], mat Ei 2 22 s3 ss3 rows1, (bif b19_ then row Ei 2 (gs (g1 152)) ([(((gt targets1 (w64 (Int.tdiv x1 r_2))) ((Int.tmod x1 r_2).toNat)).toNat : Int)] : List Int) else emp), emp] (by kernel_rfl) ?_
          refine TL.ixsM x1 x1.toNat (RdM.mat 1 rfl) h4 Try.underlying32 Try.sizeOf22 rfl rfl rfl rfl (by omega) ?_
          refine TL.done ?_
          exact TC.nrm () [] ⟨rfl, trivial⟩ [0, 0, 0, 0] (by kernel_rfl)
        · intro b0_ b1_ b6_ b7_ b8_ b9_ b10_ b11_ b12_ b13_ b14_ b15_ b16_ b17_ b18_ b19_ g1
          refine TL.asL [box b_2 41 [.arr 6 (enf u8v (fun _ => (0 : UInt8)))], mat Ei 2 22 s3 ss3 rows1, (bif b19_ then row Ei 2 (gs (g1 152)) ([(((gt targets1 (w64 (Int.tdiv x1 r_2))) ((Int.tmod x1 r_2).toNat)).toNat : Int)] : List Int) else emp), emp] (by kernel_rfl) ?_
          refine TL.loadM2 (RdM.mat 1 rfl) Try.isAgg22 x1 h4 (by omega) rfl rfl rfl ?_
          refine TL.done ?_
          exact TC.nrm () [] ⟨rfl, trivial⟩ [0, 0, 0, 0] (by kernel_rfl)
        · intro b0_ b1_ b2_ b3_ b4_ b5_ b7_ b8_ b9_ b10_ b11_ b12_ b13_ b14_ g1
          refine TL.move rfl rfl (v := SV.v s1) rfl ?_
          refine TL.done ?_
          exact TC.nrm () [] ⟨rfl, trivial⟩ [0, 0, 0, 0] (by kernel_rfl)
        · intro b0_ b1_ b2_ b3_ b4_ b5_ b6_ b8_ b9_ b11_ b12_ b13_ b14_ g1
          refine TL.move rfl rfl (v := .int .i64 x1) rfl ?_
          refine TL.done ?_
          exact TC.nrm () [] ⟨rfl, trivial⟩ [0, 0, 0, 0] (by kernel_rfl)
        · intro b0_ b1_ b2_ b3_ b4_ b5_ b6_ b7_ b11_ b12_ g1
          refine TL.move rfl rfl (v := bp b_1 0) rfl ?_
          refine TL.done ?_
          exact TC.nrm () [] ⟨rfl, trivial⟩ [0, 0, 0, 0] (by kernel_rfl)
        · intro b0_ b1_ b2_ b3_ b4_ b5_ b6_ b7_ b11_ b12_ g1
          refine TL.asL [box b_2 41 [.arr 6 (enf u8v (fun _ => (0 : UInt8)))], mat Ei 2 22 s3 ss3 rows1, emp, emp] (by kernel_rfl) ?_
          refine TL.callH (R := G.impl_Algebra_n.R) hr1 Try.call159 rfl rfl rfl (fun w hS => G.impl_Algebra_n.calls w b_1 a_1 a_2 a_3 a_4 ((Src.at h1) w hS)) ?_
          rintro _ _ ⟨rfl, rfl⟩
          refine TL.done ?_
          exact TC.nrm () [] ⟨rfl, trivial⟩ [0, 0, 0, 0] (by kernel_rfl)
        · intro b0_ b1_ b2_ b3_ b4_ b5_ b6_ b11_ b12_ b13_ b14_ g1
          refine TL.quo .i64 x1 r_2 z1 rfl rfl rfl rfl ?_
          refine TL.done ?_
          exact TC.nrm () [] ⟨rfl, trivial⟩ [0, 0, 0, 0] (by kernel_rfl)
        · intro b0_ b1_ b2_ b3_ b4_ b5_ b6_ b7_ b8_ b9_ b10_ b12_ b13_ b15_ g1
          refine TL.move rfl rfl (v := .int .i64 x1) rfl ?_
          refine TL.done ?_
          exact TC.nrm () [] ⟨rfl, trivial⟩ [0, 0, 0, 0] (by kernel_rfl)
        · intro b0_ b1_ b2_ b3_ b4_ b5_ b6_ b7_ b8_ b9_ b10_ b11_ b15_ g1
          refine TL.move rfl rfl (v := bp b_1 0) rfl ?_
          refine TL.done ?_
          exact TC.nrm () [] ⟨rfl, trivial⟩ [0, 0, 0, 0] (by kernel_rfl)
        · intro b0_ b1_ b2_ b3_ b4_ b5_ b6_ b7_ b10_ b11_ b15_ g1
          refine TL.asL [box b_2 41 [.arr 6 (enf u8v (fun _ => (0 : UInt8)))], mat Ei 2 22 s3 ss3 rows1, emp, emp] (by kernel_rfl) ?_
          refine TL.callH (R := G.impl_Algebra_n.R) hr1 Try.call159 rfl rfl rfl (fun w hS => G.impl_Algebra_n.calls w b_1 a_1 a_2 a_3 a_4 ((Src.at h1) w hS)) ?_
          rintro _ _ ⟨rfl, rfl⟩
          refine TL.done ?_
          exact TC.nrm () [] ⟨rfl, trivial⟩ [0, 0, 0, 0] (by kernel_rfl)
        · intro b0_ b1_ b2_ b3_ b4_ b5_ b6_ b7_ b10_ b15_ g1
          refine TL.rem .i64 x1 r_2 z1 rfl rfl rfl rfl ?_
          refine TL.done ?_
          exact TC.nrm () [] ⟨rfl, trivial⟩ [0, 0, 0, 0] (by kernel_rfl)
        · intro b0_ b1_ b2_ b3_ b4_ b5_ b11_ b12_ b13_ b14_ g1
          refine TL.asL [box b_2 41 [.arr 6 (enf u8v (fun _ => (0 : UInt8)))], mat Ei 2 22 s3 ss3 rows1, emp, emp] (by kernel_rfl) ?_
          refine TL.ixs (w64 (Int.tdiv x1 r_2)) ((w64 (Int.tdiv x1 r_2)).toNat * 6) (Rd.old h2) h5 Try.underlying137 Try.sizeOf41 rfl rfl rfl rfl (by omega) ?_
          refine TL.done ?_
          exact TC.nrm () [] ⟨rfl, trivial⟩ [0, 0, 0, 0] (by kernel_rfl)
        · intro b0_ b1_ b2_ b3_ b4_ b5_ g1
          refine TL.asL [box b_2 41 [.arr 6 (enf u8v (fun _ => (0 : UInt8)))], mat Ei 2 22 s3 ss3 rows1, emp, emp] (by kernel_rfl) ?_
          refine TL.ixe (Int.tmod x1 r_2) ((w64 (Int.tdiv x1 r_2)).toNat * 6 + (Int.tmod x1 r_2).toNat) (Rd.old h2) (by have h_ := h5; omega) h6 Try.underlying41 Try.sizeOf5 rfl rfl rfl rfl (by omega) ?_
          refine TL.done ?_
          exact TC.nrm () [] ⟨rfl, trivial⟩ [0, 0, 0, 0] (by kernel_rfl)
        · intro b0_ b1_ b2_ b3_ b4_ b5_ g1
          refine TL.asL [box b_2 41 [.arr 6 (enf u8v (fun _ => (0 : UInt8)))], mat Ei 2 22 s3 ss3 rows1, emp, emp] (by kernel_rfl) ?_
          refine TL.loadE (Rd.old h2) Try.isAgg5 (w64 (Int.tdiv x1 r_2)).toNat ((Int.tmod x1 r_2).toNat) (gt_spec h5) (v := u8v ((gt targets1 (w64 (Int.tdiv x1 r_2))) ((Int.tmod x1 r_2).toNat))) (Evec_at _ (by have h_ := h6; omega)) (by simp only [show (Evec 6).sz = 6 from rfl] <;> omega) rfl rfl rfl ?_
          refine TL.done ?_
          exact TC.nrm () [] ⟨rfl, trivial⟩ [0, 0, 0, 0] (by kernel_rfl)
        · intro b0_ b1_ b2_ b3_ b4_ b5_ g1
          refine TL.conv .u8 .i64 (((gt targets1 (w64 (Int.tdiv x1 r_2))) ((Int.tmod x1 r_2).toNat)).toNat : Int) _ rfl rfl rfl Try.underlying5 Try.underlying2 (v := .int .i64 (((gt targets1 (w64 (Int.tdiv x1 r_2))) ((Int.tmod x1 r_2).toNat)).toNat : Int)) (conv_u8_i64 _) ?_
          refine TL.done ?_
          exact TC.nrm () [] ⟨rfl, trivial⟩ [0, 0, 0, 0] (by kernel_rfl)
        · intro b0_ b1_ b2_ b3_ b4_ b5_ g1
          refine TL.asL [box b_2 41 [.arr 6 (enf u8v (fun _ => (0 : UInt8)))], mat Ei 2 22 s3 ss3 rows1, emp, emp] (by kernel_rfl) ?_
          refine TL.blit Ei ([(((gt targets1 (w64 (Int.tdiv x1 r_2))) ((Int.tmod x1 r_2).toNat)).toNat : Int)] : List Int) Try.underlying22 Try.sizeOf2 Try.zeroValue2 rfl rfl rfl [(0, .int .i64 (((gt targets1 (w64 (Int.tdiv x1 r_2))) ((Int.tmod x1 r_2).toNat)).toNat : Int))] rfl ⟨rfl, rfl, trivial⟩ rfl rfl fun s4 => ?_
          refine TL.done ?_
          exact TC.nrm () [[s4]] ⟨rfl, trivial⟩ [1, 1, 0, 1] (by kernel_rfl)
        · intro b0_ b1_ g1
          refine TL.asL [box b_2 41 [.arr 6 (enf u8v (fun _ => (0 : UInt8)))], mat Ei 2 22 s3 ss3 rows1, row Ei 2 (gs (g1 152)) ([(((gt targets1 (w64 (Int.tdiv x1 r_2))) ((Int.tmod x1 r_2).toNat)).toNat : Int)] : List Int), emp] (by kernel_rfl) ?_
          refine TL.matopen 1 x1 rfl h4 ?_
          refine TL.append 0 rfl (Rd.row 3 rfl) Try.underlying22 (info_of Try.type2) (zv := (Try.t2.zero.getD (.bool false))) rfl rfl rfl (by decide) h7 rfl rfl rfl rfl fun s5 => ?_
          refine TL.done ?_
          exact TC.nrm () [[s5]] ⟨rfl, trivial⟩ [1, 1, 1, 0] (by kernel_rfl)
        · intro g1
          refine TL.asL [box b_2 41 [.arr 6 (enf u8v (fun _ => (0 : UInt8)))], matX Ei 2 22 x1.toNat s3 ss3 rows1, row Ei 2 (gs (g1 152)) ([(((gt targets1 (w64 (Int.tdiv x1 r_2))) ((Int.tmod x1 r_2).toNat)).toNat : Int)] : List Int), row Ei 2 (gs (g1 160)) ((gt rows1 x1) ++ ([(((gt targets1 (w64 (Int.tdiv x1 r_2))) ((Int.tmod x1 r_2).toNat)).toNat : Int)] : List Int))] (by kernel_rfl) ?_
          refine TL.ixsX x1 x1.toNat 1 rfl h4 Try.underlying32 Try.sizeOf22 rfl rfl rfl rfl (by omega) ?_
          refine TL.done ?_
          exact TC.nrm () [] ⟨rfl, trivial⟩ [0, 0, 0, 0] (by kernel_rfl)
        · intro g1
          refine TL.asL [box b_2 41 [.arr 6 (enf u8v (fun _ => (0 : UInt8)))], matX Ei 2 22 x1.toNat s3 ss3 rows1, row Ei 2 (gs (g1 152)) ([(((gt targets1 (w64 (Int.tdiv x1 r_2))) ((Int.tmod x1 r_2).toNat)).toNat : Int)] : List Int), row Ei 2 (gs (g1 160)) ((gt rows1 x1) ++ ([(((gt targets1 (w64 (Int.tdiv x1 r_2))) ((Int.tmod x1 r_2).toNat)).toNat : Int)] : List Int))] (by kernel_rfl) ?_
          refine TL.matXlen 1 rfl fun h8 => ?_
          refine TL.matXcut 1 rfl ?_
          refine TL.stE 0 (x1.toNat) (gs (g1 160)) (v := SV.v (gs (g1 160))) rfl Try.sizeOf22 rfl rfl rfl (by have h_ := h4; have l_ := h8; (try simp only [List.length_set] at h_ l_ ⊢); omega) (by simp only [show Ev.sz = 1 from rfl] <;> omega) rfl rfl rfl ?_
          refine TL.rowsPut 4 2 rfl rfl ?_
          refine TL.matmk 0 2 rfl rfl ?_
          refine TL.drop 0 rfl ?_
          refine TL.asL [box b_2 41 [.arr 6 (enf u8v (fun _ => (0 : UInt8)))], mat Ei 2 22 s3 (ss3.set x1.toNat (gs (g1 160))) (rows1.set x1.toNat ((gt rows1 x1) ++ ([(((gt targets1 (w64 (Int.tdiv x1 r_2))) ((Int.tmod x1 r_2).toNat)).toNat : Int)] : List Int))), row Ei 2 (gs (g1 152)) ([(((gt targets1 (w64 (Int.tdiv x1 r_2))) ((Int.tmod x1 r_2).toNat)).toNat : Int)] : List Int), emp] (by kernel_rfl) ?_
          refine TL.done ?_
          exact TC.nrm () [] trivial [0, 0, 0, 0] (by kernel_rfl)
      · intro g1
        refine TC.asL [box b_2 41 [.arr 6 (enf u8v (fun _ => (0 : UInt8)))], mat Ei 2 22 s3 (ss3.set x1.toNat (gs (g1 160))) (rows1.set x1.toNat ((gt rows1 x1) ++ ([(((gt targets1 (w64 (Int.tdiv x1 r_2))) ((Int.tmod x1 r_2).toNat)).toNat : Int)] : List Int))), row Ei 2 (gs (g1 152)) ([(((gt targets1 (w64 (Int.tdiv x1 r_2))) ((Int.tmod x1 r_2).toNat)).toNat : Int)] : List Int), emp] (by kernel_rfl) ?_
        refine TC.region ?_
        refine TL.bin .i64 x1 1 rfl rfl rfl rfl (v := .int .i64 (w64 (x1 + 1))) rfl ?_
        refine TL.move rfl rfl (v := .int .i64 (w64 (x1 + 1))) rfl ?_
        refine TL.done ?_
        exact TC.next1 (((rows1.set x1.toNat ((gt rows1 x1) ++ ([(((gt targets1 (w64 (Int.tdiv x1 r_2))) ((Int.tmod x1 r_2).toNat)).toNat : Int)] : List Int))), (w64 (x1 + 1)))) ((ss3.set x1.toNat (gs (g1 160)))) ⟨rfl, rfl, rfl, rfl, rfl, rfl, trivial⟩ [0, 0] rfl
    · exact TC.brk1 ((rows1, x1)) (ss3) ⟨rfl, rfl, rfl, rfl, rfl, rfl, trivial⟩ [0, 0] rfl
  · rintro ⟨rows1, x1⟩ ss3
    refine TC.seq ?_
    refine TC.wk (Γ' := [(0, bp b_1 0), (1, SV.v s1), (6, bp b_2 0), (8, SV.v s3), (16, .int .i64 (r_1.length : Int)), (17, .int .i64 x1)]) ⟨rfl, rfl, rfl, rfl, rfl, rfl, trivial⟩ ?_
    refine TC.bindE ?_
    rintro r_4 hr2
    refine TC.bindE ?_
    rintro ⟨r_5, r_6⟩ hr3
    refine TC.drawG [(0, bp b_1 0), (1, SV.v s1), (6, bp b_2 0), (8, SV.v s3), (16, .int .i64 (r_1.length : Int)), (17, .int .i64 x1)] [] ⟨rfl, rfl, rfl, rfl, rfl, rfl, trivial⟩ trivial (fun l_ g2 => [box b_2 41 [.arr 6 (enf u8v (fun _ => (0 : UInt8)))], (bif nb l_ 7 then emp else mat Ei 2 22 s3 ss3 rows1), (bif nb l_ 7 then row Ei 2 (gs (g2 56)) r_5 else emp)]) (fun g2 => [SV.v s3, bp b_1 0, .int .i64 r_4, bp b_1 0, bp b_1 0, bp b_1 0, .int .i64 a_1, .tuple #[SV.v (gs (g2 56)), .bool r_6], .tuple #[SV.v (gs (g2 56)), .bool r_6], SV.v (gs (g2 56)), .bool r_6, SV.v (gs (g2 56)), .bool r_6]) [[], [], [1], [], [3], [3, 4], [3, 4, 5], [0, 1, 2, 3, 4, 5, 6], [0, 1, 2, 3, 4, 5, 6, 7], [0, 1, 2, 3, 4, 5, 6, 7, 8], [0, 1, 2, 3, 4, 5, 6, 7, 8], [0, 1, 2, 3, 4, 5, 6, 7, 8, 9], [0, 1, 2, 3, 4, 5, 6, 7, 8, 9, 10, 11]] [[some false, none, none, none, none, none, none, some false, some false, some false, some false, some false, some false], [none, some false, some false, none, none, none, none, some false, some false, some false, some false, some false, some false], [none, some true, some false, none, none, none, none, some false, some false, some false, some false, some false, some false], [none, none, none, some false, some false, some false, some false, some false, some false, some false, some false, some false, some false], [none, none, none, some true, some false, some false, some false, some false, some false, some false, some false, some false, some false], [none, none, none, some true, some true, some false, some false, some false, some false, some false, some false, some false, some false], [none, none, none, some true, some true, some true, some false, some false, some false, some false, some false, some false, some false], [some true, some true, some true, some true, some true, some true, some true, some false, some false, some false, some false, some false, some false], [some true, some true, some true, some true, some true, some true, some true, some true, some false, some false, some false, some false, some false], [some true, some true, some true, some true, some true, some true, some true, some true, some true, some false, none, some false, some false], [some true, some true, some true, some true, some true, some true, some true, some true, some true, none, some false, none, some false], [some true, some true, some true, some true, some true, some true, some true, some true, some true, some true, none, some false, some false], [some true, some true, some true, some true, some true, some true, some true, some true, some true, some true, some true, some true, some false]] (by kernel_rfl) (fun _ => rfl) rfl rfl rfl rfl rfl (fun _ _ => ⟨⟨⟨⟨⟨⟨⟨⟨⟨⟨⟨⟨⟨trivial, rfl⟩, rfl⟩, rfl⟩, rfl⟩, rfl⟩, rfl⟩, rfl⟩, rfl⟩, rfl⟩, rfl⟩, rfl⟩, rfl⟩, rfl⟩) 1 [1, 1, 0] (fun _ => by kernel_rfl) ?_ ?_
    · refine ⟨rfl, ?_, rfl, ?_, rfl, ?_, rfl, ?_, rfl, ?_, rfl, ?_, rfl, ?_, rfl, ?_, rfl, ?_, rfl, ?_, rfl, ?_, rfl, ?_, rfl, ?_, trivial⟩
      · intro b1_ b2_ b3_ b4_ b5_ b6_ g2
        refine TL.move rfl rfl (v := SV.v s3) rfl ?_
        refine TL.done ?_
        exact TC.nrm () [] ⟨rfl, trivial⟩ [0, 0, 0] (by kernel_rfl)
      · intro b0_ b3_ b4_ b5_ b6_ g2
        refine TL.move rfl rfl (v := bp b_1 0) rfl ?_
        refine TL.done ?_
        exact TC.nrm () [] ⟨rfl, trivial⟩ [0, 0, 0] (by kernel_rfl)
      · intro b0_ b3_ b4_ b5_ b6_ g2
        refine TL.asL [box b_2 41 [.arr 6 (enf u8v (fun _ => (0 : UInt8)))], mat Ei 2 22 s3 ss3 rows1, emp] (by kernel_rfl) ?_
        refine TL.callH (R := G.impl_Algebra_n.R) hr2 Try.call159 rfl rfl rfl (fun w hS => G.impl_Algebra_n.calls w b_1 a_1 a_2 a_3 a_4 ((Src.at h1) w hS)) ?_
        rintro _ _ ⟨rfl, rfl⟩
        refine TL.done ?_
        exact TC.nrm () [] ⟨rfl, trivial⟩ [0, 0, 0] (by kernel_rfl)
      · intro b0_ b1_ b2_ g2
        refine TL.move rfl rfl (v := bp b_1 0) rfl ?_
        refine TL.done ?_
        exact TC.nrm () [] ⟨rfl, trivial⟩ [0, 0, 0] (by kernel_rfl)
      · intro b0_ b1_ b2_ g2
        refine TL.nilCheck rfl rfl rfl ?_
        refine TL.done ?_
        exact TC.nrm () [] ⟨rfl, trivial⟩ [0, 0, 0] (by kernel_rfl)
      · intro b0_ b1_ b2_ g2
        refine TL.asL [box b_2 41 [.arr 6 (enf u8v (fun _ => (0 : UInt8)))], mat Ei 2 22 s3 ss3 rows1, emp] (by kernel_rfl) ?_
        refine TL.fa Try.underlying43 rfl Try.sizeOf2 rfl 0 rfl rfl rfl rfl ?_
        refine TL.done ?_
        exact TC.nrm () [] ⟨rfl, trivial⟩ [0, 0, 0] (by kernel_rfl)
      · intro b0_ b1_ b2_ g2
        refine TL.asL [box b_2 41 [.arr 6 (enf u8v (fun _ => (0 : UInt8)))], mat Ei 2 22 s3 ss3 rows1, emp] (by kernel_rfl) ?_
        refine TL.load1 0 (Src.at h1) Try.isAgg2 rfl rfl rfl rfl rfl ?_
        refine TL.done ?_
        exact TC.nrm () [] ⟨rfl, trivial⟩ [0, 0, 0] (by kernel_rfl)
      · intro g2
        refine TL.asL [box b_2 41 [.arr 6 (enf u8v (fun _ => (0 : UInt8)))], mat Ei 2 22 s3 ss3 rows1, emp] (by kernel_rfl) ?_
        refine TL.callXH (R := G.impl_solve.R) hr3 [1, 0, 0] [mat Ei 2 22 s3 ss3 rows1] [box b_2 41 [.arr 6 (enf u8v (fun _ => (0 : UInt8)))], emp] rfl Try.call186 rfl rfl rfl (fun w I_ hle hB hS => G.impl_solve.calls _ I_ w s3 ss3 rows1 r_4 a_1 hS) ?_
        rintro _ _ ⟨s6, rfl, rfl⟩
        refine TL.done ?_
        exact TC.nrm () [[s6]] ⟨rfl, trivial⟩ [2, 1, 0] (by kernel_rfl)
      · intro g2
        refine TL.move rfl rfl (v := .tuple #[SV.v (gs (g2 56)), .bool r_6]) rfl ?_
        refine TL.done ?_
        exact TC.nrm () [] ⟨rfl, trivial⟩ [0, 0, 0] (by kernel_rfl)
      · intro b10_ g2
        refine TL.extract rfl rfl rfl (v := SV.v (gs (g2 56))) rfl ?_
        refine TL.done ?_
        exact TC.nrm () [] ⟨rfl, trivial⟩ [0, 0, 0] (by kernel_rfl)
      · intro b9_ b11_ g2
        refine TL.extract rfl rfl rfl (v := .bool r_6) rfl ?_
        refine TL.done ?_
        exact TC.nrm () [] ⟨rfl, trivial⟩ [0, 0, 0] (by kernel_rfl)
      · intro b10_ g2
        refine TL.assign rfl rfl (v := SV.v (gs (g2 56))) rfl ?_
        refine TL.done ?_
        exact TC.nrm () [] ⟨rfl, trivial⟩ [0, 0, 0] (by kernel_rfl)
      · intro g2
        refine TL.assign rfl rfl (v := .bool r_6) rfl ?_
        refine TL.done ?_
        exact TC.nrm () [] ⟨rfl, trivial⟩ [0, 0, 0] (by kernel_rfl)
    · intro g2
      refine TC.asL [box b_2 41 [.arr 6 (enf u8v (fun _ => (0 : UInt8)))], emp, row Ei 2 (gs (g2 56)) r_5] (by kernel_rfl) ?_
      refine TC.seq ?_
      refine TC.region ?_
      refine TL.move rfl rfl (v := SV.v (gs (g2 56))) rfl ?_
      refine TL.call (R := G.impl_vector.R) Try.call187 rfl rfl rfl (fun w hS => G.impl_vector.calls w (gs (g2 56)) r_5 ((Rd.row 2 rfl) w hS)) ?_
      rintro r_7 _ _ ⟨rfl, rfl⟩
      refine TL.move rfl rfl (v := .bool r_6) rfl ?_
      refine TL.stM (news := [.arr 6 (enf u8v r_7)]) 0 0 1 rfl Try.sizeOf41 (ones_arr (fun _ => rfl) ones_nil) rfl rfl rfl rfl rfl rfl ?_
      refine TL.assign rfl rfl (v := .bool r_6) rfl ?_
      refine TL.done ?_
      exact TC.retF (Fin.body (fin2 (.inr rfl) rfl (.cellN rfl (Src.box 0 rfl) Try.isAgg41 Try.sizeOf41 rfl) (.tmp rfl) [] rfl ⟨rfl, rfl⟩))

end Go.Proofs.Ytiiljfpbcanphaa.G

/- impl.Algebra).behind$1, as a pure function. -/
set_option linter.unusedVariables false
namespace Go.Proofs.Ytiiljfpbcanphaa.G
open Go Go.Sx Go.Proofs

def impl_Algebra_behind_1.f (v_1 : Nat → UInt8) (c1 : Int) (c2 : Int) (c3 : Nat → UInt8) (c4 : Nat → UInt8) (c5 : Nat → UInt8) : Option (Nat → UInt8) := (G.impl_Algebra_times.f c1 c2 c3 c4 v_1 c5).bind (fun r_1 => some r_1)

def impl_Algebra_behind_1.R (r : Nat → UInt8) (v : Value) (L : List Asn) : Prop := v = sval [.arr 6 (enf u8v r)] ∧ L = []

set_option maxRecDepth 100000 in
set_option maxHeartbeats 4000000 in
theorem impl_Algebra_behind_1.calls (w : World) (v_1 : Nat → UInt8) (b_1 : Nat) (b_2 : Nat) (c1 : Int) (c2 : Int) (c3 : Nat → UInt8) (c4 : Nat → UInt8) (b_3 : Nat) (c5 : Nat → UInt8) (h1 : At (hp w) b_2 [.one (.int .i64 c1), .one (.int .i64 c2), .arr 216 (enf u8v c3), .arr 6 (enf u8v c4)]) (h2 : At (hp w) b_1 [.one (bp b_2 0)]) (h3 : At (hp w) b_3 [.arr 6 (enf u8v c5)]) :
    ∀ r, impl_Algebra_behind_1.f v_1 c1 c2 c3 c4 c5 = some r → Calls Try.prog 183 #[sval [.arr 6 (enf u8v v_1)], bp b_1 0, bp b_3 0] w (Ret w (impl_Algebra_behind_1.R r)) := by

  refine calls_T (n := 9) (Γ := [(0, sval [.arr 6 (enf u8v v_1)]), (1, bp b_1 0), (2, bp b_3 0)]) (R := impl_Algebra_behind_1.R) Try.func183 rfl rfl (Nat.le_of_ble_eq_true rfl) ⟨rfl, rfl, rfl, trivial⟩ ?_
  unfold impl_Algebra_behind_1.f
  refine TC.seq ?_
  refine TC.region ?_
  refine TL.box [.arr 6 (enf u8v v_1)] rfl rfl rfl rfl fun b_4 => ?_
  refine TL.alloc [.arr 6 (enf u8v (fun _ => (0 : UInt8)))] rfl rfl Try.zeroValue41 rfl fun b_5 => ?_
  refine TL.done ?_
  refine TC.seq ?_
  refine TC.region ?_
  refine TL.load1 0 (Src.at h2) Try.isAgg132 rfl rfl rfl rfl rfl ?_
  refine TL.loadM 0 1 (Src.box 1 rfl) Try.isAgg41 Try.sizeOf41 (mid := [.arr 6 (enf u8v v_1)]) rfl rfl rfl rfl rfl rfl ?_
  refine TL.loadM 0 1 (Src.at h3) Try.isAgg41 Try.sizeOf41 (mid := [.arr 6 (enf u8v c5)]) rfl rfl rfl rfl rfl rfl ?_
  refine TL.call (R := G.impl_Algebra_times.R) Try.call160 rfl rfl rfl (fun w hS => G.impl_Algebra_times.calls w b_2 c1 c2 c3 c4 v_1 c5 ((Src.at h1) w hS)) ?_
  rintro r_1 _ _ ⟨rfl, rfl⟩
  refine TL.stM (news := [.arr 6 (enf u8v r_1)]) 0 0 1 rfl Try.sizeOf41 (ones_arr (fun _ => rfl) ones_nil) rfl rfl rfl rfl rfl rfl ?_
  refine TL.done ?_
  exact TC.retF (Fin.body (fin1 (.inr rfl) rfl (.cellN rfl (Src.box 0 rfl) Try.isAgg41 Try.sizeOf41 rfl) [] rfl ⟨rfl, rfl⟩))

end Go.Proofs.Ytiiljfpbcanphaa.G

/- impl.Algebra).ahead$1, as a pure function. -/
set_option linter.unusedVariables false
namespace Go.Proofs.Ytiiljfpbcanphaa.G
open Go Go.Sx Go.Proofs

def impl_Algebra_ahead_1.f (v_1 : Nat → UInt8) (c1 : Int) (c2 : Int) (c3 : Nat → UInt8) (c4 : Nat → UInt8) (c5 : Nat → UInt8) : Option (Nat → UInt8) := (G.impl_Algebra_times.f c1 c2 c3 c4 c5 v_1).bind (fun r_1 => some r_1)

def impl_Algebra_ahead_1.R (r : Nat → UInt8) (v : Value) (L : List Asn) : Prop := v = sval [.arr 6 (enf u8v r)] ∧ L = []

set_option maxRecDepth 100000 in
set_option maxHeartbeats 4000000 in
theorem impl_Algebra_ahead_1.calls (w : World) (v_1 : Nat → UInt8) (b_1 : Nat) (b_2 : Nat) (c1 : Int) (c2 : Int) (c3 : Nat → UInt8) (c4 : Nat → UInt8) (b_3 : Nat) (c5 : Nat → UInt8) (h1 : At (hp w) b_2 [.one (.int .i64 c1), .one (.int .i64 c2), .arr 216 (enf u8v c3), .arr 6 (enf u8v c4)]) (h2 : At (hp w) b_1 [.one (bp b_2 0)]) (h3 : At (hp w) b_3 [.arr 6 (enf u8v c5)]) :
    ∀ r, impl_Algebra_ahead_1.f v_1 c1 c2 c3 c4 c5 = some r → Calls Try.prog 184 #[sval [.arr 6 (enf u8v v_1)], bp b_1 0, bp b_3 0] w (Ret w (impl_Algebra_ahead_1.R r)) := by

  refine calls_T (n := 9) (Γ := [(0, sval [.arr 6 (enf u8v v_1)]), (1, bp b_1 0), (2, bp b_3 0)]) (R := impl_Algebra_ahead_1.R) Try.func184 rfl rfl (Nat.le_of_ble_eq_true rfl) ⟨rfl, rfl, rfl, trivial⟩ ?_
  unfold impl_Algebra_ahead_1.f
  refine TC.seq ?_
  refine TC.region ?_
  refine TL.box [.arr 6 (enf u8v v_1)] rfl rfl rfl rfl fun b_4 => ?_
  refine TL.alloc [.arr 6 (enf u8v (fun _ => (0 : UInt8)))] rfl rfl Try.zeroValue41 rfl fun b_5 => ?_
  refine TL.done ?_
  refine TC.seq ?_
  refine TC.region ?_
  refine TL.load1 0 (Src.at h2) Try.isAgg132 rfl rfl rfl rfl rfl ?_
  refine TL.loadM 0 1 (Src.at h3) Try.isAgg41 Try.sizeOf41 (mid := [.arr 6 (enf u8v c5)]) rfl rfl rfl rfl rfl rfl ?_
  refine TL.loadM 0 1 (Src.box 1 rfl) Try.isAgg41 Try.sizeOf41 (mid := [.arr 6 (enf u8v v_1)]) rfl rfl rfl rfl rfl rfl ?_
  refine TL.call (R := G.impl_Algebra_times.R) Try.call160 rfl rfl rfl (fun w hS => G.impl_Algebra_times.calls w b_2 c1 c2 c3 c4 c5 v_1 ((Src.at h1) w hS)) ?_
  rintro r_1 _ _ ⟨rfl, rfl⟩
  refine TL.stM (news := [.arr 6 (enf u8v r_1)]) 0 0 1 rfl Try.sizeOf41 (ones_arr (fun _ => rfl) ones_nil) rfl rfl rfl rfl rfl rfl ?_
  refine TL.done ?_
  exact TC.retF (Fin.body (fin1 (.inr rfl) rfl (.cellN rfl (Src.box 0 rfl) Try.isAgg41 Try.sizeOf41 rfl) [] rfl ⟨rfl, rfl⟩))

end Go.Proofs.Ytiiljfpbcanphaa.G

/- findUnit, told by hand: its maps are closures over boxes of its own. -/
set_option linter.unusedVariables false
namespace Go.Proofs.Ytiiljfpbcanphaa.G
open Go Go.Sx Go.Proofs

def closR (f : Nat) (ba : Nat) (x : Nat → UInt8) (v : Value) (L : List Asn) : Prop := ∃ b1 b2, v = .func (.func f) #[] #[bp b1 0, bp b2 0] ∧ L = [box b1 132 [.one (bp ba 0)], box b2 41 [.arr 6 (enf u8v x)]]
theorem behind_calls (w : World) (ba : Nat) (x : Nat → UInt8) : ∀ r : Unit, some () = some r → Calls Try.prog 161 #[bp ba 0, sval [.arr 6 (enf u8v x)]] w (Ret w ((fun _ => closR 183 ba x) r)) := by
  refine calls_T (m := some ()) (n := 6) (Γ := [(0, bp ba 0), (1, sval [.arr 6 (enf u8v x)])]) (R := fun _ => closR 183 ba x) Try.func161 rfl rfl (Nat.le_of_ble_eq_true rfl) ⟨rfl, rfl, trivial⟩ ?_
  refine TC.seq ?_
  refine TC.region ?_
  refine TL.box [.one (bp ba 0)] rfl rfl rfl rfl fun b1 => ?_
  refine TL.box [.arr 6 (enf u8v x)] rfl rfl rfl rfl fun b2 => ?_
  refine TL.assign rfl rfl (v := .nilFunc) rfl ?_
  refine TL.done ?_
  refine TC.seq ?_
  refine TC.region ?_
  refine TL.makeFunc rfl rfl (us := []) (vs := [bp b1 0, bp b2 0]) rfl rfl ?_
  refine TL.assign rfl rfl (v := .func (.func 183) #[] #[bp b1 0, bp b2 0]) rfl ?_
  refine TL.done ?_
  exact TC.retF (Fin.body (fin1 (.inr rfl) rfl (.tmp rfl) [1, 0] rfl ⟨b1, b2, rfl, rfl⟩))
theorem ahead_calls (w : World) (ba : Nat) (x : Nat → UInt8) : ∀ r : Unit, some () = some r → Calls Try.prog 162 #[bp ba 0, sval [.arr 6 (enf u8v x)]] w (Ret w ((fun _ => closR 184 ba x) r)) := by
  refine calls_T (m := some ()) (n := 6) (Γ := [(0, bp ba 0), (1, sval [.arr 6 (enf u8v x)])]) (R := fun _ => closR 184 ba x) Try.func162 rfl rfl (Nat.le_of_ble_eq_true rfl) ⟨rfl, rfl, trivial⟩ ?_
  refine TC.seq ?_
  refine TC.region ?_
  refine TL.box [.one (bp ba 0)] rfl rfl rfl rfl fun b1 => ?_
  refine TL.box [.arr 6 (enf u8v x)] rfl rfl rfl rfl fun b2 => ?_
  refine TL.assign rfl rfl (v := .nilFunc) rfl ?_
  refine TL.done ?_
  refine TC.seq ?_
  refine TC.region ?_
  refine TL.makeFunc rfl rfl (us := []) (vs := [bp b1 0, bp b2 0]) rfl rfl ?_
  refine TL.assign rfl rfl (v := .func (.func 184) #[] #[bp b1 0, bp b2 0]) rfl ?_
  refine TL.done ?_
  exact TC.retF (Fin.body (fin1 (.inr rfl) rfl (.tmp rfl) [1, 0] rfl ⟨b1, b2, rfl, rfl⟩))

/-- Pieces that are only read from now on. -/
def bag (I : Hp) (Φ : Hp → Prop) : Asn := fun ρ => ∀ H, Hle I H → (∀ p ∈ ρ, H p.1 = some p.2) → Φ H
theorem bag_get {w0 : World} {I : Hp} {L : List Asn} {w : World} {Φ : Hp → Prop} (i : Nat) (hi : L[i]? = some (bag I Φ)) (hS : St w0 I L w) : Φ (hp w) := by
  obtain ⟨ρA, hA, hh⟩ := hS.get hi
  exact hA (hp w) hS.iw hh
/-- Functions of one's own, with their boxes. -/
def fnrow (I : Hp) (s : SV) (fs : List PFn) : Asn := fun ρ => ∃ vs ρ1 ρ2, ρ = ρ1 ++ ρ2 ∧ row Ef 138 s vs ρ1 ∧ bag I (fun H => FnAll Try.prog H vs fs) ρ2

theorem gt_app1 {α : Type} [Inhabited α] {l l' : List α} {i : Int} (h : 0 ≤ i ∧ i < l.length) : gt (l ++ l') i = gt l i := by
  obtain ⟨k, rfl⟩ := Int.eq_ofNat_of_zero_le h.1
  have hk : k < l.length := by omega
  simp [gt, List.getD, List.getElem?_append_left hk]
theorem gt_app2 {α : Type} [Inhabited α] {l l' : List α} {i : Int} (h : (l.length : Int) ≤ i) : gt (l ++ l') i = gt l' (i - l.length) := by
  obtain ⟨k, rfl⟩ := Int.eq_ofNat_of_zero_le (Int.le_trans (Int.natCast_nonneg _) h)
  have hk : l.length ≤ k := by omega
  have e : ((k : Int) - (l.length : Int)).toNat = k - l.length := by omega
  simp [gt, List.getD, List.getElem?_append_right hk, e]
/-- One function more. -/
theorem fn_add {H : Hp} {vs : List FV} {fs : List PFn} {v : FV} {f : PFn} (h : FnAll Try.prog H vs fs) (hc : ∀ (args_ : Array Value) (w_ : World), (callFunc v.f args_).run Try.prog w_ = .ok (.enter v.f args_) w_)
    (hf : ∀ w_, Hle H (hp w_) → ∀ (x_ : Nat → UInt8), ∀ r_, f x_ = some r_ → Calls Try.prog v.f (v.fst ++ ([sval [.arr 6 (enf u8v x_)]] : List Value) ++ v.cap).toArray w_ (Ret w_ (fun v_ L_ => v_ = sval [.arr 6 (enf u8v r_)] ∧ L_ = []))) : FnAll Try.prog H (vs ++ [v]) (fs ++ [f]) := by
  have hl := h.len
  refine ⟨by simp [hl], fun i hi => ?_, fun i hi => ?_⟩
  · by_cases h1 : i < vs.length
    · rw [gt_app1 ⟨hi.1, h1⟩]
      exact h.hc i ⟨hi.1, by omega⟩
    · rw [gt_app2 (by omega)]
      have e : i - (vs.length : Int) = 0 := by rw [List.length_append] at hi; simp at hi; omega
      rw [e]; exact hc
  · by_cases h1 : i < vs.length
    · rw [gt_app1 ⟨hi.1, h1⟩, gt_app1 ⟨hi.1, by omega⟩]
      exact h.hf i ⟨hi.1, by omega⟩
    · rw [gt_app2 (by omega), gt_app2 (by omega)]
      have e : i - (vs.length : Int) = 0 := by rw [List.length_append] at hi; simp at hi; omega
      have e2 : i - (fs.length : Int) = 0 := by omega
      rw [e, e2]; exact hf
theorem box_at {b : Nat} {T : TypeId} {segs : List Seg} {ρ : Frag} {H : Hp} (h : box b T segs ρ) (hh : ∀ p ∈ ρ, H p.1 = some p.2) : At H b segs := by
  unfold box at h
  subst h
  exact ⟨T, (0, 0), hh _ (List.mem_singleton.2 rfl)⟩

section
variable {a1 a2 : Int} {a3 a4 : Nat → UInt8} {ba : Nat}
def behindP (a1 a2 : Int) (a3 a4 : Nat → UInt8) (u : Nat → UInt8) : PFn := fun v => G.impl_Algebra_behind_1.f v a1 a2 a3 a4 u
def aheadP (a1 a2 : Int) (a3 a4 : Nat → UInt8) (u : Nat → UInt8) : PFn := fun v => G.impl_Algebra_ahead_1.f v a1 a2 a3 a4 u
theorem St.fnPush {w0 w : World} {I : Hp} {L : List Asn} {s : SV} {vs : List FV} {fs : List PFn} {u : Nat → UInt8} {b1 b2 b3 b4 : Nat} (hA : At I ba [.one (.int .i64 a1), .one (.int .i64 a2), .arr 216 (enf u8v a3), .arr 6 (enf u8v a4)])
    (h : St w0 I (row Ef 138 s (vs ++ [⟨183, [], [bp b1 0, bp b2 0]⟩, ⟨184, [], [bp b3 0, bp b4 0]⟩]) :: box b1 132 [.one (bp ba 0)] :: box b2 41 [.arr 6 (enf u8v u)] :: box b3 132 [.one (bp ba 0)] :: box b4 41 [.arr 6 (enf u8v u)] :: bag I (fun H => FnAll Try.prog H vs fs) :: L) w) :
    St w0 I (fnrow I s (fs ++ [behindP a1 a2 a3 a4 u, aheadP a1 a2 a3 a4 u]) :: L) w := by
  obtain ⟨ρ, hs, ho⟩ := h.own
  obtain ⟨ρ1, _, rfl, h1, ρ2, _, rfl, h2, ρ3, _, rfl, h3, ρ4, _, rfl, h4, ρ5, _, rfl, h5, ρ6, ρ7, rfl, h6, h7⟩ := hs
  refine ⟨h.below, h.i0, h.iw, _, ⟨ρ1 ++ (ρ2 ++ (ρ3 ++ (ρ4 ++ (ρ5 ++ ρ6)))), ρ7, ?_, ⟨_, ρ1, ρ2 ++ (ρ3 ++ (ρ4 ++ (ρ5 ++ ρ6))), rfl, h1, ?_⟩, h7⟩, ho⟩
  · simp only [List.append_assoc]
  · intro H hI hh
    have k2 := box_at h2 (H := H) (fun p hp => hh p (by simp [hp]))
    have k3 := box_at h3 (H := H) (fun p hp => hh p (by simp [hp]))
    have k4 := box_at h4 (H := H) (fun p hp => hh p (by simp [hp]))
    have k5 := box_at h5 (H := H) (fun p hp => hh p (by simp [hp]))
    have k6 : FnAll Try.prog H vs fs := h6 H hI (fun p hp => hh p (by simp [hp]))
    have kA := hA.mono hI
    have e1 : vs ++ [⟨183, [], [bp b1 0, bp b2 0]⟩, ⟨184, [], [bp b3 0, bp b4 0]⟩] = (vs ++ [(⟨183, [], [bp b1 0, bp b2 0]⟩ : FV)]) ++ [(⟨184, [], [bp b3 0, bp b4 0]⟩ : FV)] := by simp
    have e2 : fs ++ [behindP a1 a2 a3 a4 u, aheadP a1 a2 a3 a4 u] = (fs ++ [behindP a1 a2 a3 a4 u]) ++ [aheadP a1 a2 a3 a4 u] := by simp
    rw [e1, e2]
    refine fn_add (fn_add k6 Try.call183 ?_) Try.call184 ?_
    · intro w_ hw x r hr
      exact G.impl_Algebra_behind_1.calls w_ x b1 ba a1 a2 a3 a4 b2 u (kA.mono hw) (k2.mono hw) (k3.mono hw) r hr
    · intro w_ hw x r hr
      exact G.impl_Algebra_ahead_1.calls w_ x b3 ba a1 a2 a3 a4 b4 u (kA.mono hw) (k4.mono hw) (k5.mono hw) r hr
end
section
variable {P : Program} {w0 : World} {n : Nat} {I : Hp} {Γ : Gm} {L : List Asn} {cs : List Code} {β : Type} {m : Option β} {D : β → Post} {ops : Array Oper} {os : List Oper}
theorem TL.fnOpen {s : SV} {fs : List PFn} (i : Nat) (hi : L[i]? = some (fnrow I s fs)) (k : ∀ vs, TL P w0 n I Γ (row Ef 138 s vs :: L.set i (bag I (fun H => FnAll Try.prog H vs fs))) ops os cs m D) : TL P w0 n I Γ L ops os cs m D := by
  intro a w hF hS o ho
  obtain ⟨ρ, hs, hown⟩ := hS.own
  obtain ⟨ρ1, ρA, ρ2, rfl, ⟨vs, σ1, σ2, rfl, g1, g2⟩, hset, _⟩ := hs.focus hi
  refine k vs a w hF (hS.perm hown (ρ' := σ1 ++ (ρ1 ++ σ2 ++ ρ2)) ?_ ⟨σ1, _, rfl, g1, hset _ σ2 g2⟩) o ho
  have : (ρ1 ++ σ1).Perm (σ1 ++ ρ1) := List.perm_append_comm
  simpa using this.append_right (σ2 ++ ρ2)
theorem TL.ofSt {L' : List Asn} (h : ∀ w, St w0 I L w → St w0 I L' w) (k : TL P w0 n I Γ L' ops os cs m D) : TL P w0 n I Γ L ops os cs m D := fun a w hF hS o ho => k a w hF (h w hS) o ho
theorem St.fn0 {w : World} {s : SV} (h : St w0 I (row Ef 138 s [] :: L) w) : St w0 I (fnrow I s [] :: L) w := by
  obtain ⟨ρ, hs, ho⟩ := h.own
  obtain ⟨ρ1, ρ2, rfl, h1, h2⟩ := hs
  refine ⟨h.below, h.i0, h.iw, _, ⟨ρ1, ρ2, rfl, ⟨[], ρ1, [], by simp, h1, fun H _ _ => ⟨rfl, fun i hi => by simp at hi; omega, fun i hi => by simp at hi; omega⟩⟩, h2⟩, ho⟩
end

def impl_Algebra_findUnit.b0 (r_1 : Int) (a1 a2 : Int) (a3 a4 : Nat → UInt8) : List PFn × List (Nat → UInt8) × Int → Option (LB (List PFn × List (Nat → UInt8) × Int)) := fun p => match p with | (maps, targets, x) => (bif (decide (x < r_1)) then (G.impl_basis.f x).bind (fun u => small (maps.length + 2) (small (targets.length + 2) (some (.next (maps ++ [behindP a1 a2 a3 a4 u, aheadP a1 a2 a3 a4 u], targets ++ [u, u], w64 (x + 1)))))) else some (.brk (maps, targets, x)))
def impl_Algebra_findUnit.f (a1 a2 : Int) (a3 a4 : Nat → UInt8) : Option ((Nat → UInt8) × Bool) := (G.impl_Algebra_n.f a1 a2 a3 a4).bind (fun r_1 => (loop1 (impl_Algebra_findUnit.b0 r_1 a1 a2 a3 a4) (([] : List PFn), ([] : List (Nat → UInt8)), 0)).bind (fun p => match p with | (maps, targets, x) => (G.impl_Algebra_solved.f a1 a2 a3 a4 targets maps).bind (fun r => some (r.1, r.2))))
def impl_Algebra_findUnit.R (r : (Nat → UInt8) × Bool) (v : Value) (L : List Asn) : Prop := v = .tuple #[sval [.arr 6 (enf u8v r.1)], .bool r.2] ∧ L = []

set_option maxRecDepth 100000 in
set_option maxHeartbeats 4000000 in
theorem impl_Algebra_findUnit.calls (w : World) (b_1 : Nat) (a_1 : Int) (a_2 : Int) (a_3 : Nat → UInt8) (a_4 : Nat → UInt8) (h1 : At (hp w) b_1 [.one (.int .i64 a_1), .one (.int .i64 a_2), .arr 216 (enf u8v a_3), .arr 6 (enf u8v a_4)]) :
    ∀ r, impl_Algebra_findUnit.f a_1 a_2 a_3 a_4 = some r → Calls Try.prog 114 #[bp b_1 0] w (Ret w (impl_Algebra_findUnit.R r)) := by
  refine calls_T (n := 39) (Γ := [(0, bp b_1 0)]) (R := impl_Algebra_findUnit.R) Try.func114 rfl rfl (Nat.le_of_ble_eq_true rfl) ⟨rfl, trivial⟩ ?_
  unfold impl_Algebra_findUnit.f
  refine TC.seq ?_
  refine TC.region ?_
  refine TL.alloc [.arr 6 (enf u8v (fun _ => (0 : UInt8)))] rfl rfl Try.zeroValue41 rfl fun b_2 => ?_
  refine TL.assign rfl rfl (v := .bool false) rfl ?_
  refine TL.done ?_
  refine TC.seq ?_
  refine TC.region ?_
  refine TL.bslice0 Ef Try.underlying136 Try.sizeOf138 rfl rfl fun s1 => ?_
  refine TL.ofSt (fun w hS => St.fn0 hS) ?_
  refine TL.bslice0 (Evec 6) Try.underlying137 Try.sizeOf41 rfl rfl fun s2 => ?_
  refine TL.assign rfl rfl (v := SV.v s1) rfl ?_
  refine TL.assign rfl rfl (v := SV.v s2) rfl ?_
  refine TL.done ?_
  refine TC.seq ?_
  refine TC.seq ?_
  refine TC.region ?_
  refine TL.move rfl rfl (v := bp b_1 0) rfl ?_
  refine TL.call (R := G.impl_Algebra_n.R) Try.call159 rfl rfl rfl (fun w hS => G.impl_Algebra_n.calls w b_1 a_1 a_2 a_3 a_4 ((Src.at h1) w hS)) ?_
  rintro r_1 _ _ ⟨rfl, rfl⟩
  refine TL.move rfl rfl (v := .int .i64 0) rfl ?_
  refine TL.done ?_
  refine TC.loop1 (σ := List PFn × List (Nat → UInt8) × Int) (γ := SV × SV) (Γ' := (fun p q => match p, q with | (maps, targets, x), (t1, t2) => [(0, bp b_1 0), (2, bp b_2 0), (4, SV.v t1), (5, SV.v t2), (10, .int .i64 r_1), (11, .int .i64 x)])) (L' := (fun p q => match p, q with | (maps, targets, x), (t1, t2) => [fnrow (hp w) t1 maps, row (Evec 6) 41 t2 targets, box b_2 41 [.arr 6 (enf u8v (fun _ => (0 : UInt8)))]])) (Γb := (fun p q => match p, q with | (maps, targets, x), (t1, t2) => [(0, bp b_1 0), (2, bp b_2 0), (4, SV.v t1), (5, SV.v t2), (10, .int .i64 r_1), (11, .int .i64 x)])) (Lb := (fun p q => match p, q with | (maps, targets, x), (t1, t2) => [fnrow (hp w) t1 maps, row (Evec 6) 41 t2 targets, box b_2 41 [.arr 6 (enf u8v (fun _ => (0 : UInt8)))]])) (([], [], 0)) ((s1, s2)) ⟨rfl, rfl, rfl, rfl, rfl, rfl, trivial⟩ [1, 0, 0] rfl ?_ ?_
  · rintro ⟨maps, targets, x⟩ ⟨t1, t2⟩
    refine TC.seq ?_
    refine TC.region ?_
    refine TL.bin .i64 x r_1 rfl rfl rfl rfl (v := .bool (decide (x < r_1))) rfl ?_
    refine TL.done ?_
    refine TC.seq ?_
    refine TC.cond (b := (decide (x < r_1))) rfl (fun c3 => ?_) (fun c4 => ?_)
    · refine TC.skip ?_
      refine TC.seq ?_
      refine TC.block (NoEx.loop1 rfl) ?_
      refine TC.seq ?_
      refine TC.region ?_
      refine TL.move rfl rfl (v := .int .i64 x) rfl ?_
      refine TL.assign rfl rfl (v := .int .i64 x) rfl ?_
      refine TL.done ?_
      refine TC.seq ?_
      refine TC.region ?_
      refine TL.bindE ?_
      intro u hu
      refine TL.move rfl rfl (v := SV.v t1) rfl ?_
      refine TL.move rfl rfl (v := bp b_1 0) rfl ?_
      refine TL.move rfl rfl (v := .int .i64 x) rfl ?_
      refine TL.callH (R := G.impl_basis.R) hu Try.call87 rfl rfl rfl (fun w hS => G.impl_basis.calls w x) ?_
      rintro _ _ ⟨rfl, rfl⟩
      refine TL.callH (mf := some ()) (r := ()) (R := fun _ => closR 183 b_1 u) rfl Try.call161 rfl rfl rfl (fun w hS => behind_calls w b_1 u) ?_
      rintro _ _ ⟨b1, b2, rfl, rfl⟩
      refine TL.move rfl rfl (v := bp b_1 0) rfl ?_
      refine TL.move rfl rfl (v := .int .i64 x) rfl ?_
      refine TL.callH (R := G.impl_basis.R) hu Try.call87 rfl rfl rfl (fun w hS => G.impl_basis.calls w x) ?_
      rintro _ _ ⟨rfl, rfl⟩
      refine TL.callH (mf := some ()) (r := ()) (R := fun _ => closR 184 b_1 u) rfl Try.call162 rfl rfl rfl (fun w hS => ahead_calls w b_1 u) ?_
      rintro _ _ ⟨b3, b4, rfl, rfl⟩
      refine TL.blit Ef ([⟨183, [], [bp b1 0, bp b2 0]⟩, ⟨184, [], [bp b3 0, bp b4 0]⟩] : List FV) Try.underlying136 Try.sizeOf138 Try.zeroValue138 rfl rfl rfl [(0, .func (.func 183) #[] #[bp b1 0, bp b2 0]), (1, .func (.func 184) #[] #[bp b3 0, bp b4 0])] rfl ⟨rfl, rfl, rfl, rfl, trivial⟩ rfl rfl fun s3 => ?_
      refine TL.asL [row Ef 138 s3 [⟨183, [], [bp b1 0, bp b2 0]⟩, ⟨184, [], [bp b3 0, bp b4 0]⟩], box b3 132 [.one (bp b_1 0)], box b4 41 [.arr 6 (enf u8v u)], box b1 132 [.one (bp b_1 0)], box b2 41 [.arr 6 (enf u8v u)], fnrow (hp w) t1 maps, row (Evec 6) 41 t2 targets, box b_2 41 [.arr 6 (enf u8v (fun _ => (0 : UInt8)))]] (by kernel_rfl) ?_
      refine TL.small fun h5 => ?_
      refine TL.fnOpen 5 rfl fun vs => ?_
      intro a w' hF hS o ho
      have hlen : vs.length = maps.length := (bag_get 6 rfl hS).len
      refine (?_ : TL Try.prog w _ (hp w) _ _ _ _ _ _ _) a w' hF hS o ho
      refine TL.append 0 rfl (Rd.row 1 rfl) Try.underlying136 (info_of Try.type138) (zv := (Try.t138.zero.getD (.bool false))) rfl rfl rfl (by decide) (by simp only [List.length_cons, List.length_nil]; omega) rfl rfl rfl rfl fun s4 => ?_
      refine TL.sel [0, 3, 3, 1, 1, 1, 1, 1] rfl ?_
      refine TL.ofSt (fun w hS => St.fnPush (ba := b_1) (a1 := a_1) (a2 := a_2) (a3 := a_3) (a4 := a_4) h1 hS) ?_
      refine TL.assign rfl rfl (v := SV.v s4) rfl ?_
      refine TL.done ?_
      refine TC.region ?_
      refine TL.move rfl rfl (v := SV.v t2) rfl ?_
      refine TL.move rfl rfl (v := .int .i64 x) rfl ?_
      refine TL.callH (R := G.impl_basis.R) hu Try.call87 rfl rfl rfl (fun w hS => G.impl_basis.calls w x) ?_
      rintro _ _ ⟨rfl, rfl⟩
      refine TL.move rfl rfl (v := .int .i64 x) rfl ?_
      refine TL.callH (R := G.impl_basis.R) hu Try.call87 rfl rfl rfl (fun w hS => G.impl_basis.calls w x) ?_
      rintro _ _ ⟨rfl, rfl⟩
      refine TL.blit (Evec 6) ([u, u] : List (Nat → UInt8)) Try.underlying137 Try.sizeOf41 Try.zeroValue41 rfl rfl rfl [(0, sval [.arr 6 (enf u8v u)]), (1, sval [.arr 6 (enf u8v u)])] rfl ⟨rfl, rfl, rfl, rfl, trivial⟩ rfl rfl fun s5 => ?_
      refine TL.small fun h6 => ?_
      refine TL.append 2 rfl (Rd.row 0 rfl) Try.underlying137 (info_of Try.type41) (zv := (Try.t41.zero.getD (.bool false))) rfl rfl rfl (by decide) (by simp only [List.length_cons, List.length_nil]; omega) rfl rfl rfl rfl fun s6 => ?_
      refine TL.assign rfl rfl (v := SV.v s6) rfl ?_
      refine TL.done ?_
      refine TC.region ?_
      refine TL.bin .i64 x 1 rfl rfl rfl rfl (v := .int .i64 (w64 (x + 1))) rfl ?_
      refine TL.move rfl rfl (v := .int .i64 (w64 (x + 1))) rfl ?_
      refine TL.done ?_
      exact TC.next1 ((maps ++ [behindP a_1 a_2 a_3 a_4 u, aheadP a_1 a_2 a_3 a_4 u], targets ++ [u, u], w64 (x + 1))) ((s4, s6)) ⟨rfl, rfl, rfl, rfl, rfl, rfl, trivial⟩ [1, 1, 1] rfl
    · exact TC.brk1 ((maps, targets, x)) ((t1, t2)) ⟨rfl, rfl, rfl, rfl, rfl, rfl, trivial⟩ [0, 0, 0] rfl
  · rintro ⟨maps, targets, x⟩ ⟨t1, t2⟩
    refine TC.seq ?_
    refine TC.region ?_
    refine TL.move rfl rfl (v := bp b_1 0) rfl ?_
    refine TL.move rfl rfl (v := SV.v t2) rfl ?_
    refine TL.move rfl rfl (v := SV.v t1) rfl ?_
    refine TL.fnOpen 0 rfl fun vs => ?_
    refine TL.call (R := G.impl_Algebra_solved.R) Try.call163 rfl rfl rfl (fun w hS => G.impl_Algebra_solved.calls w b_1 a_1 a_2 a_3 a_4 t2 targets t1 vs maps ((Src.at h1) w hS) ((Rd.row 2 rfl) w hS) ⟨(Rd.row 0 rfl) w hS, bag_get 1 rfl hS⟩) ?_
    rintro ⟨r_7, r_8⟩ _ _ ⟨rfl, rfl⟩
    refine TL.extract rfl rfl rfl (v := sval [.arr 6 (enf u8v r_7)]) rfl ?_
    refine TL.extract rfl rfl rfl (v := .bool r_8) rfl ?_
    refine TL.stM (news := [.arr 6 (enf u8v r_7)]) 3 0 1 rfl Try.sizeOf41 (ones_arr (fun _ => rfl) ones_nil) rfl rfl rfl rfl rfl rfl ?_
    refine TL.assign rfl rfl (v := .bool r_8) rfl ?_
    refine TL.done ?_
    exact TC.retF (Fin.body (fin2 (.inr rfl) rfl (.cellN rfl (Src.box 3 rfl) Try.isAgg41 Try.sizeOf41 rfl) (.tmp rfl) [] rfl ⟨rfl, rfl⟩))
end Go.Proofs.Ytiiljfpbcanphaa.G

/- impl.Algebra).findUnit, told by hand. -/
namespace Go.Proofs.Ytiiljfpbcanphaa.G
end Go.Proofs.Ytiiljfpbcanphaa.G

/- impl.IsAlgebra, as a pure function. -/
set_option linter.unusedVariables false
namespace Go.Proofs.Ytiiljfpbcanphaa.G
open Go Go.Sx Go.Proofs

def impl_IsAlgebra.f (a_1 : Int) (a_2 : Int) (a_3 : Nat → UInt8) (a_4 : Nat → UInt8) : Option Bool := (G.impl_isPrime.f a_1).bind (fun r_1 => (bif (!r_1) then some true else (G.impl_in.f a_2 1 6).bind (fun r_2 => some (!r_2))).bind (fun b_2 => (bif b_2 then some true else (G.impl_Algebra_tableOk.f a_1 a_2 a_3 a_4).bind (fun r_3 => some (!r_3))).bind (fun b_3 => (bif b_3 then some true else (G.impl_Algebra_associative.f a_1 a_2 a_3 a_4).bind (fun r_4 => some (!r_4))).bind (fun b_4 => (bif b_4 then some false else (G.impl_Algebra_findUnit.f a_1 a_2 a_3 a_4).bind (fun p => match p with | (r_5, r_6) => some r_6))))))

def impl_IsAlgebra.R (r : Bool) (v : Value) (L : List Asn) : Prop := v = .bool r ∧ L = []

set_option maxRecDepth 100000 in
set_option maxHeartbeats 4000000 in
theorem impl_IsAlgebra.calls (w : World) (a_1 : Int) (a_2 : Int) (a_3 : Nat → UInt8) (a_4 : Nat → UInt8) :
    ∀ r, impl_IsAlgebra.f a_1 a_2 a_3 a_4 = some r → Calls Try.prog 38 #[sval [.one (.int .i64 a_1), .one (.int .i64 a_2), .arr 216 (enf u8v a_3), .arr 6 (enf u8v a_4)]] w (Ret w (impl_IsAlgebra.R r)) := by

  refine calls_T (n := 28) (Γ := [(0, sval [.one (.int .i64 a_1), .one (.int .i64 a_2), .arr 216 (enf u8v a_3), .arr 6 (enf u8v a_4)])]) (R := impl_IsAlgebra.R) Try.func38 rfl rfl (Nat.le_of_ble_eq_true rfl) ⟨rfl, trivial⟩ ?_
  unfold impl_IsAlgebra.f
  refine TC.seq ?_
  refine TC.region ?_
  refine TL.box [.one (.int .i64 a_1), .one (.int .i64 a_2), .arr 216 (enf u8v a_3), .arr 6 (enf u8v a_4)] rfl rfl rfl rfl fun b_1 => ?_
  refine TL.assign rfl rfl (v := .bool false) rfl ?_
  refine TL.done ?_
  refine TC.seq ?_
  refine TC.seq ?_
  refine TC.region ?_
  refine TL.fa Try.underlying43 rfl Try.sizeOf2 rfl 0 rfl rfl rfl rfl ?_
  refine TL.load1 0 (Src.box 0 rfl) Try.isAgg2 rfl rfl rfl rfl rfl ?_
  refine TL.call (R := G.impl_isPrime.R) Try.call85 rfl rfl rfl (fun w hS => G.impl_isPrime.calls w a_1) ?_
  rintro r_1 _ _ ⟨rfl, rfl⟩
  refine TL.not r_1 rfl rfl rfl ?_
  refine TL.move rfl rfl (v := .bool (!r_1)) rfl ?_
  refine TL.cutJ (σ := Bool) (γ := Unit) (Γ' := fun b_2 _ => [(14, .bool b_2), (0, sval [.one (.int .i64 a_1), .one (.int .i64 a_2), .arr 216 (enf u8v a_3), .arr 6 (enf u8v a_4)]), (1, bp b_1 0), (2, .bool false), (5, bp b_1 0), (6, .int .i64 a_1), (7, .bool r_1), (8, .bool (!r_1)), (9, .bool (!r_1))]) (L' := fun _ _ => [box b_1 43 [.one (.int .i64 a_1), .one (.int .i64 a_2), .arr 216 (enf u8v a_3), .arr 6 (enf u8v a_4)]]) 5 ?_ ?_
  · refine TL.ifb (t := 9) (b := (!r_1)) rfl (fun c1 => ?_) (fun c2 => ?_)
    · refine TL.skip rfl rfl (by decide) ?_
      refine TL.skip rfl rfl (by decide) ?_
      refine TL.skip rfl rfl (by decide) ?_
      refine TL.skip rfl rfl (by decide) ?_
      refine TL.pick rfl rfl (b := true) rfl (r := .bool true) rfl ?_
      refine TL.done ?_
      exact TC.nrm (true) () ⟨rfl, rfl, rfl, rfl, rfl, rfl, rfl, rfl, (by rw [c1]; rfl), trivial⟩ [0] (by kernel_rfl)
    · refine TL.fa Try.underlying43 rfl Try.sizeOf2 rfl 1 rfl rfl rfl rfl ?_
      refine TL.load1 1 (Src.box 0 rfl) Try.isAgg2 rfl rfl rfl rfl rfl ?_
      refine TL.call (R := G.impl_in.R) Try.call72 rfl rfl rfl (fun w hS => G.impl_in.calls w a_2 1 6) ?_
      rintro r_2 _ _ ⟨rfl, rfl⟩
      refine TL.not r_2 rfl rfl rfl ?_
      refine TL.pick rfl rfl (b := false) rfl (r := .bool (!r_2)) rfl ?_
      refine TL.done ?_
      exact TC.nrm ((!r_2)) () ⟨rfl, rfl, rfl, rfl, rfl, rfl, rfl, rfl, (by rw [c2]; rfl), trivial⟩ [0] (by kernel_rfl)
  · rintro b_2 _
    refine TL.move rfl rfl (v := .bool b_2) rfl ?_
    refine TL.cutJ (σ := Bool) (γ := Unit) (Γ' := fun b_3 _ => [(18, .bool b_3), (0, sval [.one (.int .i64 a_1), .one (.int .i64 a_2), .arr 216 (enf u8v a_3), .arr 6 (enf u8v a_4)]), (1, bp b_1 0), (2, .bool false), (5, bp b_1 0), (6, .int .i64 a_1), (7, .bool r_1), (8, .bool (!r_1)), (9, .bool (!r_1)), (14, .bool b_2), (15, .bool b_2)]) (L' := fun _ _ => [box b_1 43 [.one (.int .i64 a_1), .one (.int .i64 a_2), .arr 216 (enf u8v a_3), .arr 6 (enf u8v a_4)]]) 3 ?_ ?_
    · refine TL.ifb (t := 15) (b := b_2) rfl (fun c3 => ?_) (fun c4 => ?_)
      · refine TL.skip rfl rfl (by decide) ?_
        refine TL.skip rfl rfl (by decide) ?_
        refine TL.pick rfl rfl (b := true) rfl (r := .bool true) rfl ?_
        refine TL.done ?_
        exact TC.nrm (true) () ⟨rfl, rfl, rfl, rfl, rfl, rfl, rfl, rfl, rfl, rfl, (by rw [c3]; rfl), trivial⟩ [0] (by kernel_rfl)
      · refine TL.call (R := G.impl_Algebra_tableOk.R) Try.call112 rfl rfl rfl (fun w hS => G.impl_Algebra_tableOk.calls w b_1 a_1 a_2 a_3 a_4 ((Src.box 0 rfl) w hS)) ?_
        rintro r_3 _ _ ⟨rfl, rfl⟩
        refine TL.not r_3 rfl rfl rfl ?_
        refine TL.pick rfl rfl (b := false) rfl (r := .bool (!r_3)) rfl ?_
        refine TL.done ?_
        exact TC.nrm ((!r_3)) () ⟨rfl, rfl, rfl, rfl, rfl, rfl, rfl, rfl, rfl, rfl, (by rw [c4]; rfl), trivial⟩ [0] (by kernel_rfl)
    · rintro b_3 _
      refine TL.move rfl rfl (v := .bool b_3) rfl ?_
      refine TL.cutJ (σ := Bool) (γ := Unit) (Γ' := fun b_4 _ => [(22, .bool b_4), (0, sval [.one (.int .i64 a_1), .one (.int .i64 a_2), .arr 216 (enf u8v a_3), .arr 6 (enf u8v a_4)]), (1, bp b_1 0), (2, .bool false), (5, bp b_1 0), (6, .int .i64 a_1), (7, .bool r_1), (8, .bool (!r_1)), (9, .bool (!r_1)), (14, .bool b_2), (15, .bool b_2), (18, .bool b_3), (19, .bool b_3)]) (L' := fun _ _ => [box b_1 43 [.one (.int .i64 a_1), .one (.int .i64 a_2), .arr 216 (enf u8v a_3), .arr 6 (enf u8v a_4)]]) 3 ?_ ?_
      · refine TL.ifb (t := 19) (b := b_3) rfl (fun c5 => ?_) (fun c6 => ?_)
        · refine TL.skip rfl rfl (by decide) ?_
          refine TL.skip rfl rfl (by decide) ?_
          refine TL.pick rfl rfl (b := true) rfl (r := .bool true) rfl ?_
          refine TL.done ?_
          exact TC.nrm (true) () ⟨rfl, rfl, rfl, rfl, rfl, rfl, rfl, rfl, rfl, rfl, rfl, rfl, (by rw [c5]; rfl), trivial⟩ [0] (by kernel_rfl)
        · refine TL.call (R := G.impl_Algebra_associative.R) Try.call113 rfl rfl rfl (fun w hS => G.impl_Algebra_associative.calls w b_1 a_1 a_2 a_3 a_4 ((Src.box 0 rfl) w hS)) ?_
          rintro r_4 _ _ ⟨rfl, rfl⟩
          refine TL.not r_4 rfl rfl rfl ?_
          refine TL.pick rfl rfl (b := false) rfl (r := .bool (!r_4)) rfl ?_
          refine TL.done ?_
          exact TC.nrm ((!r_4)) () ⟨rfl, rfl, rfl, rfl, rfl, rfl, rfl, rfl, rfl, rfl, rfl, rfl, (by rw [c6]; rfl), trivial⟩ [0] (by kernel_rfl)
      · rintro b_4 _
        refine TL.done ?_
        refine TC.cond (b := b_4) rfl (fun c7 => ?_) (fun c8 => ?_)
        · refine TC.seq ?_
          refine TC.region ?_
          refine TL.assign rfl rfl (v := .bool false) rfl ?_
          refine TL.done ?_
          exact TC.retF (Fin.body (fin1 (.inr rfl) rfl (.tmp rfl) [] rfl ⟨rfl, rfl⟩))
        · refine TC.skip ?_
          refine TC.seq ?_
          refine TC.region ?_
          refine TL.call (R := G.impl_Algebra_findUnit.R) Try.call114 rfl rfl rfl (fun w hS => G.impl_Algebra_findUnit.calls w b_1 a_1 a_2 a_3 a_4 ((Src.box 0 rfl) w hS)) ?_
          rintro ⟨r_5, r_6⟩ _ _ ⟨rfl, rfl⟩
          refine TL.move rfl rfl (v := .tuple #[sval [.arr 6 (enf u8v r_5)], .bool r_6]) rfl ?_
          refine TL.extract rfl rfl rfl (v := sval [.arr 6 (enf u8v r_5)]) rfl ?_
          refine TL.extract rfl rfl rfl (v := .bool r_6) rfl ?_
          refine TL.alloc [.arr 6 (enf u8v (fun _ => (0 : UInt8)))] rfl rfl Try.zeroValue41 rfl fun b_5 => ?_
          refine TL.stM (news := [.arr 6 (enf u8v r_5)]) 0 0 1 rfl Try.sizeOf41 (ones_arr (fun _ => rfl) ones_nil) rfl rfl rfl rfl rfl rfl ?_
          refine TL.assign rfl rfl (v := .bool r_6) rfl ?_
          refine TL.done ?_
          refine TC.seq ?_
          refine TC.region ?_
          refine TL.move rfl rfl (v := .bool r_6) rfl ?_
          refine TL.assign rfl rfl (v := .bool r_6) rfl ?_
          refine TL.done ?_
          exact TC.retF (Fin.body (fin1 (.inr rfl) rfl (.tmp rfl) [] rfl ⟨rfl, rfl⟩))

end Go.Proofs.Ytiiljfpbcanphaa.G

/- laws.FnExactIsAlgebra, as a pure function. -/
set_option linter.unusedVariables false
namespace Go.Proofs.Ytiiljfpbcanphaa.G
open Go Go.Sx Go.Proofs

def laws_FnExactIsAlgebra.f (aA1 : Int) (aA2 : Int) (aA3 : Nat → UInt8) (aA4 : Nat → UInt8) : Option Bool := (G.laws_toAlgebra.f aA1 aA2 aA3 aA4).bind (fun p => match p with | (r_1, r_2, r_3, r_4) => (G.spec_IsAlgebra.f r_1 r_2 r_3 r_4).bind (fun r_5 => (G.laws_toAlgebra.f aA1 aA2 aA3 aA4).bind (fun p => match p with | (r_6, r_7, r_8, r_9) => (G.impl_IsAlgebra.f r_6 r_7 r_8 r_9).bind (fun r_10 => (bif (r_10 != r_5) then some false else some true)))))

def laws_FnExactIsAlgebra.R (r : Bool) (v : Value) (L : List Asn) : Prop := v = .bool r ∧ L = []

set_option maxRecDepth 100000 in
set_option maxHeartbeats 4000000 in
theorem laws_FnExactIsAlgebra.calls (w : World) (aA1 : Int) (aA2 : Int) (aA3 : Nat → UInt8) (aA4 : Nat → UInt8) :
    ∀ r, laws_FnExactIsAlgebra.f aA1 aA2 aA3 aA4 = some r → Calls Try.prog 10 #[sval [.one (.int .i64 aA1), .one (.int .i64 aA2), .arr 216 (enf u8v aA3), .arr 6 (enf u8v aA4)]] w (Ret w (laws_FnExactIsAlgebra.R r)) := by

  refine calls_T (n := 14) (Γ := [(0, sval [.one (.int .i64 aA1), .one (.int .i64 aA2), .arr 216 (enf u8v aA3), .arr 6 (enf u8v aA4)])]) (R := laws_FnExactIsAlgebra.R) Try.func10 rfl rfl (Nat.le_of_ble_eq_true rfl) ⟨rfl, trivial⟩ ?_
  unfold laws_FnExactIsAlgebra.f
  refine TC.seq ?_
  refine TC.region ?_
  refine TL.box [.one (.int .i64 aA1), .one (.int .i64 aA2), .arr 216 (enf u8v aA3), .arr 6 (enf u8v aA4)] rfl rfl rfl rfl fun b_1 => ?_
  refine TL.assign rfl rfl (v := .bool false) rfl ?_
  refine TL.done ?_
  refine TC.seq ?_
  refine TC.region ?_
  refine TL.loadM 0 4 (Src.box 0 rfl) Try.isAgg53 Try.sizeOf53 (mid := [.one (.int .i64 aA1), .one (.int .i64 aA2), .arr 216 (enf u8v aA3), .arr 6 (enf u8v aA4)]) rfl rfl rfl rfl rfl rfl ?_
  refine TL.call (R := G.laws_toAlgebra.R) Try.call37 rfl rfl rfl (fun w hS => G.laws_toAlgebra.calls w aA1 aA2 aA3 aA4) ?_
  rintro ⟨r_1, r_2, r_3, r_4⟩ _ _ ⟨rfl, rfl⟩
  refine TL.call (R := G.spec_IsAlgebra.R) Try.call36 rfl rfl rfl (fun w hS => G.spec_IsAlgebra.calls w r_1 r_2 r_3 r_4) ?_
  rintro r_5 _ _ ⟨rfl, rfl⟩
  refine TL.assign rfl rfl (v := .bool r_5) rfl ?_
  refine TL.done ?_
  refine TC.seq ?_
  refine TC.region ?_
  refine TL.loadM 0 4 (Src.box 0 rfl) Try.isAgg53 Try.sizeOf53 (mid := [.one (.int .i64 aA1), .one (.int .i64 aA2), .arr 216 (enf u8v aA3), .arr 6 (enf u8v aA4)]) rfl rfl rfl rfl rfl rfl ?_
  refine TL.call (R := G.laws_toAlgebra.R) Try.call37 rfl rfl rfl (fun w hS => G.laws_toAlgebra.calls w aA1 aA2 aA3 aA4) ?_
  rintro ⟨r_6, r_7, r_8, r_9⟩ _ _ ⟨rfl, rfl⟩
  refine TL.call (R := G.impl_IsAlgebra.R) Try.call38 rfl rfl rfl (fun w hS => G.impl_IsAlgebra.calls w r_6 r_7 r_8 r_9) ?_
  rintro r_10 _ _ ⟨rfl, rfl⟩
  refine TL.assign rfl rfl (v := .bool r_10) rfl ?_
  refine TL.done ?_
  refine TC.seq ?_
  refine TC.seq ?_
  refine TC.region ?_
  refine TL.move rfl rfl (v := .bool r_10) rfl ?_
  refine TL.move rfl rfl (v := .bool r_5) rfl ?_
  refine TL.boolNe r_10 r_5 Try.underlying4 rfl rfl rfl rfl ?_
  refine TL.done ?_
  refine TC.cond (b := (r_10 != r_5)) rfl (fun c1 => ?_) (fun c2 => ?_)
  · refine TC.seq ?_
    refine TC.region ?_
    refine TL.assign rfl rfl (v := .bool false) rfl ?_
    refine TL.done ?_
    exact TC.retF (Fin.body (fin1 (.inr rfl) rfl (.tmp rfl) [] rfl ⟨rfl, rfl⟩))
  · refine TC.skip ?_
    refine TC.seq ?_
    refine TC.region ?_
    refine TL.assign rfl rfl (v := .bool true) rfl ?_
    refine TL.done ?_
    exact TC.retF (Fin.body (fin1 (.inr rfl) rfl (.tmp rfl) [] rfl ⟨rfl, rfl⟩))

end Go.Proofs.Ytiiljfpbcanphaa.G

/- impl.pool).add, as a pure function. -/
set_option linter.unusedVariables false
namespace Go.Proofs.Ytiiljfpbcanphaa.G
open Go Go.Sx Go.Proofs

def impl_pool_add.f (p1 : List Int) : Option (Int × (List Int)) := small (p1.length + ([(p1.length : Int)] : List Int).length) (some ((w64 (((p1 ++ ([(p1.length : Int)] : List Int)).length : Int) - 1)), (p1 ++ ([(p1.length : Int)] : List Int))))

def impl_pool_add.R (b_1 : Nat) (r : Int × (List Int)) (v : Value) (L : List Asn) : Prop := ∃ (s0 : SV), v = .int .i64 r.1 ∧ L = [box b_1 150 [.one (SV.v s0)], row Ei 3 s0 r.2]

set_option maxRecDepth 100000 in
set_option maxHeartbeats 4000000 in
theorem impl_pool_add.calls (w0 : World) (I : Hp) (w : World) (b_1 : Nat) (s1 : SV) (p1 : List Int) (hS : St w0 I [box b_1 150 [.one (SV.v s1)], row Ei 3 s1 p1] w) :
    ∀ r, impl_pool_add.f p1 = some r → Calls Try.prog 188 #[bp b_1 0] w (RetM w0 I ((impl_pool_add.R b_1) r)) := by

  refine calls_TM (w0 := w0) (I := I) (L := [box b_1 150 [.one (SV.v s1)], row Ei 3 s1 p1]) (n := 19) (Γ := [(0, bp b_1 0)]) (R := (impl_pool_add.R b_1)) Try.func188 rfl rfl (Nat.le_of_ble_eq_true rfl) ⟨rfl, trivial⟩ ?_ w hS
  unfold impl_pool_add.f
  refine TC.seq ?_
  refine TC.region ?_
  refine TL.assign rfl rfl (v := .int .i64 0) rfl ?_
  refine TL.done ?_
  refine TC.seq ?_
  refine TC.wk (Γ' := [(0, bp b_1 0), (2, .int .i64 0)]) ⟨rfl, rfl, trivial⟩ ?_
  refine TC.small fun h1 => ?_
  refine TC.drawG [(0, bp b_1 0), (2, .int .i64 0)] [] ⟨rfl, rfl, trivial⟩ trivial (fun l_ g1 => [(bif nb l_ 11 then box b_1 150 [.one (SV.v (gs (g1 72)))] else box b_1 150 [.one (SV.v s1)]), (bif nb l_ 9 then row Ei 3 (gs (g1 72)) (p1 ++ ([(p1.length : Int)] : List Int)) else row Ei 3 s1 p1), (bif nb l_ 8 then row Ei 3 (gs (g1 64)) ([(p1.length : Int)] : List Int) else emp)]) (fun g1 => [bp b_1 0, bp b_1 0, bp b_1 0, SV.v s1, bp b_1 0, bp b_1 0, SV.v s1, .int .i64 (p1.length : Int), SV.v (gs (g1 64)), SV.v (gs (g1 72)), bp b_1 0, undef]) [[], [], [1], [1, 2], [], [4], [4, 5], [4, 5, 6], [4, 5, 6, 7], [1, 2, 3, 4, 5, 6, 7, 8], [0, 1, 2, 3, 4, 5, 6, 7, 8, 9], [0, 1, 2, 3, 4, 5, 6, 7, 8, 9, 10]] [[some false, none, none, none, none, none, none, none, none, none, some false, some false], [none, some false, some false, some false, none, none, none, none, none, some false, some false, some false], [none, some true, some false, some false, none, none, none, none, none, some false, some false, some false], [none, some true, some true, some false, none, none, none, none, none, some false, some false, some false], [none, none, none, none, some false, some false, some false, some false, some false, some false, some false, some false], [none, none, none, none, some true, some false, some false, some false, some false, some false, some false, some false], [none, none, none, none, some true, some true, some false, some false, some false, some false, some false, some false], [none, none, none, none, some true, some true, some true, some false, some false, some false, some false, some false], [none, none, none, none, some true, some true, some true, some true, some false, some false, some false, some false], [none, some true, some true, some true, some true, some true, some true, some true, some true, some false, some false, some false], [some true, some true, some true, some true, some true, some true, some true, some true, some true, some true, some false, some false], [some true, some true, some true, some true, some true, some true, some true, some true, some true, some true, some true, some false]] (by kernel_rfl) (fun _ => rfl) rfl rfl rfl rfl rfl (fun _ _ => ⟨⟨⟨⟨⟨⟨⟨⟨⟨⟨⟨⟨trivial, rfl⟩, rfl⟩, rfl⟩, rfl⟩, rfl⟩, rfl⟩, rfl⟩, rfl⟩, rfl⟩, rfl⟩, rfl⟩, rfl⟩) 1 [1, 1, 0] (fun _ => by kernel_rfl) ?_ ?_
  · refine ⟨rfl, ?_, rfl, ?_, rfl, ?_, rfl, ?_, rfl, ?_, rfl, ?_, rfl, ?_, rfl, ?_, rfl, ?_, rfl, ?_, rfl, ?_, rfl, ?_, trivial⟩
    · intro b1_ b2_ b3_ b4_ b5_ b6_ b7_ b8_ b9_ g1
      refine TL.move rfl rfl (v := bp b_1 0) rfl ?_
      refine TL.done ?_
      exact TC.nrm () [] ⟨rfl, trivial⟩ [0, 0, 0] (by kernel_rfl)
    · intro b0_ b4_ b5_ b6_ b7_ b8_ g1
      refine TL.move rfl rfl (v := bp b_1 0) rfl ?_
      refine TL.done ?_
      exact TC.nrm () [] ⟨rfl, trivial⟩ [0, 0, 0] (by kernel_rfl)
    · intro b0_ b4_ b5_ b6_ b7_ b8_ g1
      refine TL.nilCheck rfl rfl rfl ?_
      refine TL.done ?_
      exact TC.nrm () [] ⟨rfl, trivial⟩ [0, 0, 0] (by kernel_rfl)
    · intro b0_ b4_ b5_ b6_ b7_ b8_ g1
      refine TL.asL [box b_1 150 [.one (SV.v s1)], row Ei 3 s1 p1, (bif b8_ then row Ei 3 (gs (g1 64)) ([(p1.length : Int)] : List Int) else emp)] (by kernel_rfl) ?_
      refine TL.load1 0 (Src.box 0 rfl) Try.isAgg150 rfl rfl rfl rfl rfl ?_
      refine TL.done ?_
      exact TC.nrm () [] ⟨rfl, trivial⟩ [0, 0, 0] (by kernel_rfl)
    · intro b0_ b1_ b2_ b3_ g1
      refine TL.move rfl rfl (v := bp b_1 0) rfl ?_
      refine TL.done ?_
      exact TC.nrm () [] ⟨rfl, trivial⟩ [0, 0, 0] (by kernel_rfl)
    · intro b0_ b1_ b2_ b3_ g1
      refine TL.nilCheck rfl rfl rfl ?_
      refine TL.done ?_
      exact TC.nrm () [] ⟨rfl, trivial⟩ [0, 0, 0] (by kernel_rfl)
    · intro b0_ b1_ b2_ b3_ g1
      refine TL.asL [box b_1 150 [.one (SV.v s1)], row Ei 3 s1 p1, emp] (by kernel_rfl) ?_
      refine TL.load1 0 (Src.box 0 rfl) Try.isAgg150 rfl rfl rfl rfl rfl ?_
      refine TL.done ?_
      exact TC.nrm () [] ⟨rfl, trivial⟩ [0, 0, 0] (by kernel_rfl)
    · intro b0_ b1_ b2_ b3_ g1
      refine TL.asL [box b_1 150 [.one (SV.v s1)], row Ei 3 s1 p1, emp] (by kernel_rfl) ?_
      refine TL.len (Rd.row 1 rfl) Try.underlying150 rfl rfl rfl ?_
      refine TL.done ?_
      exact TC.nrm () [] ⟨rfl, trivial⟩ [0, 0, 0] (by kernel_rfl)
    · intro b0_ b1_ b2_ b3_ g1
      refine TL.asL [box b_1 150 [.one (SV.v s1)], row Ei 3 s1 p1, emp] (by kernel_rfl) ?_
      refine TL.blit Ei ([(p1.length : Int)] : List Int) Try.underlying150 Try.sizeOf3 Try.zeroValue3 rfl rfl rfl [(0, .int .i64 (p1.length : Int))] rfl ⟨rfl, rfl, trivial⟩ rfl rfl fun s2 => ?_
      refine TL.done ?_
      exact TC.nrm () [[s2]] ⟨rfl, trivial⟩ [1, 1, 0] (by kernel_rfl)
    · intro b0_ g1
      refine TL.asL [box b_1 150 [.one (SV.v s1)], row Ei 3 s1 p1, row Ei 3 (gs (g1 64)) ([(p1.length : Int)] : List Int)] (by kernel_rfl) ?_
      refine TL.append 1 rfl (Rd.row 2 rfl) Try.underlying150 (info_of Try.type3) (zv := (Try.t3.zero.getD (.bool false))) rfl rfl rfl (by decide) h1 rfl rfl rfl rfl fun s3 => ?_
      refine TL.done ?_
      exact TC.nrm () [[s3]] ⟨rfl, trivial⟩ [0, 0, 0] (by kernel_rfl)
    · intro g1
      refine TL.nilCheck rfl rfl rfl ?_
      refine TL.done ?_
      exact TC.nrm () [] ⟨rfl, trivial⟩ [0, 0, 0] (by kernel_rfl)
    · intro g1
      refine TL.asL [box b_1 150 [.one (SV.v s1)], row Ei 3 (gs (g1 72)) (p1 ++ ([(p1.length : Int)] : List Int)), row Ei 3 (gs (g1 64)) ([(p1.length : Int)] : List Int)] (by kernel_rfl) ?_
      refine TL.st1 0 0 rfl Try.sizeOf150 rfl rfl rfl rfl rfl rfl rfl ?_
      refine TL.done ?_
      exact TC.nrm () [] trivial [0, 0, 0] (by kernel_rfl)
  · intro g1
    refine TC.asL [box b_1 150 [.one (SV.v (gs (g1 72)))], row Ei 3 (gs (g1 72)) (p1 ++ ([(p1.length : Int)] : List Int)), row Ei 3 (gs (g1 64)) ([(p1.length : Int)] : List Int)] (by kernel_rfl) ?_
    refine TC.seq ?_
    refine TC.region ?_
    refine TL.move rfl rfl (v := bp b_1 0) rfl ?_
    refine TL.nilCheck rfl rfl rfl ?_
    refine TL.load1 0 (Src.box 0 rfl) Try.isAgg150 rfl rfl rfl rfl rfl ?_
    refine TL.len (Rd.row 1 rfl) Try.underlying150 rfl rfl rfl ?_
    refine TL.bin .i64 ((p1 ++ ([(p1.length : Int)] : List Int)).length : Int) 1 rfl rfl rfl rfl (v := .int .i64 (w64 (((p1 ++ ([(p1.length : Int)] : List Int)).length : Int) - 1))) rfl ?_
    refine TL.assign rfl rfl (v := .int .i64 (w64 (((p1 ++ ([(p1.length : Int)] : List Int)).length : Int) - 1))) rfl ?_
    refine TL.done ?_
    exact TC.retF (Fin.body (fin1 (.inr rfl) rfl (.tmp rfl) [0, 0] rfl ⟨(gs (g1 72)), rfl, rfl⟩))

end Go.Proofs.Ytiiljfpbcanphaa.G
