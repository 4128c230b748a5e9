/- impl.CoboundaryOf, as a pure function. -/
import Derived.Test.YtcombgcjgdkbiaaProg
import Derived.Test.YtcombgcjgdkbiaaSx9
import Derived.Test.YtcombgcjgdkbiaaQ59
import Derived.Test.YtcombgcjgdkbiaaQ65
import Derived.Test.YtcombgcjgdkbiaaQ66
import Derived.Test.YtcombgcjgdkbiaaQ97
import Derived.Test.YtcombgcjgdkbiaaQ99
import Derived.Test.YtcombgcjgdkbiaaQ100
set_option linter.unusedVariables false
namespace Go.Proofs.Ytcombgcjgdkbiaa.G
open Go Go.Sx Go.Proofs

def impl_CoboundaryOf.b0 (x4 : List Int) (x1 : Int) (x2 : Int) (x3 : Nat → UInt8) (x6 : Int) (r_4 : Int) : (List Int) × Int → Option (LB ((List Int) × Int)) := fun p => match p with | (x7, x8) => (bif (decide (x8 < (x4.length : Int))) then chk x8 x4.length (nz x1 ((G.impl_Group_times.f x2 x3 x6 x8).bind (fun r_5 => chk r_5 x4.length ((G.impl_inverse.f (gt x4 r_5) x1).bind (fun r_6 => small (x7.length + ([(Int.tmod (w64 ((Int.tmod (w64 ((Int.tmod (w64 ((gt x4 x6) * (gt x4 x8))) x1) * r_6)) x1) * r_4)) x1)] : List Int).length) (some (.next ((x7 ++ ([(Int.tmod (w64 ((Int.tmod (w64 ((Int.tmod (w64 ((gt x4 x6) * (gt x4 x8))) x1) * r_6)) x1) * r_4)) x1)] : List Int)), (w64 (x8 + 1)))))))))) else some (.brk (x7, x8)))

def impl_CoboundaryOf.b1 (x4 : List Int) (x1 : Int) (x2 : Int) (x3 : Nat → UInt8) (r_4 : Int) : (List (List Int)) × Int → Option (LB ((List (List Int)) × Int)) := fun p => match p with | (x5, x6) => (bif (decide (x6 < (x4.length : Int))) then chk x6 x4.length ((loop1 (impl_CoboundaryOf.b0 x4 x1 x2 x3 x6 r_4) (([] : List Int), 0)).bind (fun p => match p with | (x7, x8) => small (x5.length + 1) (some (.next ((x5 ++ [x7]), (w64 (x6 + 1))))))) else some (.brk (x5, x6)))

def impl_CoboundaryOf.f (x1 : Int) (x2 : Int) (x3 : Nat → UInt8) (x4 : List Int) : Option ((List (List Int)) × Int) := (G.impl_primed.f x1 x2 x3).bind (fun r_1 => (bif (r_1 != 0) then some (([] : List (List Int)), r_1) else (G.impl_Group_n.f x2 x3).bind (fun r_2 => (bif ((x4.length : Int) != r_2) then some true else (G.slices_ContainsFunc_int64_int64.f x4 (fun x0_ => G.impl_CoboundaryOf_1.f x0_ x1)).bind (fun r_3 => some r_3)).bind (fun b_3 => (bif b_3 then some (([] : List (List Int)), 2) else chk 0 x4.length ((G.impl_inverse.f (gt x4 0) x1).bind (fun r_4 => (loop1 (impl_CoboundaryOf.b1 x4 x1 x2 x3 r_4) (([] : List (List Int)), 0)).bind (fun p => match p with | (x5, x6) => some (x5, 0)))))))))

def impl_CoboundaryOf.R (r : (List (List Int)) × Int) (v : Value) (L : List Asn) : Prop := ∃ (s0 : SV) (ss0 : List SV), v = .tuple #[SV.v s0, .int .i64 r.2] ∧ L = [mat Ei 2 22 s0 ss0 r.1]

set_option maxRecDepth 100000 in
set_option maxHeartbeats 4000000 in
theorem impl_CoboundaryOf.calls (w : World) (x1 : Int) (x2 : Int) (x3 : Nat → UInt8) (s1 : SV) (x4 : List Int) (h1 : Reads Ei (hp w) s1 x4) :
    ∀ r, impl_CoboundaryOf.f x1 x2 x3 x4 = some r → Calls Try.prog 40 #[.int .i64 x1, sval [.one (.int .i64 x2), .arr 36 (enf u8v x3)], SV.v s1] w (Ret w (impl_CoboundaryOf.R r)) := by

  refine calls_T (n := 82) (Γ := [(0, .int .i64 x1), (1, sval [.one (.int .i64 x2), .arr 36 (enf u8v x3)]), (2, SV.v s1)]) (R := impl_CoboundaryOf.R) Try.func40 rfl rfl (Nat.le_of_ble_eq_true rfl) ⟨rfl, rfl, rfl, trivial⟩ ?_
  unfold impl_CoboundaryOf.f
  refine TC.seq ?_
  refine TC.region ?_
  refine TL.box [.one (.int .i64 x1)] rfl rfl rfl rfl fun b_1 => ?_
  refine TL.box [.one (.int .i64 x2), .arr 36 (enf u8v x3)] rfl rfl rfl rfl fun b_2 => ?_
  refine TL.assign rfl rfl (v := SV.v ⟨none, 0, 0⟩) rfl ?_
  refine TL.assign rfl rfl (v := .int .i64 0) rfl ?_
  refine TL.done ?_
  refine TC.seq ?_
  refine TC.seq ?_
  refine TC.region ?_
  refine TL.load1 0 (Src.box 1 rfl) Try.isAgg2 rfl rfl rfl rfl rfl ?_
  refine TL.loadM 0 2 (Src.box 0 rfl) Try.isAgg37 Try.sizeOf37 (mid := [.one (.int .i64 x2), .arr 36 (enf u8v x3)]) rfl rfl rfl rfl rfl rfl ?_
  refine TL.call (R := G.impl_primed.R) Try.call97 rfl rfl rfl (fun w hS => G.impl_primed.calls w x1 x2 x3) ?_
  rintro r_1 _ _ ⟨rfl, rfl⟩
  refine TL.assign rfl rfl (v := .int .i64 r_1) rfl ?_
  refine TL.done ?_
  refine TC.seq ?_
  refine TC.region ?_
  refine TL.move rfl rfl (v := .int .i64 r_1) rfl ?_
  refine TL.bin .i64 r_1 0 rfl rfl rfl rfl (v := .bool (r_1 != 0)) rfl ?_
  refine TL.done ?_
  refine TC.cond (b := (r_1 != 0)) rfl (fun c1 => ?_) (fun c2 => ?_)
  · refine TC.seq ?_
    refine TC.region ?_
    refine TL.move rfl rfl (v := .int .i64 r_1) rfl ?_
    refine TL.assign rfl rfl (v := SV.v ⟨none, 0, 0⟩) rfl ?_
    refine TL.assign rfl rfl (v := .int .i64 r_1) rfl ?_
    refine TL.done ?_
    refine TC.nilmat Ei 2 22 ?_
    exact TC.retF (Fin.body (fin2 (.inr rfl) rfl (.tmp rfl) (.tmp rfl) [0] rfl ⟨⟨none, 0, 0⟩, [], rfl, rfl⟩))
  · refine TC.skip ?_
    refine TC.seq ?_
    refine TC.seq ?_
    refine TC.region ?_
    refine TL.move rfl rfl (v := SV.v s1) rfl ?_
    refine TL.len (Rd.old h1) Try.underlying22 rfl rfl rfl ?_
    refine TL.call (R := G.impl_Group_n.R) Try.call65 rfl rfl rfl (fun w hS => G.impl_Group_n.calls w b_2 x2 x3 ((Src.box 0 rfl) w hS)) ?_
    rintro r_2 _ _ ⟨rfl, rfl⟩
    refine TL.bin .i64 (x4.length : Int) r_2 rfl rfl rfl rfl (v := .bool ((x4.length : Int) != r_2)) rfl ?_
    refine TL.move rfl rfl (v := .bool ((x4.length : Int) != r_2)) rfl ?_
    refine TL.cutJ (σ := Bool) (γ := Unit) (Γ' := fun b_3 _ => [(30, .bool b_3), (0, .int .i64 x1), (1, sval [.one (.int .i64 x2), .arr 36 (enf u8v x3)]), (2, SV.v s1), (3, bp b_1 0), (4, bp b_2 0), (6, SV.v ⟨none, 0, 0⟩), (7, .int .i64 0), (16, .int .i64 x1), (17, sval [.one (.int .i64 x2), .arr 36 (enf u8v x3)]), (18, .int .i64 r_1), (8, .int .i64 r_1), (19, .int .i64 r_1), (20, .bool (r_1 != 0)), (22, SV.v s1), (23, .int .i64 (x4.length : Int)), (24, .int .i64 r_2), (25, .bool ((x4.length : Int) != r_2)), (26, .bool ((x4.length : Int) != r_2))]) (L' := fun _ _ => [box b_2 37 [.one (.int .i64 x2), .arr 36 (enf u8v x3)], box b_1 2 [.one (.int .i64 x1)]]) 4 ?_ ?_
    · refine TL.ifb (t := 26) (b := ((x4.length : Int) != r_2)) rfl (fun c3 => ?_) (fun c4 => ?_)
      · refine TL.skip rfl rfl (by decide) ?_
        refine TL.skip rfl rfl (by decide) ?_
        refine TL.skip rfl rfl (by decide) ?_
        refine TL.pick rfl rfl (b := true) rfl (r := .bool true) rfl ?_
        refine TL.done ?_
        exact TC.nrm (true) () ⟨rfl, rfl, rfl, rfl, rfl, rfl, rfl, rfl, rfl, rfl, rfl, rfl, rfl, rfl, rfl, rfl, rfl, rfl, (by rw [c3]; rfl), trivial⟩ [0, 0] rfl
      · refine TL.move rfl rfl (v := SV.v s1) rfl ?_
        refine TL.makeFunc rfl rfl (us := []) (vs := [bp b_1 0]) rfl rfl ?_
        refine TL.call (R := G.slices_ContainsFunc_int64_int64.R) Try.call99 rfl rfl rfl (fun w hS => G.slices_ContainsFunc_int64_int64.calls w s1 x4 100 [] [bp b_1 0] (fun x0_ => G.impl_CoboundaryOf_1.f x0_ x1) ((Rd.old h1) w hS) Try.call100 (fun w_ hle_ x0_ r_ hr_ => G.impl_CoboundaryOf_1.calls w_ x0_ b_1 x1 (((Src.box 1 rfl) w hS).mono hle_) r_ hr_)) ?_
        rintro r_3 _ _ ⟨rfl, rfl⟩
        refine TL.pick rfl rfl (b := false) rfl (r := .bool r_3) rfl ?_
        refine TL.done ?_
        exact TC.nrm (r_3) () ⟨rfl, rfl, rfl, rfl, rfl, rfl, rfl, rfl, rfl, rfl, rfl, rfl, rfl, rfl, rfl, rfl, rfl, rfl, (by rw [c4]; rfl), trivial⟩ [0, 0] rfl
    · rintro b_3 _
      refine TL.done ?_
      refine TC.cond (b := b_3) rfl (fun c5 => ?_) (fun c6 => ?_)
      · refine TC.seq ?_
        refine TC.region ?_
        refine TL.assign rfl rfl (v := SV.v ⟨none, 0, 0⟩) rfl ?_
        refine TL.assign rfl rfl (v := .int .i64 2) rfl ?_
        refine TL.done ?_
        refine TC.nilmat Ei 2 22 ?_
        exact TC.retF (Fin.body (fin2 (.inr rfl) rfl (.tmp rfl) (.tmp rfl) [0] rfl ⟨⟨none, 0, 0⟩, [], rfl, rfl⟩))
      · refine TC.skip ?_
        refine TC.seq ?_
        refine TC.wk (Γ' := [(0, .int .i64 x1), (1, sval [.one (.int .i64 x2), .arr 36 (enf u8v x3)]), (2, SV.v s1), (3, bp b_1 0), (4, bp b_2 0), (6, SV.v ⟨none, 0, 0⟩), (7, .int .i64 0), (16, .int .i64 x1), (17, sval [.one (.int .i64 x2), .arr 36 (enf u8v x3)]), (18, .int .i64 r_1), (8, .int .i64 r_1), (19, .int .i64 r_1), (20, .bool (r_1 != 0)), (22, SV.v s1), (23, .int .i64 (x4.length : Int)), (24, .int .i64 r_2), (25, .bool ((x4.length : Int) != r_2)), (26, .bool ((x4.length : Int) != r_2)), (30, .bool b_3)]) ⟨rfl, rfl, rfl, rfl, rfl, rfl, rfl, rfl, rfl, rfl, rfl, rfl, rfl, rfl, rfl, rfl, rfl, rfl, rfl, trivial⟩ ?_
        refine TC.chk fun h2 => ?_
        refine TC.bindE ?_
        rintro r_4 hr1
        refine TC.drawG [(0, .int .i64 x1), (1, sval [.one (.int .i64 x2), .arr 36 (enf u8v x3)]), (2, SV.v s1), (3, bp b_1 0), (4, bp b_2 0), (6, SV.v ⟨none, 0, 0⟩), (7, .int .i64 0), (16, .int .i64 x1), (17, sval [.one (.int .i64 x2), .arr 36 (enf u8v x3)]), (18, .int .i64 r_1), (8, .int .i64 r_1), (19, .int .i64 r_1), (20, .bool (r_1 != 0)), (22, SV.v s1), (23, .int .i64 (x4.length : Int)), (24, .int .i64 r_2), (25, .bool ((x4.length : Int) != r_2)), (26, .bool ((x4.length : Int) != r_2)), (30, .bool b_3)] [] ⟨rfl, rfl, rfl, rfl, rfl, rfl, rfl, rfl, rfl, rfl, rfl, rfl, rfl, rfl, rfl, rfl, rfl, rfl, rfl, trivial⟩ trivial (fun l_ g1 => [box b_2 37 [.one (.int .i64 x2), .arr 36 (enf u8v x3)], box b_1 2 [.one (.int .i64 x1)], (bif nb l_ 0 then mat Ei 2 22 (gs (g1 0)) ([] : List SV) ([] : List (List Int)) else emp), (bif nb l_ 0 then emp else emp)]) (fun g1 => [SV.v (gs (g1 0)), SV.v s1, ep s1 0, .int .i64 (gt x4 0), .int .i64 x1, .int .i64 r_4, SV.v (gs (g1 0)), .int .i64 r_4]) [[], [], [1], [1, 2], [], [1, 2, 3, 4], [0, 1, 2, 3, 4, 5], [0, 1, 2, 3, 4, 5, 6]] [[some false, none, none, none, none, none, some false, some false], [none, some false, some false, some false, none, some false, some false, some false], [none, some true, some false, some false, none, some false, some false, some false], [none, some true, some true, some false, none, some false, some false, some false], [none, none, none, none, some false, some false, some false, some false], [none, some true, some true, some true, some true, some false, some false, some false], [some true, some true, some true, some true, some true, some true, some false, some false], [some true, some true, some true, some true, some true, some true, some true, some false]] (by kernel_rfl) (fun _ => rfl) rfl rfl rfl rfl rfl (fun _ _ => ⟨⟨⟨⟨⟨⟨⟨⟨trivial, rfl⟩, rfl⟩, rfl⟩, rfl⟩, rfl⟩, rfl⟩, rfl⟩, rfl⟩) 2 [2, 2, 0, 0] (fun _ => rfl) ?_ ?_
        · refine ⟨rfl, ?_, rfl, ?_, rfl, ?_, rfl, ?_, rfl, ?_, rfl, ?_, rfl, ?_, rfl, ?_, trivial⟩
          · intro b1_ b2_ b3_ b4_ b5_ g1
            refine TL.asL [box b_2 37 [.one (.int .i64 x2), .arr 36 (enf u8v x3)], box b_1 2 [.one (.int .i64 x1)], emp, emp] rfl ?_
            refine TL.bslice0 Ev Try.underlying53 Try.sizeOf22 rfl rfl fun s2 => ?_
            refine TL.rows0 Ei 2 ?_
            refine TL.matmk 1 0 rfl rfl ?_
            refine TL.asL [mat Ei 2 22 s2 ([] : List SV) ([] : List (List Int)), emp, box b_2 37 [.one (.int .i64 x2), .arr 36 (enf u8v x3)], box b_1 2 [.one (.int .i64 x1)], emp, emp] rfl ?_
            refine TL.done ?_
            exact TC.nrm () [[s2]] ⟨rfl, trivial⟩ [2, 2, 0, 0] rfl
          · intro b0_ b4_ g1
            refine TL.move rfl rfl (v := SV.v s1) rfl ?_
            refine TL.done ?_
            exact TC.nrm () [] ⟨rfl, trivial⟩ [0, 0, 0, 0] rfl
          · intro b0_ b4_ g1
            refine TL.asL [box b_2 37 [.one (.int .i64 x2), .arr 36 (enf u8v x3)], box b_1 2 [.one (.int .i64 x1)], (bif b0_ then mat Ei 2 22 (gs (g1 0)) ([] : List SV) ([] : List (List Int)) else emp), (bif b0_ then emp else emp)] rfl ?_
            refine TL.ixs 0 0 (Rd.old h1) h2 Try.underlying22 Try.sizeOf2 rfl rfl rfl rfl rfl ?_
            refine TL.done ?_
            exact TC.nrm () [] ⟨rfl, trivial⟩ [0, 0, 0, 0] rfl
          · intro b0_ b4_ g1
            refine TL.asL [box b_2 37 [.one (.int .i64 x2), .arr 36 (enf u8v x3)], box b_1 2 [.one (.int .i64 x1)], (bif b0_ then mat Ei 2 22 (gs (g1 0)) ([] : List SV) ([] : List (List Int)) else emp), (bif b0_ then emp else emp)] rfl ?_
            refine TL.loadE (Rd.old h1) Try.isAgg2 0 0 (gt_spec h2) (v := .int .i64 (gt x4 0)) rfl rfl rfl rfl rfl ?_
            refine TL.done ?_
            exact TC.nrm () [] ⟨rfl, trivial⟩ [0, 0, 0, 0] rfl
          · intro b0_ b1_ b2_ b3_ g1
            refine TL.asL [box b_2 37 [.one (.int .i64 x2), .arr 36 (enf u8v x3)], box b_1 2 [.one (.int .i64 x1)], (bif b0_ then mat Ei 2 22 (gs (g1 0)) ([] : List SV) ([] : List (List Int)) else emp), (bif b0_ then emp else emp)] rfl ?_
            refine TL.load1 0 (Src.box 1 rfl) Try.isAgg2 rfl rfl rfl rfl rfl ?_
            refine TL.done ?_
            exact TC.nrm () [] ⟨rfl, trivial⟩ [0, 0, 0, 0] rfl
          · intro b0_ g1
            refine TL.asL [box b_2 37 [.one (.int .i64 x2), .arr 36 (enf u8v x3)], box b_1 2 [.one (.int .i64 x1)], (bif b0_ then mat Ei 2 22 (gs (g1 0)) ([] : List SV) ([] : List (List Int)) else emp), (bif b0_ then emp else emp)] rfl ?_
            refine TL.callH (R := G.impl_inverse.R) hr1 Try.call59 rfl rfl rfl (fun w hS => G.impl_inverse.calls w (gt x4 0) x1) ?_
            rintro _ _ ⟨rfl, rfl⟩
            refine TL.done ?_
            exact TC.nrm () [] ⟨rfl, trivial⟩ [0, 0, 0, 0] rfl
          · intro g1
            refine TL.assign rfl rfl (v := SV.v (gs (g1 0))) rfl ?_
            refine TL.done ?_
            exact TC.nrm () [] ⟨rfl, trivial⟩ [0, 0, 0, 0] rfl
          · intro g1
            refine TL.assign rfl rfl (v := .int .i64 r_4) rfl ?_
            refine TL.done ?_
            exact TC.nrm () [] ⟨rfl, trivial⟩ [0, 0, 0, 0] rfl
        · intro g1
          refine TC.asL [box b_2 37 [.one (.int .i64 x2), .arr 36 (enf u8v x3)], box b_1 2 [.one (.int .i64 x1)], mat Ei 2 22 (gs (g1 0)) ([] : List SV) ([] : List (List Int)), emp] rfl ?_
          refine TC.seq ?_
          refine TC.seq ?_
          refine TC.region ?_
          refine TL.move rfl rfl (v := SV.v s1) rfl ?_
          refine TL.len (Rd.old h1) Try.underlying22 rfl rfl rfl ?_
          refine TL.move rfl rfl (v := .int .i64 0) rfl ?_
          refine TL.done ?_
          refine TC.loop1 (σ := (List (List Int)) × Int) (γ := SV × (List SV)) (Γ' := (fun p q => match p, q with | (x5, x6), (s3, ss1) => [(2, SV.v s1), (3, bp b_1 0), (4, bp b_2 0), (9, SV.v s3), (10, .int .i64 r_4), (37, SV.v s1), (38, .int .i64 (x4.length : Int)), (39, .int .i64 x6)])) (L' := (fun p q => match p, q with | (x5, x6), (s3, ss1) => [box b_1 2 [.one (.int .i64 x1)], box b_2 37 [.one (.int .i64 x2), .arr 36 (enf u8v x3)], mat Ei 2 22 s3 ss1 x5])) (Γb := (fun p q => match p, q with | (x5, x6), (s3, ss1) => [(2, SV.v s1), (3, bp b_1 0), (4, bp b_2 0), (9, SV.v s3), (10, .int .i64 r_4), (37, SV.v s1), (38, .int .i64 (x4.length : Int)), (39, .int .i64 x6)])) (Lb := (fun p q => match p, q with | (x5, x6), (s3, ss1) => [box b_1 2 [.one (.int .i64 x1)], box b_2 37 [.one (.int .i64 x2), .arr 36 (enf u8v x3)], mat Ei 2 22 s3 ss1 x5])) ((([] : List (List Int)), 0)) (((gs (g1 0)), ([] : List SV))) ⟨rfl, rfl, rfl, rfl, rfl, rfl, rfl, rfl, trivial⟩ [1, 0, 0] rfl ?_ ?_
          · rintro ⟨x5, x6⟩ ⟨s3, ss1⟩
            refine TC.seq ?_
            refine TC.region ?_
            refine TL.bin .i64 x6 (x4.length : Int) rfl rfl rfl rfl (v := .bool (decide (x6 < (x4.length : Int)))) rfl ?_
            refine TL.done ?_
            refine TC.seq ?_
            refine TC.cond (b := (decide (x6 < (x4.length : Int)))) rfl (fun c7 => ?_) (fun c8 => ?_)
            · refine TC.skip ?_
              refine TC.seq ?_
              refine TC.block (NoEx.loop1 rfl) ?_
              refine TC.seq ?_
              refine TC.region ?_
              refine TL.move rfl rfl (v := .int .i64 x6) rfl ?_
              refine TL.chk fun h3 => ?_
              refine TL.ixs x6 x6.toNat (Rd.old h1) h3 Try.underlying22 Try.sizeOf2 rfl rfl rfl rfl (by omega) ?_
              refine TL.loadE (Rd.old h1) Try.isAgg2 x6.toNat 0 (gt_spec h3) (v := .int .i64 (gt x4 x6)) rfl (by simp only [show Ei.sz = 1 from rfl]; omega) rfl rfl rfl ?_
              refine TL.assign rfl rfl (v := .int .i64 x6) rfl ?_
              refine TL.assign rfl rfl (v := .int .i64 (gt x4 x6)) rfl ?_
              refine TL.done ?_
              refine TC.seq ?_
              refine TC.region ?_
              refine TL.bslice0 Ei Try.underlying22 Try.sizeOf2 rfl rfl fun s4 => ?_
              refine TL.assign rfl rfl (v := SV.v s4) rfl ?_
              refine TL.done ?_
              refine TC.seq ?_
              refine TC.seq ?_
              refine TC.region ?_
              refine TL.move rfl rfl (v := SV.v s1) rfl ?_
              refine TL.len (Rd.old h1) Try.underlying22 rfl rfl rfl ?_
              refine TL.move rfl rfl (v := .int .i64 0) rfl ?_
              refine TL.done ?_
              refine TC.loop1 (σ := (List Int) × Int) (γ := SV) (Γ' := (fun p q => match p, q with | (x7, x8), s5 => [(2, SV.v s1), (3, bp b_1 0), (4, bp b_2 0), (9, SV.v s3), (10, .int .i64 r_4), (11, .int .i64 x6), (12, .int .i64 (gt x4 x6)), (13, SV.v s5), (37, SV.v s1), (38, .int .i64 (x4.length : Int)), (39, .int .i64 x6), (45, SV.v s1), (46, .int .i64 (x4.length : Int)), (47, .int .i64 x8)])) (L' := (fun p q => match p, q with | (x7, x8), s5 => [box b_1 2 [.one (.int .i64 x1)], box b_2 37 [.one (.int .i64 x2), .arr 36 (enf u8v x3)], mat Ei 2 22 s3 ss1 x5, row Ei 2 s5 x7])) (Γb := (fun p q => match p, q with | (x7, x8), s5 => [(2, SV.v s1), (3, bp b_1 0), (4, bp b_2 0), (9, SV.v s3), (10, .int .i64 r_4), (11, .int .i64 x6), (12, .int .i64 (gt x4 x6)), (13, SV.v s5), (37, SV.v s1), (38, .int .i64 (x4.length : Int)), (39, .int .i64 x6), (45, SV.v s1), (46, .int .i64 (x4.length : Int)), (47, .int .i64 x8)])) (Lb := (fun p q => match p, q with | (x7, x8), s5 => [box b_1 2 [.one (.int .i64 x1)], box b_2 37 [.one (.int .i64 x2), .arr 36 (enf u8v x3)], mat Ei 2 22 s3 ss1 x5, row Ei 2 s5 x7])) ((([] : List Int), 0)) (s4) ⟨rfl, rfl, rfl, rfl, rfl, rfl, rfl, rfl, rfl, rfl, rfl, rfl, rfl, rfl, trivial⟩ [1, 1, 1, 0] rfl ?_ ?_
              · rintro ⟨x7, x8⟩ s5
                refine TC.seq ?_
                refine TC.region ?_
                refine TL.bin .i64 x8 (x4.length : Int) rfl rfl rfl rfl (v := .bool (decide (x8 < (x4.length : Int)))) rfl ?_
                refine TL.done ?_
                refine TC.seq ?_
                refine TC.cond (b := (decide (x8 < (x4.length : Int)))) rfl (fun c9 => ?_) (fun c10 => ?_)
                · refine TC.skip ?_
                  refine TC.seq ?_
                  refine TC.block (NoEx.loop1 rfl) ?_
                  refine TC.seq ?_
                  refine TC.region ?_
                  refine TL.move rfl rfl (v := .int .i64 x8) rfl ?_
                  refine TL.chk fun h4 => ?_
                  refine TL.ixs x8 x8.toNat (Rd.old h1) h4 Try.underlying22 Try.sizeOf2 rfl rfl rfl rfl (by omega) ?_
                  refine TL.loadE (Rd.old h1) Try.isAgg2 x8.toNat 0 (gt_spec h4) (v := .int .i64 (gt x4 x8)) rfl (by simp only [show Ei.sz = 1 from rfl]; omega) rfl rfl rfl ?_
                  refine TL.assign rfl rfl (v := .int .i64 x8) rfl ?_
                  refine TL.assign rfl rfl (v := .int .i64 (gt x4 x8)) rfl ?_
                  refine TL.done ?_
                  refine TC.wk (Γ' := [(2, SV.v s1), (3, bp b_1 0), (4, bp b_2 0), (9, SV.v s3), (10, .int .i64 r_4), (11, .int .i64 x6), (12, .int .i64 (gt x4 x6)), (37, SV.v s1), (38, .int .i64 (x4.length : Int)), (39, .int .i64 x6), (45, SV.v s1), (46, .int .i64 (x4.length : Int)), (47, .int .i64 x8), (48, .bool (decide (x8 < (x4.length : Int)))), (49, .int .i64 x8), (50, ep s1 x8.toNat), (51, .int .i64 (gt x4 x8)), (14, .int .i64 x8), (15, .int .i64 (gt x4 x8)), (13, SV.v s5)]) ⟨rfl, rfl, rfl, rfl, rfl, rfl, rfl, rfl, rfl, rfl, rfl, rfl, rfl, rfl, rfl, rfl, rfl, rfl, rfl, rfl, trivial⟩ ?_
                  refine TC.nz fun z1 => ?_
                  refine TC.bindE ?_
                  rintro r_5 hr2
                  refine TC.chk fun h5 => ?_
                  refine TC.bindE ?_
                  rintro r_6 hr3
                  refine TC.small fun h6 => ?_
                  refine TC.drawG [(2, SV.v s1), (3, bp b_1 0), (4, bp b_2 0), (9, SV.v s3), (10, .int .i64 r_4), (11, .int .i64 x6), (12, .int .i64 (gt x4 x6)), (37, SV.v s1), (38, .int .i64 (x4.length : Int)), (39, .int .i64 x6), (45, SV.v s1), (46, .int .i64 (x4.length : Int)), (47, .int .i64 x8), (48, .bool (decide (x8 < (x4.length : Int)))), (49, .int .i64 x8), (50, ep s1 x8.toNat), (51, .int .i64 (gt x4 x8)), (14, .int .i64 x8), (15, .int .i64 (gt x4 x8))] [(13, SV.v s5, 23)] ⟨rfl, rfl, rfl, rfl, rfl, rfl, rfl, rfl, rfl, rfl, rfl, rfl, rfl, rfl, rfl, rfl, rfl, rfl, rfl, trivial⟩ ⟨rfl, trivial⟩ (fun l_ g2 => [box b_1 2 [.one (.int .i64 x1)], box b_2 37 [.one (.int .i64 x2), .arr 36 (enf u8v x3)], mat Ei 2 22 s3 ss1 x5, (bif nb l_ 22 then row Ei 2 (gs (g2 176)) (x7 ++ ([(Int.tmod (w64 ((Int.tmod (w64 ((Int.tmod (w64 ((gt x4 x6) * (gt x4 x8))) x1) * r_6)) x1) * r_4)) x1)] : List Int)) else row Ei 2 s5 x7), (bif nb l_ 21 then row Ei 2 (gs (g2 168)) ([(Int.tmod (w64 ((Int.tmod (w64 ((Int.tmod (w64 ((gt x4 x6) * (gt x4 x8))) x1) * r_6)) x1) * r_4)) x1)] : List Int) else emp)]) (fun g2 => [SV.v s5, .int .i64 (gt x4 x6), .int .i64 (gt x4 x8), .int .i64 (w64 ((gt x4 x6) * (gt x4 x8))), .int .i64 x1, .int .i64 (Int.tmod (w64 ((gt x4 x6) * (gt x4 x8))) x1), SV.v s1, .int .i64 x6, .int .i64 x8, .int .i64 r_5, ep s1 r_5.toNat, .int .i64 (gt x4 r_5), .int .i64 x1, .int .i64 r_6, .int .i64 (w64 ((Int.tmod (w64 ((gt x4 x6) * (gt x4 x8))) x1) * r_6)), .int .i64 x1, .int .i64 (Int.tmod (w64 ((Int.tmod (w64 ((gt x4 x6) * (gt x4 x8))) x1) * r_6)) x1), .int .i64 r_4, .int .i64 (w64 ((Int.tmod (w64 ((Int.tmod (w64 ((gt x4 x6) * (gt x4 x8))) x1) * r_6)) x1) * r_4)), .int .i64 x1, .int .i64 (Int.tmod (w64 ((Int.tmod (w64 ((Int.tmod (w64 ((gt x4 x6) * (gt x4 x8))) x1) * r_6)) x1) * r_4)) x1), SV.v (gs (g2 168)), SV.v (gs (g2 176)), SV.v (gs (g2 176))]) [[], [], [], [1, 2], [], [1, 2, 3, 4], [], [], [], [7, 8], [6, 7, 8, 9], [6, 7, 8, 9, 10], [], [6, 7, 8, 9, 10, 11, 12], [1, 2, 3, 4, 5, 6, 7, 8, 9, 10, 11, 12, 13], [], [1, 2, 3, 4, 5, 6, 7, 8, 9, 10, 11, 12, 13, 14, 15], [], [1, 2, 3, 4, 5, 6, 7, 8, 9, 10, 11, 12, 13, 14, 15, 16, 17], [], [1, 2, 3, 4, 5, 6, 7, 8, 9, 10, 11, 12, 13, 14, 15, 16, 17, 18, 19], [1, 2, 3, 4, 5, 6, 7, 8, 9, 10, 11, 12, 13, 14, 15, 16, 17, 18, 19, 20], [0, 1, 2, 3, 4, 5, 6, 7, 8, 9, 10, 11, 12, 13, 14, 15, 16, 17, 18, 19, 20, 21], [0, 1, 2, 3, 4, 5, 6, 7, 8, 9, 10, 11, 12, 13, 14, 15, 16, 17, 18, 19, 20, 21, 22]] [[some false, none, none, none, none, none, none, none, none, none, none, none, none, none, none, none, none, none, none, none, none, none, some false, some false], [none, some false, none, some false, none, some false, none, none, none, none, none, none, none, none, some false, none, some false, none, some false, none, some false, some false, some false, some false], [none, none, some false, some false, none, some false, none, none, none, none, none, none, none, none, some false, none, some false, none, some false, none, some false, some false, some false, some false], [none, some true, some true, some false, none, some false, none, none, none, none, none, none, none, none, some false, none, some false, none, some false, none, some false, some false, some false, some false], [none, none, none, none, some false, some false, none, none, none, none, none, none, none, none, some false, none, some false, none, some false, none, some false, some false, some false, some false], [none, some true, some true, some true, some true, some false, none, none, none, none, none, none, none, none, some false, none, some false, none, some false, none, some false, some false, some false, some false], [none, none, none, none, none, none, some false, none, none, none, some false, some false, none, some false, some false, none, some false, none, some false, none, some false, some false, some false, some false], [none, none, none, none, none, none, none, some false, none, some false, some false, some false, none, some false, some false, none, some false, none, some false, none, some false, some false, some false, some false], [none, none, none, none, none, none, none, none, some false, some false, some false, some false, none, some false, some false, none, some false, none, some false, none, some false, some false, some false, some false], [none, none, none, none, none, none, none, some true, some true, some false, some false, some false, none, some false, some false, none, some false, none, some false, none, some false, some false, some false, some false], [none, none, none, none, none, none, some true, some true, some true, some true, some false, some false, none, some false, some false, none, some false, none, some false, none, some false, some false, some false, some false], [none, none, none, none, none, none, some true, some true, some true, some true, some true, some false, none, some false, some false, none, some false, none, some false, none, some false, some false, some false, some false], [none, none, none, none, none, none, none, none, none, none, none, none, some false, some false, some false, none, some false, none, some false, none, some false, some false, some false, some false], [none, none, none, none, none, none, some true, some true, some true, some true, some true, some true, some true, some false, some false, none, some false, none, some false, none, some false, some false, some false, some false], [none, some true, some true, some true, some true, some true, some true, some true, some true, some true, some true, some true, some true, some true, some false, none, some false, none, some false, none, some false, some false, some false, some false], [none, none, none, none, none, none, none, none, none, none, none, none, none, none, none, some false, some false, none, some false, none, some false, some false, some false, some false], [none, some true, some true, some true, some true, some true, some true, some true, some true, some true, some true, some true, some true, some true, some true, some true, some false, none, some false, none, some false, some false, some false, some false], [none, none, none, none, none, none, none, none, none, none, none, none, none, none, none, none, none, some false, some false, none, some false, some false, some false, some false], [none, some true, some true, some true, some true, some true, some true, some true, some true, some true, some true, some true, some true, some true, some true, some true, some true, some true, some false, none, some false, some false, some false, some false], [none, none, none, none, none, none, none, none, none, none, none, none, none, none, none, none, none, none, none, some false, some false, some false, some false, some false], [none, some true, some true, some true, some true, some true, some true, some true, some true, some true, some true, some true, some true, some true, some true, some true, some true, some true, some true, some true, some false, some false, some false, some false], [none, some true, some true, some true, some true, some true, some true, some true, some true, some true, some true, some true, some true, some true, some true, some true, some true, some true, some true, some true, some true, some false, some false, some false], [some true, some true, some true, some true, some true, some true, some true, some true, some true, some true, some true, some true, some true, some true, some true, some true, some true, some true, some true, some true, some true, some true, some false, some false], [some true, some true, some true, some true, some true, some true, some true, some true, some true, some true, some true, some true, some true, some true, some true, some true, some true, some true, some true, some true, some true, some true, some true, some false]] (by kernel_rfl) (fun _ => rfl) rfl rfl rfl rfl rfl (fun _ _ => ⟨⟨⟨⟨⟨⟨⟨⟨⟨⟨⟨⟨⟨⟨⟨⟨⟨⟨⟨⟨⟨⟨⟨⟨trivial, rfl⟩, rfl⟩, rfl⟩, rfl⟩, rfl⟩, rfl⟩, rfl⟩, rfl⟩, rfl⟩, rfl⟩, rfl⟩, rfl⟩, rfl⟩, rfl⟩, rfl⟩, rfl⟩, rfl⟩, rfl⟩, rfl⟩, rfl⟩, rfl⟩, rfl⟩, rfl⟩, rfl⟩) 1 [1, 1, 1, 1, 0] (fun _ => rfl) ?_ ?_
                  · refine ⟨rfl, ?_, rfl, ?_, rfl, ?_, rfl, ?_, rfl, ?_, rfl, ?_, rfl, ?_, rfl, ?_, rfl, ?_, rfl, ?_, rfl, ?_, rfl, ?_, rfl, ?_, rfl, ?_, rfl, ?_, rfl, ?_, rfl, ?_, rfl, ?_, rfl, ?_, rfl, ?_, rfl, ?_, rfl, ?_, rfl, ?_, rfl, ?_, trivial⟩
                    · intro b1_ b2_ b3_ b4_ b5_ b6_ b7_ b8_ b9_ b10_ b11_ b12_ b13_ b14_ b15_ b16_ b17_ b18_ b19_ b20_ b21_ g2
                      refine TL.move rfl rfl (v := SV.v s5) rfl ?_
                      refine TL.done ?_
                      exact TC.nrm () [] ⟨rfl, trivial⟩ [0, 0, 0, 0, 0] rfl
                    · intro b0_ b2_ b4_ b6_ b7_ b8_ b9_ b10_ b11_ b12_ b13_ b15_ b17_ b19_ g2
                      refine TL.move rfl rfl (v := .int .i64 (gt x4 x6)) rfl ?_
                      refine TL.done ?_
                      exact TC.nrm () [] ⟨rfl, trivial⟩ [0, 0, 0, 0, 0] rfl
                    · intro b0_ b1_ b4_ b6_ b7_ b8_ b9_ b10_ b11_ b12_ b13_ b15_ b17_ b19_ g2
                      refine TL.move rfl rfl (v := .int .i64 (gt x4 x8)) rfl ?_
                      refine TL.done ?_
                      exact TC.nrm () [] ⟨rfl, trivial⟩ [0, 0, 0, 0, 0] rfl
                    · intro b0_ b4_ b6_ b7_ b8_ b9_ b10_ b11_ b12_ b13_ b15_ b17_ b19_ g2
                      refine TL.bin .i64 (gt x4 x6) (gt x4 x8) rfl rfl rfl rfl (v := .int .i64 (w64 ((gt x4 x6) * (gt x4 x8)))) rfl ?_
                      refine TL.done ?_
                      exact TC.nrm () [] ⟨rfl, trivial⟩ [0, 0, 0, 0, 0] rfl
                    · intro b0_ b1_ b2_ b3_ b6_ b7_ b8_ b9_ b10_ b11_ b12_ b13_ b15_ b17_ b19_ g2
                      refine TL.asL [box b_1 2 [.one (.int .i64 x1)], box b_2 37 [.one (.int .i64 x2), .arr 36 (enf u8v x3)], mat Ei 2 22 s3 ss1 x5, row Ei 2 s5 x7, emp] rfl ?_
                      refine TL.load1 0 (Src.box 0 rfl) Try.isAgg2 rfl rfl rfl rfl rfl ?_
                      refine TL.done ?_
                      exact TC.nrm () [] ⟨rfl, trivial⟩ [0, 0, 0, 0, 0] rfl
                    · intro b0_ b6_ b7_ b8_ b9_ b10_ b11_ b12_ b13_ b15_ b17_ b19_ g2
                      refine TL.rem .i64 (w64 ((gt x4 x6) * (gt x4 x8))) x1 z1 rfl rfl rfl rfl ?_
                      refine TL.done ?_
                      exact TC.nrm () [] ⟨rfl, trivial⟩ [0, 0, 0, 0, 0] rfl
                    · intro b0_ b1_ b2_ b3_ b4_ b5_ b7_ b8_ b9_ b12_ b15_ b17_ b19_ g2
                      refine TL.move rfl rfl (v := SV.v s1) rfl ?_
                      refine TL.done ?_
                      exact TC.nrm () [] ⟨rfl, trivial⟩ [0, 0, 0, 0, 0] rfl
                    · intro b0_ b1_ b2_ b3_ b4_ b5_ b6_ b8_ b12_ b15_ b17_ b19_ g2
                      refine TL.move rfl rfl (v := .int .i64 x6) rfl ?_
                      refine TL.done ?_
                      exact TC.nrm () [] ⟨rfl, trivial⟩ [0, 0, 0, 0, 0] rfl
                    · intro b0_ b1_ b2_ b3_ b4_ b5_ b6_ b7_ b12_ b15_ b17_ b19_ g2
                      refine TL.move rfl rfl (v := .int .i64 x8) rfl ?_
                      refine TL.done ?_
                      exact TC.nrm () [] ⟨rfl, trivial⟩ [0, 0, 0, 0, 0] rfl
                    · intro b0_ b1_ b2_ b3_ b4_ b5_ b6_ b12_ b15_ b17_ b19_ g2
                      refine TL.asL [box b_1 2 [.one (.int .i64 x1)], box b_2 37 [.one (.int .i64 x2), .arr 36 (enf u8v x3)], mat Ei 2 22 s3 ss1 x5, row Ei 2 s5 x7, emp] rfl ?_
                      refine TL.callH (R := G.impl_Group_times.R) hr2 Try.call66 rfl rfl rfl (fun w hS => G.impl_Group_times.calls w b_2 x2 x3 x6 x8 ((Src.box 1 rfl) w hS)) ?_
                      rintro _ _ ⟨rfl, rfl⟩
                      refine TL.done ?_
                      exact TC.nrm () [] ⟨rfl, trivial⟩ [0, 0, 0, 0, 0] rfl
                    · intro b0_ b1_ b2_ b3_ b4_ b5_ b12_ b15_ b17_ b19_ g2
                      refine TL.asL [box b_1 2 [.one (.int .i64 x1)], box b_2 37 [.one (.int .i64 x2), .arr 36 (enf u8v x3)], mat Ei 2 22 s3 ss1 x5, row Ei 2 s5 x7, emp] rfl ?_
                      refine TL.ixs r_5 r_5.toNat (Rd.old h1) h5 Try.underlying22 Try.sizeOf2 rfl rfl rfl rfl (by omega) ?_
                      refine TL.done ?_
                      exact TC.nrm () [] ⟨rfl, trivial⟩ [0, 0, 0, 0, 0] rfl
                    · intro b0_ b1_ b2_ b3_ b4_ b5_ b12_ b15_ b17_ b19_ g2
                      refine TL.asL [box b_1 2 [.one (.int .i64 x1)], box b_2 37 [.one (.int .i64 x2), .arr 36 (enf u8v x3)], mat Ei 2 22 s3 ss1 x5, row Ei 2 s5 x7, emp] rfl ?_
                      refine TL.loadE (Rd.old h1) Try.isAgg2 r_5.toNat 0 (gt_spec h5) (v := .int .i64 (gt x4 r_5)) rfl (by simp only [show Ei.sz = 1 from rfl]; omega) rfl rfl rfl ?_
                      refine TL.done ?_
                      exact TC.nrm () [] ⟨rfl, trivial⟩ [0, 0, 0, 0, 0] rfl
                    · intro b0_ b1_ b2_ b3_ b4_ b5_ b6_ b7_ b8_ b9_ b10_ b11_ b15_ b17_ b19_ g2
                      refine TL.asL [box b_1 2 [.one (.int .i64 x1)], box b_2 37 [.one (.int .i64 x2), .arr 36 (enf u8v x3)], mat Ei 2 22 s3 ss1 x5, row Ei 2 s5 x7, emp] rfl ?_
                      refine TL.load1 0 (Src.box 0 rfl) Try.isAgg2 rfl rfl rfl rfl rfl ?_
                      refine TL.done ?_
                      exact TC.nrm () [] ⟨rfl, trivial⟩ [0, 0, 0, 0, 0] rfl
                    · intro b0_ b1_ b2_ b3_ b4_ b5_ b15_ b17_ b19_ g2
                      refine TL.asL [box b_1 2 [.one (.int .i64 x1)], box b_2 37 [.one (.int .i64 x2), .arr 36 (enf u8v x3)], mat Ei 2 22 s3 ss1 x5, row Ei 2 s5 x7, emp] rfl ?_
                      refine TL.callH (R := G.impl_inverse.R) hr3 Try.call59 rfl rfl rfl (fun w hS => G.impl_inverse.calls w (gt x4 r_5) x1) ?_
                      rintro _ _ ⟨rfl, rfl⟩
                      refine TL.done ?_
                      exact TC.nrm () [] ⟨rfl, trivial⟩ [0, 0, 0, 0, 0] rfl
                    · intro b0_ b15_ b17_ b19_ g2
                      refine TL.bin .i64 (Int.tmod (w64 ((gt x4 x6) * (gt x4 x8))) x1) r_6 rfl rfl rfl rfl (v := .int .i64 (w64 ((Int.tmod (w64 ((gt x4 x6) * (gt x4 x8))) x1) * r_6))) rfl ?_
                      refine TL.done ?_
                      exact TC.nrm () [] ⟨rfl, trivial⟩ [0, 0, 0, 0, 0] rfl
                    · intro b0_ b1_ b2_ b3_ b4_ b5_ b6_ b7_ b8_ b9_ b10_ b11_ b12_ b13_ b14_ b17_ b19_ g2
                      refine TL.asL [box b_1 2 [.one (.int .i64 x1)], box b_2 37 [.one (.int .i64 x2), .arr 36 (enf u8v x3)], mat Ei 2 22 s3 ss1 x5, row Ei 2 s5 x7, emp] rfl ?_
                      refine TL.load1 0 (Src.box 0 rfl) Try.isAgg2 rfl rfl rfl rfl rfl ?_
                      refine TL.done ?_
                      exact TC.nrm () [] ⟨rfl, trivial⟩ [0, 0, 0, 0, 0] rfl
                    · intro b0_ b17_ b19_ g2
                      refine TL.rem .i64 (w64 ((Int.tmod (w64 ((gt x4 x6) * (gt x4 x8))) x1) * r_6)) x1 z1 rfl rfl rfl rfl ?_
                      refine TL.done ?_
                      exact TC.nrm () [] ⟨rfl, trivial⟩ [0, 0, 0, 0, 0] rfl
                    · intro b0_ b1_ b2_ b3_ b4_ b5_ b6_ b7_ b8_ b9_ b10_ b11_ b12_ b13_ b14_ b15_ b16_ b19_ g2
                      refine TL.move rfl rfl (v := .int .i64 r_4) rfl ?_
                      refine TL.done ?_
                      exact TC.nrm () [] ⟨rfl, trivial⟩ [0, 0, 0, 0, 0] rfl
                    · intro b0_ b19_ g2
                      refine TL.bin .i64 (Int.tmod (w64 ((Int.tmod (w64 ((gt x4 x6) * (gt x4 x8))) x1) * r_6)) x1) r_4 rfl rfl rfl rfl (v := .int .i64 (w64 ((Int.tmod (w64 ((Int.tmod (w64 ((gt x4 x6) * (gt x4 x8))) x1) * r_6)) x1) * r_4))) rfl ?_
                      refine TL.done ?_
                      exact TC.nrm () [] ⟨rfl, trivial⟩ [0, 0, 0, 0, 0] rfl
                    · intro b0_ b1_ b2_ b3_ b4_ b5_ b6_ b7_ b8_ b9_ b10_ b11_ b12_ b13_ b14_ b15_ b16_ b17_ b18_ g2
                      refine TL.asL [box b_1 2 [.one (.int .i64 x1)], box b_2 37 [.one (.int .i64 x2), .arr 36 (enf u8v x3)], mat Ei 2 22 s3 ss1 x5, row Ei 2 s5 x7, emp] rfl ?_
                      refine TL.load1 0 (Src.box 0 rfl) Try.isAgg2 rfl rfl rfl rfl rfl ?_
                      refine TL.done ?_
                      exact TC.nrm () [] ⟨rfl, trivial⟩ [0, 0, 0, 0, 0] rfl
                    · intro b0_ g2
                      refine TL.rem .i64 (w64 ((Int.tmod (w64 ((Int.tmod (w64 ((gt x4 x6) * (gt x4 x8))) x1) * r_6)) x1) * r_4)) x1 z1 rfl rfl rfl rfl ?_
                      refine TL.done ?_
                      exact TC.nrm () [] ⟨rfl, trivial⟩ [0, 0, 0, 0, 0] rfl
                    · intro b0_ g2
                      refine TL.asL [box b_1 2 [.one (.int .i64 x1)], box b_2 37 [.one (.int .i64 x2), .arr 36 (enf u8v x3)], mat Ei 2 22 s3 ss1 x5, row Ei 2 s5 x7, emp] rfl ?_
                      refine TL.blit Ei ([(Int.tmod (w64 ((Int.tmod (w64 ((Int.tmod (w64 ((gt x4 x6) * (gt x4 x8))) x1) * r_6)) x1) * r_4)) x1)] : List Int) Try.underlying22 Try.sizeOf2 Try.zeroValue2 rfl rfl rfl [(0, .int .i64 (Int.tmod (w64 ((Int.tmod (w64 ((Int.tmod (w64 ((gt x4 x6) * (gt x4 x8))) x1) * r_6)) x1) * r_4)) x1))] rfl ⟨rfl, rfl, trivial⟩ rfl rfl fun s6 => ?_
                      refine TL.done ?_
                      exact TC.nrm () [[s6]] ⟨rfl, trivial⟩ [1, 1, 1, 1, 0] rfl
                    · intro g2
                      refine TL.asL [box b_1 2 [.one (.int .i64 x1)], box b_2 37 [.one (.int .i64 x2), .arr 36 (enf u8v x3)], mat Ei 2 22 s3 ss1 x5, row Ei 2 s5 x7, row Ei 2 (gs (g2 168)) ([(Int.tmod (w64 ((Int.tmod (w64 ((Int.tmod (w64 ((gt x4 x6) * (gt x4 x8))) x1) * r_6)) x1) * r_4)) x1)] : List Int)] rfl ?_
                      refine TL.append 3 rfl (Rd.row 4 rfl) Try.underlying22 (info_of Try.type2) (zv := (Try.t2.zero.getD (.bool false))) rfl rfl rfl (by decide) h6 rfl rfl rfl rfl fun s7 => ?_
                      refine TL.done ?_
                      exact TC.nrm () [[s7]] ⟨rfl, trivial⟩ [0, 0, 0, 0, 0] rfl
                    · intro g2
                      refine TL.assign rfl rfl (v := SV.v (gs (g2 176))) rfl ?_
                      refine TL.done ?_
                      exact TC.nrm () [] ⟨rfl, trivial⟩ [0, 0, 0, 0, 0] rfl
                  · intro g2
                    refine TC.asL [box b_1 2 [.one (.int .i64 x1)], box b_2 37 [.one (.int .i64 x2), .arr 36 (enf u8v x3)], mat Ei 2 22 s3 ss1 x5, row Ei 2 (gs (g2 176)) (x7 ++ ([(Int.tmod (w64 ((Int.tmod (w64 ((Int.tmod (w64 ((gt x4 x6) * (gt x4 x8))) x1) * r_6)) x1) * r_4)) x1)] : List Int)), row Ei 2 (gs (g2 168)) ([(Int.tmod (w64 ((Int.tmod (w64 ((Int.tmod (w64 ((gt x4 x6) * (gt x4 x8))) x1) * r_6)) x1) * r_4)) x1)] : List Int)] rfl ?_
                    refine TC.region ?_
                    refine TL.bin .i64 x8 1 rfl rfl rfl rfl (v := .int .i64 (w64 (x8 + 1))) rfl ?_
                    refine TL.move rfl rfl (v := .int .i64 (w64 (x8 + 1))) rfl ?_
                    refine TL.done ?_
                    exact TC.next1 (((x7 ++ ([(Int.tmod (w64 ((Int.tmod (w64 ((Int.tmod (w64 ((gt x4 x6) * (gt x4 x8))) x1) * r_6)) x1) * r_4)) x1)] : List Int)), (w64 (x8 + 1)))) ((gs (g2 176))) ⟨rfl, rfl, rfl, rfl, rfl, rfl, rfl, rfl, rfl, rfl, rfl, rfl, rfl, rfl, trivial⟩ [0, 0, 0, 0] rfl
                · exact TC.brk1 ((x7, x8)) (s5) ⟨rfl, rfl, rfl, rfl, rfl, rfl, rfl, rfl, rfl, rfl, rfl, rfl, rfl, rfl, trivial⟩ [0, 0, 0, 0] rfl
              · rintro ⟨x7, x8⟩ s5
                refine TC.region ?_
                refine TL.move rfl rfl (v := SV.v s3) rfl ?_
                refine TL.move rfl rfl (v := SV.v s5) rfl ?_
                refine TL.blit Ev ([s5] : List SV) Try.underlying53 Try.sizeOf22 Try.zeroValue22 rfl rfl rfl [(0, SV.v s5)] rfl ⟨rfl, rfl, trivial⟩ rfl rfl fun s8 => ?_
                refine TL.small fun h7 => ?_
                refine TL.matlen 3 rfl fun h8 => ?_
                refine TL.matcut 3 rfl ?_
                refine TL.append 0 rfl (Rd.row 1 rfl) Try.underlying53 (info_of Try.type22) (zv := (Try.t22.zero.getD (.bool false))) rfl rfl rfl (by decide) (by have h_ := h7; have l_ := h8; (try simp only [List.length_cons, List.length_nil] at h_ l_ ⊢); omega) rfl rfl rfl rfl fun s9 => ?_
                refine TL.rowsPush 4 5 rfl rfl ?_
                skip
                refine TL.matmk 0 5 rfl rfl ?_
                refine TL.drop 0 rfl ?_
                refine TL.asL [row Ev 22 s8 ([s5] : List SV), box b_1 2 [.one (.int .i64 x1)], box b_2 37 [.one (.int .i64 x2), .arr 36 (enf u8v x3)], emp, mat Ei 2 22 s9 (ss1 ++ [s5]) (x5 ++ [x7])] rfl ?_
                refine TL.assign rfl rfl (v := SV.v s9) rfl ?_
                refine TL.done ?_
                refine TC.region ?_
                refine TL.bin .i64 x6 1 rfl rfl rfl rfl (v := .int .i64 (w64 (x6 + 1))) rfl ?_
                refine TL.move rfl rfl (v := .int .i64 (w64 (x6 + 1))) rfl ?_
                refine TL.done ?_
                exact TC.next1 (((x5 ++ [x7]), (w64 (x6 + 1)))) ((s9, (ss1 ++ [s5]))) ⟨rfl, rfl, rfl, rfl, rfl, rfl, rfl, rfl, trivial⟩ [1, 1, 2] rfl
            · exact TC.brk1 ((x5, x6)) ((s3, ss1)) ⟨rfl, rfl, rfl, rfl, rfl, rfl, rfl, rfl, trivial⟩ [0, 0, 0] rfl
          · rintro ⟨x5, x6⟩ ⟨s3, ss1⟩
            refine TC.seq ?_
            refine TC.region ?_
            refine TL.move rfl rfl (v := SV.v s3) rfl ?_
            refine TL.assign rfl rfl (v := SV.v s3) rfl ?_
            refine TL.assign rfl rfl (v := .int .i64 0) rfl ?_
            refine TL.done ?_
            exact TC.retF (Fin.body (fin2 (.inr rfl) rfl (.tmp rfl) (.tmp rfl) [2] rfl ⟨s3, ss1, rfl, rfl⟩))

end Go.Proofs.Ytcombgcjgdkbiaa.G
