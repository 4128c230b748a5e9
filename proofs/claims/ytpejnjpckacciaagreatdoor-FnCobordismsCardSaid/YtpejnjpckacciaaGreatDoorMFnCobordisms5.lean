/- Functions of the program, as pure functions. -/
import Derived.Test.YtpejnjpckacciaaGreatDoorMFnCobordisms4
import Derived.Test.YtpejnjpckacciaaGreatDoorProg
set_option linter.unusedVariables false
set_option maxRecDepth 100000
set_option maxHeartbeats 4000000
namespace Go.Proofs.YtpejnjpckacciaaGreatDoor.G
open Go Go.Sx Go.Proofs
def impl_parts.b0 (r_1 : Int) : (List Int) × (List Int) × Int → Option (LB ((List Int) × (List Int) × Int)) := fun p => match p with | (y1, y2, x2) => (bif (decide (x2 < r_1)) then (G.impl_pool_add.f y1).bind (fun p => match p with | (r_3, p1) => small (y2.length + ([r_3] : List Int).length) (some (.next (p1, (y2 ++ ([r_3] : List Int)), (w64 (x2 + 1)))))) else some (.brk (y1, y2, x2)))
def impl_parts.b1 (r_4 : List Str) : (List Int) × (List (Int × Int)) × (List Int) × Int → Option (LB ((List Int) × (List (Int × Int)) × (List Int) × Int)) := fun p => match p with | (y3, y4, y5, x3) => (bif (decide (x3 < (r_4.length : Int))) then chk x3 r_4.length ((G.impl_tracer_layer.f y3 y4 y5 (gt r_4 x3)).bind (fun p => match p with | (y6, y7, y8) => some (.next (y6, y7, y8, (w64 (x3 + 1)))))) else some (.brk (y3, y4, y5, x3)))
def impl_parts.b2 (y3 : List Int) (y4 : List (Int × Int)) : (List Int) × (List Int) × (List PC) × Int → Option (LB ((List Int) × (List Int) × (List PC) × Int)) := fun p => match p with | (keys1, sums1, c5, x4) => (bif (decide (x4 < (y3.length : Int))) then (impl_part.f y3 keys1 x4).bind (fun p => match p with | (j1, op1) => grd (decide (j1 ≤ sums1.length)) (some (.next ((onK keys1 op1), (sput sums1 j1 (w64 ((sget sums1 j1) + (mlook y4 x4)))), (onC c5 op1), (w64 (x4 + 1)))))) else some (.brk (keys1, sums1, c5, x4)))
def impl_parts.b3 (r_1 : Int) (y3 : List Int) : (List Int) × (List Int) × (List PC) × Int → Option (LB ((List Int) × (List Int) × (List PC) × Int)) := fun p => match p with | (keys2, sums2, c8, x5) => (bif (decide (x5 < r_1)) then (impl_part.f y3 keys2 x5).bind (fun p => match p with | (j2, op2) => grd (decide (j2 < (onC c8 op2).length)) (small (((gt (onC c8 op2) (j2 : Int)).2.1).length + ([x5] : List Int).length) (some (.next ((onK keys2 op2), sums2, ((onC c8 op2).set j2 ((gt (onC c8 op2) (j2 : Int)).1, ((gt (onC c8 op2) (j2 : Int)).2.1 ++ ([x5] : List Int)), (gt (onC c8 op2) (j2 : Int)).2.2)), (w64 (x5 + 1))))))) else some (.brk (keys2, sums2, c8, x5)))
def impl_parts.b4 (y5 : List Int) (y3 : List Int) : (List Int) × (List Int) × (List PC) × Int → Option (LB ((List Int) × (List Int) × (List PC) × Int)) := fun p => match p with | (keys3, sums3, c11, x6) => (bif (decide (x6 < (y5.length : Int))) then chk x6 y5.length ((impl_part.f y3 keys3 (gt y5 x6)).bind (fun p => match p with | (j3, op3) => grd (decide (j3 < (onC c11 op3).length)) (small (((gt (onC c11 op3) (j3 : Int)).2.2).length + ([x6] : List Int).length) (some (.next ((onK keys3 op3), sums3, ((onC c11 op3).set j3 ((gt (onC c11 op3) (j3 : Int)).1, (gt (onC c11 op3) (j3 : Int)).2.1, ((gt (onC c11 op3) (j3 : Int)).2.2 ++ ([x6] : List Int)))), (w64 (x6 + 1)))))))) else some (.brk (keys3, sums3, c11, x6)))
def impl_parts.f (x1 : Str) : Option (List (Int × (List Int) × (List Int))) := (G.impl_legs.f x1).bind (fun p => match p with | (r_1, r_2) => (loop1 (impl_parts.b0 r_1) (([] : List Int), ([] : List Int), 0)).bind (fun p => match p with | (y1, y2, x2) => (G.impl_layers.f x1).bind (fun r_4 => (loop1 (impl_parts.b1 r_4) (y1, ([] : List (Int × Int)), y2, 0)).bind (fun p => match p with | (y3, y4, y5, x3) => (loop1 (impl_parts.b2 y3 y4) (([] : List Int), ([] : List Int), ([] : List PC), 0)).bind (fun p => match p with | (keys1, sums1, c5, x4) => (loop1 (impl_parts.b3 r_1 y3) (keys1, sums1, c5, 0)).bind (fun p => match p with | (keys2, sums2, c8, x5) => (loop1 (impl_parts.b4 y5 y3) (keys2, sums2, c8, 0)).bind (fun p => match p with | (keys3, sums3, c11, x6) => grd (decide (sums3.length = c11.length)) (grd (decide (c11.length ≤ 1099511627776)) (grd (tiesP (finC sums3 c11)) ((loop1 (cntB c11.length) 0).bind fun _ => some (srtP (finC sums3 c11))))))))))))
def impl_parts.R (r : List (Int × (List Int) × (List Int))) (v : Value) (L : List Asn) : Prop := ∃ (s0 : SV) (ss0 : List (Int × SV × SV)), v = SV.v s0 ∧ L = [pmat 2 44 s0 ss0 r]
theorem impl_parts.calls (w : World) (x1 : Str) :
  ∀ r, impl_parts.f x1 = some r → Calls Tryz.prog 28 #[strv x1] w (Ret w (impl_parts.R r)) := by
 refine calls_T (n := 157) (Γ := [(0, strv x1)]) (R := impl_parts.R) Tryz.func28 rfl rfl (Nat.le_of_ble_eq_true rfl) ⟨rfl, trivial⟩ ?_
 unfold impl_parts.f
 refine TC.seq <| TC.region <| TL.as (SV.v ⟨none, 0, 0⟩) <| TL.done <| TC.seq <| TC.region ?_
 refine TL.mkmapI rfl rfl fun b_1 => ?_
 refine TL.buildS (segs0 := [.one (SV.v ⟨none, 0, 0⟩), .one (.map none), .one (SV.v ⟨none, 0, 0⟩)]) (segs := [.one (SV.v ⟨none, 0, 0⟩), .one (.map (some b_1)), .one (SV.v ⟨none, 0, 0⟩)]) [1, 1, 1] Tryz.underlying77 ⟨Tryz.sizeOf75, Tryz.sizeOf73, Tryz.sizeOf74, trivial⟩ Tryz.zeroValue77 rfl [(1, .map (some b_1))] rfl (fun pl hpl => by subst hpl; exact fill_one 1 rfl rfl rfl rfl (rfl)) rfl rfl ?_
 refine TL.box [.one (SV.v ⟨none, 0, 0⟩), .one (.map (some b_1)), .one (SV.v ⟨none, 0, 0⟩)] rfl rfl rfl rfl fun b_2 => ?_
 refine TL.alloc [.one (.pointer none)] rfl rfl Tryz.zeroValue72 rfl fun b_3 => ?_
 refine TL.st1 0 0 rfl Tryz.sizeOf72 rfl rfl rfl rfl rfl rfl rfl ?_
 refine TL.done <| TC.seq <| TC.region <| TL.mv (strv x1) ?_
 refine TL.call (R := G.impl_legs.R) Tryz.call34 rfl rfl rfl (fun w hS => G.impl_legs.calls w x1) ?_
 rintro ⟨r_1, r_2⟩ _ _ ⟨rfl, rfl⟩
 refine TL.mv (.tuple #[.int .i64 r_1, .int .i64 r_2]) <| TL.extract rfl rfl rfl (v := .int .i64 r_1) rfl <| TL.extract rfl rfl rfl (v := .int .i64 r_2) rfl <| TL.as (.int .i64 r_1) <| TL.as (.int .i64 r_2) <| TL.done ?_
 refine TC.seq <| TC.seq <| TC.region <| TL.mv (.int .i64 r_1) <| TL.mv (.int .i64 0) <| TL.done ?_
 refine TC.nilrow Ei 3 ?_
 refine TC.nilrow Ei 3 ?_
 refine TC.loop1 (σ := (List Int) × (List Int) × Int) (γ := SV × SV) (Γ' := (fun p q => match p, q with | (y1, y2, x2), (s1, s2) => [(0, strv x1), (3, bp b_3 0), (4, .int .i64 r_1), (28, .int .i64 r_1), (29, .int .i64 x2)])) (L' := (fun p q => match p, q with | (y1, y2, x2), (s1, s2) => [box b_3 72 [.one (bp b_2 0)], box b_2 77 [.one (SV.v s1), .one (.map (some b_1)), .one (SV.v s2)], row Ei 3 s1 y1, mpI b_1 ([] : List (Int × Int)), row Ei 3 s2 y2])) (Γb := (fun p q => match p, q with | (y1, y2, x2), (s1, s2) => [(0, strv x1), (3, bp b_3 0), (4, .int .i64 r_1), (28, .int .i64 r_1), (29, .int .i64 x2)])) (Lb := (fun p q => match p, q with | (y1, y2, x2), (s1, s2) => [box b_3 72 [.one (bp b_2 0)], box b_2 77 [.one (SV.v s1), .one (.map (some b_1)), .one (SV.v s2)], row Ei 3 s1 y1, mpI b_1 ([] : List (Int × Int)), row Ei 3 s2 y2])) ((([] : List Int), ([] : List Int), 0)) ((⟨none, 0, 0⟩, ⟨none, 0, 0⟩)) ⟨rfl, rfl, rfl, rfl, rfl, trivial⟩ [2, 2, 1, 1, 0] rfl ?_ ?_
 ·rintro ⟨y1, y2, x2⟩ ⟨s1, s2⟩
  refine TC.seq <| TC.region <| TL.bn .i64 x2 r_1 (.bool (decide (x2 < r_1))) <| TL.done <| TC.seq ?_
  refine TC.cond (b := (decide (x2 < r_1))) rfl (fun c1 => ?_) (fun c2 => ?_)
  ·refine TC.skip <| TC.seq <| TC.block (NoEx.loop1 rfl) ?_
   refine TC.wk (Γ' := [(0, strv x1), (3, bp b_3 0), (4, .int .i64 r_1), (28, .int .i64 r_1), (29, .int .i64 x2), (30, .bool (decide (x2 < r_1)))]) ⟨rfl, rfl, rfl, rfl, rfl, rfl, trivial⟩ ?_
   refine TC.bindE ?_
   rintro ⟨r_3, p1⟩ hr1
   refine TC.small fun h1 => ?_
   refine TC.drawG [(0, strv x1), (3, bp b_3 0), (4, .int .i64 r_1), (28, .int .i64 r_1), (29, .int .i64 x2), (30, .bool (decide (x2 < r_1)))] [] ⟨rfl, rfl, rfl, rfl, rfl, rfl, trivial⟩ trivial (fun l_ g1 => [box b_3 72 [.one (bp b_2 0)], (bif nb l_ 13 then box b_2 77 [.one (SV.v (gs (g1 64))), .one (.map (some b_1)), .one (SV.v (gs (g1 80)))] else (bif nb l_ 8 then box b_2 77 [.one (SV.v (gs (g1 64))), .one (.map (some b_1)), .one (SV.v s2)] else box b_2 77 [.one (SV.v s1), .one (.map (some b_1)), .one (SV.v s2)])), (bif nb l_ 8 then row Ei 3 (gs (g1 64)) p1 else row Ei 3 s1 y1), mpI b_1 ([] : List (Int × Int)), (bif nb l_ 10 then row Ei 3 (gs (g1 80)) (y2 ++ ([r_3] : List Int)) else row Ei 3 s2 y2), (bif nb l_ 9 then row Ei 3 (gs (g1 72)) ([r_3] : List Int) else emp)]) (fun g1 => [bp b_2 0, bp b_2 0, bp b_2 0, bp b_2 2, SV.v s2, bp b_2 0, bp b_2 0, bp b_2 0, .int .i64 r_3, SV.v (gs (g1 72)), SV.v (gs (g1 80)), bp b_2 0, bp b_2 2, undef]) [[], [], [1], [1, 2], [1, 2, 3], [], [5], [5, 6], [5, 6, 7], [5, 6, 7, 8], [1, 2, 3, 4, 5, 6, 7, 8, 9], [0, 1, 2, 3, 4, 5, 6, 7, 8, 9, 10], [0, 1, 2, 3, 4, 5, 6, 7, 8, 9, 10, 11], [0, 1, 2, 3, 4, 5, 6, 7, 8, 9, 10, 11, 12]] [[oF, none, none, none, none, none, none, none, none, none, none, oF, oF, oF], [none, oF, oF, oF, oF, none, none, none, none, none, oF, oF, oF, oF], [none, oT, oF, oF, oF, none, none, none, none, none, oF, oF, oF, oF], [none, oT, oT, oF, oF, none, none, none, none, none, oF, oF, oF, oF], [none, oT, oT, oT, oF, none, none, none, none, none, oF, oF, oF, oF], [none, none, none, none, none, oF, oF, oF, oF, oF, oF, oF, oF, oF], [none, none, none, none, none, oT, oF, oF, oF, oF, oF, oF, oF, oF], [none, none, none, none, none, oT, oT, oF, oF, oF, oF, oF, oF, oF], [none, none, none, none, none, oT, oT, oT, oF, oF, oF, oF, oF, oF], [none, none, none, none, none, oT, oT, oT, oT, oF, oF, oF, oF, oF], [none, oT, oT, oT, oT, oT, oT, oT, oT, oT, oF, oF, oF, oF], [oT, oT, oT, oT, oT, oT, oT, oT, oT, oT, oT, oF, oF, oF], [oT, oT, oT, oT, oT, oT, oT, oT, oT, oT, oT, oT, oF, oF], [oT, oT, oT, oT, oT, oT, oT, oT, oT, oT, oT, oT, oT, oF]] (by kernel_rfl) (fun _ => rfl) rfl rfl rfl rfl rfl (fun _ _ => ⟨⟨⟨⟨⟨⟨⟨⟨⟨⟨⟨⟨⟨⟨trivial, rfl⟩, rfl⟩, rfl⟩, rfl⟩, rfl⟩, rfl⟩, rfl⟩, rfl⟩, rfl⟩, rfl⟩, rfl⟩, rfl⟩, rfl⟩, rfl⟩) 1 [1, 1, 1, 1, 1, 0] (fun _ => by kernel_rfl) ?_ ?_
   ·refine ⟨rfl, ?_, rfl, ?_, rfl, ?_, rfl, ?_, rfl, ?_, rfl, ?_, rfl, ?_, rfl, ?_, rfl, ?_, rfl, ?_, rfl, ?_, rfl, ?_, rfl, ?_, rfl, ?_, trivial⟩
    ·intro b1_ b2_ b3_ b4_ b5_ b6_ b7_ b8_ b9_ b10_ g1
     exact TL.ll [box b_3 72 [.one (bp b_2 0)], (bif b8_ then box b_2 77 [.one (SV.v (gs (g1 64))), .one (.map (some b_1)), .one (SV.v s2)] else box b_2 77 [.one (SV.v s1), .one (.map (some b_1)), .one (SV.v s2)]), (bif b8_ then row Ei 3 (gs (g1 64)) p1 else row Ei 3 s1 y1), mpI b_1 ([] : List (Int × Int)), (bif b10_ then row Ei 3 (gs (g1 80)) (y2 ++ ([r_3] : List Int)) else row Ei 3 s2 y2), (bif b9_ then row Ei 3 (gs (g1 72)) ([r_3] : List Int) else emp)] <| TL.load1 0 (Src.box 0 rfl) Tryz.isAgg72 rfl rfl rfl rfl rfl <| TL.done <| TC.n1 [0, 0, 0, 0, 0, 0]
    ·intro b0_ b5_ b6_ b7_ b8_ b9_ g1
     exact TL.ll [box b_3 72 [.one (bp b_2 0)], (bif b8_ then box b_2 77 [.one (SV.v (gs (g1 64))), .one (.map (some b_1)), .one (SV.v s2)] else box b_2 77 [.one (SV.v s1), .one (.map (some b_1)), .one (SV.v s2)]), (bif b8_ then row Ei 3 (gs (g1 64)) p1 else row Ei 3 s1 y1), mpI b_1 ([] : List (Int × Int)), row Ei 3 s2 y2, (bif b9_ then row Ei 3 (gs (g1 72)) ([r_3] : List Int) else emp)] <| TL.load1 0 (Src.box 0 rfl) Tryz.isAgg72 rfl rfl rfl rfl rfl <| TL.done <| TC.n1 [0, 0, 0, 0, 0, 0]
    ·intro b0_ b5_ b6_ b7_ b8_ b9_ g1
     refine TL.nilCheck rfl rfl rfl ?_
     exact TL.done <| TC.n1 [0, 0, 0, 0, 0, 0]
    ·intro b0_ b5_ b6_ b7_ b8_ b9_ g1
     exact TL.ll [box b_3 72 [.one (bp b_2 0)], (bif b8_ then box b_2 77 [.one (SV.v (gs (g1 64))), .one (.map (some b_1)), .one (SV.v s2)] else box b_2 77 [.one (SV.v s1), .one (.map (some b_1)), .one (SV.v s2)]), (bif b8_ then row Ei 3 (gs (g1 64)) p1 else row Ei 3 s1 y1), mpI b_1 ([] : List (Int × Int)), row Ei 3 s2 y2, (bif b9_ then row Ei 3 (gs (g1 72)) ([r_3] : List Int) else emp)] <| TL.fa Tryz.underlying77 rfl Tryz.sizeOf74 rfl 2 rfl rfl rfl rfl <| TL.done <| TC.n1 [0, 0, 0, 0, 0, 0]
    ·intro b0_ b5_ b6_ b7_ b8_ b9_ g1
     cases b8_
     ·exact TL.ll [box b_3 72 [.one (bp b_2 0)], box b_2 77 [.one (SV.v s1), .one (.map (some b_1)), .one (SV.v s2)], row Ei 3 s1 y1, mpI b_1 ([] : List (Int × Int)), row Ei 3 s2 y2, (bif b9_ then row Ei 3 (gs (g1 72)) ([r_3] : List Int) else emp)] <| TL.load1 2 (Src.box 1 rfl) Tryz.isAgg74 rfl rfl rfl rfl rfl <| TL.done <| TC.n1 [0, 0, 0, 0, 0, 0]
     exact TL.ll [box b_3 72 [.one (bp b_2 0)], box b_2 77 [.one (SV.v (gs (g1 64))), .one (.map (some b_1)), .one (SV.v s2)], row Ei 3 (gs (g1 64)) p1, mpI b_1 ([] : List (Int × Int)), row Ei 3 s2 y2, (bif b9_ then row Ei 3 (gs (g1 72)) ([r_3] : List Int) else emp)] <| TL.load1 2 (Src.box 1 rfl) Tryz.isAgg74 rfl rfl rfl rfl rfl <| TL.done <| TC.n1 [0, 0, 0, 0, 0, 0]
    ·intro b0_ b1_ b2_ b3_ b4_ g1
     exact TL.ll [box b_3 72 [.one (bp b_2 0)], box b_2 77 [.one (SV.v s1), .one (.map (some b_1)), .one (SV.v s2)], row Ei 3 s1 y1, mpI b_1 ([] : List (Int × Int)), row Ei 3 s2 y2, emp] <| TL.load1 0 (Src.box 0 rfl) Tryz.isAgg72 rfl rfl rfl rfl rfl <| TL.done <| TC.n1 [0, 0, 0, 0, 0, 0]
    ·intro b0_ b1_ b2_ b3_ b4_ g1
     refine TL.nilCheck rfl rfl rfl ?_
     exact TL.done <| TC.n1 [0, 0, 0, 0, 0, 0]
    ·intro b0_ b1_ b2_ b3_ b4_ g1
     exact TL.ll [box b_3 72 [.one (bp b_2 0)], box b_2 77 [.one (SV.v s1), .one (.map (some b_1)), .one (SV.v s2)], row Ei 3 s1 y1, mpI b_1 ([] : List (Int × Int)), row Ei 3 s2 y2, emp] <| TL.fa Tryz.underlying77 rfl Tryz.sizeOf75 rfl 0 rfl rfl rfl rfl <| TL.done <| TC.n1 [0, 0, 0, 0, 0, 0]
    ·intro b0_ b1_ b2_ b3_ b4_ g1
     refine TL.ll [box b_3 72 [.one (bp b_2 0)], box b_2 77 [.one (SV.v s1), .one (.map (some b_1)), .one (SV.v s2)], row Ei 3 s1 y1, mpI b_1 ([] : List (Int × Int)), row Ei 3 s2 y2, emp] ?_
     refine TL.callXH (R := G.impl_pool_add.R b_2 (.map (some b_1)) (SV.v s2)) hr1 [1, 1, 0, 0, 0, 0] [box b_2 77 [.one (SV.v s1), .one (.map (some b_1)), .one (SV.v s2)], row Ei 3 s1 y1] [box b_3 72 [.one (bp b_2 0)], mpI b_1 ([] : List (Int × Int)), row Ei 3 s2 y2, emp] rfl Tryz.call55 rfl rfl rfl (fun w I_ hle hB hS => G.impl_pool_add.calls _ I_ w b_2 (.map (some b_1)) (SV.v s2) s1 y1 hS) ?_
     rintro _ _ ⟨s3, rfl, rfl⟩
     exact TL.done <| TC.nrm () [[s3]] ⟨rfl, trivial⟩ [2, 0, 0, 0, 0, 0] (by kernel_rfl)
    ·intro b0_ b1_ b2_ b3_ b4_ g1
     refine TL.ll [box b_3 72 [.one (bp b_2 0)], box b_2 77 [.one (SV.v (gs (g1 64))), .one (.map (some b_1)), .one (SV.v s2)], row Ei 3 (gs (g1 64)) p1, mpI b_1 ([] : List (Int × Int)), row Ei 3 s2 y2, emp] ?_
     refine TL.blit Ei ([r_3] : List Int) Tryz.underlying74 Tryz.sizeOf3 Tryz.zeroValue3 rfl rfl rfl [(0, .int .i64 r_3)] rfl ⟨rfl, rfl, trivial⟩ rfl rfl fun s4 => ?_
     exact TL.done <| TC.nrm () [[s4]] ⟨rfl, trivial⟩ [1, 1, 1, 1, 1, 0] (by kernel_rfl)
    ·intro b0_ g1
     refine TL.ll [box b_3 72 [.one (bp b_2 0)], box b_2 77 [.one (SV.v (gs (g1 64))), .one (.map (some b_1)), .one (SV.v s2)], row Ei 3 (gs (g1 64)) p1, mpI b_1 ([] : List (Int × Int)), row Ei 3 s2 y2, row Ei 3 (gs (g1 72)) ([r_3] : List Int)] ?_
     refine TL.append 4 rfl (Rd.row 5 rfl) Tryz.underlying74 (info_of Tryz.type3) (zv := (Tryz.t3.zero.getD (.bool false))) rfl rfl rfl (by decide) h1 rfl rfl rfl rfl fun s5 => ?_
     exact TL.done <| TC.nrm () [[s5]] ⟨rfl, trivial⟩ [0, 0, 0, 0, 0, 0] (by kernel_rfl)
    ·intro g1
     refine TL.nilCheck rfl rfl rfl ?_
     exact TL.done <| TC.n1 [0, 0, 0, 0, 0, 0]
    ·intro g1
     exact TL.ll [box b_3 72 [.one (bp b_2 0)], box b_2 77 [.one (SV.v (gs (g1 64))), .one (.map (some b_1)), .one (SV.v s2)], row Ei 3 (gs (g1 64)) p1, mpI b_1 ([] : List (Int × Int)), row Ei 3 (gs (g1 80)) (y2 ++ ([r_3] : List Int)), row Ei 3 (gs (g1 72)) ([r_3] : List Int)] <| TL.fa Tryz.underlying77 rfl Tryz.sizeOf74 rfl 2 rfl rfl rfl rfl <| TL.done <| TC.n1 [0, 0, 0, 0, 0, 0]
    intro g1
    refine TL.ll [box b_3 72 [.one (bp b_2 0)], box b_2 77 [.one (SV.v (gs (g1 64))), .one (.map (some b_1)), .one (SV.v s2)], row Ei 3 (gs (g1 64)) p1, mpI b_1 ([] : List (Int × Int)), row Ei 3 (gs (g1 80)) (y2 ++ ([r_3] : List Int)), row Ei 3 (gs (g1 72)) ([r_3] : List Int)] ?_
    refine TL.st1 1 2 rfl Tryz.sizeOf74 rfl rfl rfl rfl rfl rfl rfl ?_
    exact TL.done <| TC.nrm () [] trivial [0, 0, 0, 0, 0, 0] (by kernel_rfl)
   intro g1
   refine TC.ll [box b_3 72 [.one (bp b_2 0)], box b_2 77 [.one (SV.v (gs (g1 64))), .one (.map (some b_1)), .one (SV.v (gs (g1 80)))], row Ei 3 (gs (g1 64)) p1, mpI b_1 ([] : List (Int × Int)), row Ei 3 (gs (g1 80)) (y2 ++ ([r_3] : List Int)), row Ei 3 (gs (g1 72)) ([r_3] : List Int)] <| TC.region <| TL.bn .i64 x2 1 (.int .i64 (w64 (x2 + 1))) <| TL.mv (.int .i64 (w64 (x2 + 1))) <| TL.done ?_
   exact TC.next1 ((p1, (y2 ++ ([r_3] : List Int)), (w64 (x2 + 1)))) (((gs (g1 64)), (gs (g1 80)))) ⟨rfl, rfl, rfl, rfl, rfl, trivial⟩ [0, 0, 0, 0, 0] rfl
  exact TC.brk1 ((y1, y2, x2)) ((s1, s2)) ⟨rfl, rfl, rfl, rfl, rfl, trivial⟩ [0, 0, 0, 0, 0] rfl
 rintro ⟨y1, y2, x2⟩ ⟨s1, s2⟩
 refine TC.seq <| TC.seq <| TC.region <| TL.mv (strv x1) ?_
 refine TL.call (R := G.impl_layers.R) Tryz.call31 rfl rfl rfl (fun w hS => G.impl_layers.calls w x1) ?_
 rintro r_4 _ _ ⟨s6, rfl, rfl⟩
 refine TL.len (Rd.row 0 rfl) Tryz.underlying49 rfl rfl rfl <| TL.mv (.int .i64 0) <| TL.done ?_
 refine TC.loop1 (σ := (List Int) × (List (Int × Int)) × (List Int) × Int) (γ := SV × Nat × SV) (Γ' := (fun p q => match p, q with | (y3, y4, y5, x3), (s7, s8, s9) => [(3, bp b_3 0), (4, .int .i64 r_1), (46, SV.v s6), (47, .int .i64 (r_4.length : Int)), (48, .int .i64 x3)])) (L' := (fun p q => match p, q with | (y3, y4, y5, x3), (s7, s8, s9) => [box b_3 72 [.one (bp b_2 0)], box b_2 77 [.one (SV.v s7), .one (.map (some s8)), .one (SV.v s9)], row Ei 3 s7 y3, mpI s8 y4, row Ei 3 s9 y5, row Es 9 s6 r_4])) (Γb := (fun p q => match p, q with | (y3, y4, y5, x3), (s7, s8, s9) => [(3, bp b_3 0), (4, .int .i64 r_1), (46, SV.v s6), (47, .int .i64 (r_4.length : Int)), (48, .int .i64 x3)])) (Lb := (fun p q => match p, q with | (y3, y4, y5, x3), (s7, s8, s9) => [box b_3 72 [.one (bp b_2 0)], box b_2 77 [.one (SV.v s7), .one (.map (some s8)), .one (SV.v s9)], row Ei 3 s7 y3, mpI s8 y4, row Ei 3 s9 y5, row Es 9 s6 r_4])) ((y1, ([] : List (Int × Int)), y2, 0)) ((s1, b_1, s2)) ⟨rfl, rfl, rfl, rfl, rfl, trivial⟩ [1, 1, 1, 1, 1, 0] rfl ?_ ?_
 ·rintro ⟨y3, y4, y5, x3⟩ ⟨s7, s8, s9⟩
  refine TC.seq <| TC.region <| TL.bn .i64 x3 (r_4.length : Int) (.bool (decide (x3 < (r_4.length : Int)))) <| TL.done <| TC.seq ?_
  refine TC.cond (b := (decide (x3 < (r_4.length : Int)))) rfl (fun c3 => ?_) (fun c4 => ?_)
  ·refine TC.skip <| TC.seq <| TC.block (NoEx.loop1 rfl) <| TC.seq <| TC.region ?_
   refine TL.chk fun h2 => ?_
   refine TL.ixs x3 x3.toNat (Rd.row 5 rfl) h2 Tryz.underlying49 Tryz.sizeOf9 rfl rfl rfl rfl (by omega) ?_
   refine TL.loadE (Rd.row 5 rfl) Tryz.isAgg9 x3.toNat 0 (gt_spec h2) (v := strv (gt r_4 x3)) rfl (by simp only [show Es.sz = 1 from rfl] <;> omega) rfl rfl rfl ?_
   refine TL.as (strv (gt r_4 x3)) <| TL.done <| TC.region <| TL.load1 0 (Src.box 0 rfl) Tryz.isAgg72 rfl rfl rfl rfl rfl <| TL.mv (strv (gt r_4 x3)) ?_
   refine TL.callX (R := G.impl_tracer_layer.R b_2) [1, 1, 1, 1, 0, 0] [box b_2 77 [.one (SV.v s7), .one (.map (some s8)), .one (SV.v s9)], row Ei 3 s7 y3, mpI s8 y4, row Ei 3 s9 y5] [box b_3 72 [.one (bp b_2 0)], row Es 9 s6 r_4] rfl Tryz.call56 rfl rfl rfl (fun w I_ hle hB hS => G.impl_tracer_layer.calls _ I_ w b_2 s7 y3 s8 y4 s9 y5 (gt r_4 x3) hS) ?_
   rintro ⟨y6, y7, y8⟩ _ _ ⟨s10, s11, s12, rfl, rfl⟩
   refine TL.done <| TC.region <| TL.bn .i64 x3 1 (.int .i64 (w64 (x3 + 1))) <| TL.mv (.int .i64 (w64 (x3 + 1))) <| TL.done ?_
   exact TC.next1 ((y6, y7, y8, (w64 (x3 + 1)))) ((s10, s11, s12)) ⟨rfl, rfl, rfl, rfl, rfl, trivial⟩ [4, 0, 0, 0, 0, 0] rfl
  exact TC.brk1 ((y3, y4, y5, x3)) ((s7, s8, s9)) ⟨rfl, rfl, rfl, rfl, rfl, trivial⟩ [0, 0, 0, 0, 0, 0] rfl
 rintro ⟨y3, y4, y5, x3⟩ ⟨s7, s8, s9⟩
 refine TC.seq <| TC.region ?_
 refine TL.mkmap rfl rfl fun b_4 => ?_
 refine TL.alloc [.one (.map none)] rfl rfl Tryz.zeroValue80 rfl fun b_5 => ?_
 refine TL.st1 0 0 rfl Tryz.sizeOf80 rfl rfl rfl rfl rfl rfl rfl ?_
 refine TL.done <| TC.seq <| TC.region ?_
 refine TL.makeFunc rfl rfl (us := []) (vs := [bp b_3 0, bp b_5 0]) rfl rfl ?_
 refine TL.as (.func (.func 57) #[] #[bp b_3 0, bp b_5 0]) <| TL.done <| TC.seq <| TC.region ?_
 refine TL.mkfound 1 rfl rfl rfl fun b_6 => ?_
 refine TL.as (.map (some b_6)) <| TL.done <| TC.seq <| TC.seq <| TC.region <| TL.load1 0 (Src.box 2 rfl) Tryz.isAgg72 rfl rfl rfl rfl rfl ?_
 refine TL.nilCheck rfl rfl rfl ?_
 refine TL.fa Tryz.underlying77 rfl Tryz.sizeOf75 rfl 0 rfl rfl rfl rfl <| TL.load1 0 (Src.box 3 rfl) Tryz.isAgg75 rfl rfl rfl rfl rfl <| TL.len (Rd.row 4 rfl) Tryz.underlying75 rfl rfl rfl <| TL.mv (.int .i64 0) <| TL.done ?_
 refine TC.loop1 (σ := (List Int) × (List Int) × (List PC) × Int) (γ := (List Nat) × (List PV)) (Γ' := (fun p q => match p, q with | (keys1, sums1, c5, x4), (gbs1, gss1) => [(3, bp b_3 0), (4, .int .i64 r_1), (9, .func (.func 57) #[] #[bp b_3 0, bp b_5 0]), (10, .map (some b_6)), (63, .int .i64 (y3.length : Int)), (64, .int .i64 x4)])) (L' := (fun p q => match p, q with | (keys1, sums1, c5, x4), (gbs1, gss1) => [box b_3 72 [.one (bp b_2 0)], box b_2 77 [.one (SV.v s7), .one (.map (some s8)), .one (SV.v s9)], row Ei 3 s7 y3, mpI s8 y4, row Ei 3 s9 y5, box b_5 80 [.one (.map (some b_4))], found b_4 b_6 keys1 sums1 gbs1 gss1 c5])) (Γb := (fun p q => match p, q with | (keys1, sums1, c5, x4), (gbs1, gss1) => [(3, bp b_3 0), (4, .int .i64 r_1), (9, .func (.func 57) #[] #[bp b_3 0, bp b_5 0]), (10, .map (some b_6)), (63, .int .i64 (y3.length : Int)), (64, .int .i64 x4)])) (Lb := (fun p q => match p, q with | (keys1, sums1, c5, x4), (gbs1, gss1) => [box b_3 72 [.one (bp b_2 0)], box b_2 77 [.one (SV.v s7), .one (.map (some s8)), .one (SV.v s9)], row Ei 3 s7 y3, mpI s8 y4, row Ei 3 s9 y5, box b_5 80 [.one (.map (some b_4))], found b_4 b_6 keys1 sums1 gbs1 gss1 c5])) ((([] : List Int), ([] : List Int), ([] : List PC), 0)) ((([] : List Nat), ([] : List PV))) ⟨rfl, rfl, rfl, rfl, rfl, rfl, trivial⟩ [2, 2, 2, 2, 2, 0, 0] rfl ?_ ?_
 ·rintro ⟨keys1, sums1, c5, x4⟩ ⟨gbs1, gss1⟩
  refine TC.seq <| TC.region <| TL.bn .i64 x4 (y3.length : Int) (.bool (decide (x4 < (y3.length : Int)))) <| TL.done <| TC.seq ?_
  refine TC.cond (b := (decide (x4 < (y3.length : Int)))) rfl (fun c6 => ?_) (fun c7 => ?_)
  ·refine TC.skip <| TC.seq <| TC.block (NoEx.loop1 rfl) <| TC.seq <| TC.region <| TL.mv (.int .i64 x4) ?_
   refine TL.as (.int .i64 x4) <| TL.done ?_
   refine TC.wk (Γ' := [(3, bp b_3 0), (4, .int .i64 r_1), (9, .func (.func 57) #[] #[bp b_3 0, bp b_5 0]), (10, .map (some b_6)), (63, .int .i64 (y3.length : Int)), (64, .int .i64 x4), (65, .bool (decide (x4 < (y3.length : Int)))), (66, .int .i64 x4), (11, .int .i64 x4)]) ⟨rfl, rfl, rfl, rfl, rfl, rfl, rfl, rfl, rfl, trivial⟩ ?_
   refine TC.bindE ?_
   rintro ⟨j1, op1⟩ hr2
   refine TC.grd fun h3 => ?_
   refine TC.drawG [(3, bp b_3 0), (4, .int .i64 r_1), (9, .func (.func 57) #[] #[bp b_3 0, bp b_5 0]), (10, .map (some b_6)), (63, .int .i64 (y3.length : Int)), (64, .int .i64 x4), (65, .bool (decide (x4 < (y3.length : Int)))), (66, .int .i64 x4), (11, .int .i64 x4)] [] ⟨rfl, rfl, rfl, rfl, rfl, rfl, rfl, rfl, rfl, trivial⟩ trivial (fun l_ g2 => [box b_3 72 [.one (bp b_2 0)], box b_2 77 [.one (SV.v s7), .one (.map (some s8)), .one (SV.v s9)], row Ei 3 s7 y3, mpI s8 y4, row Ei 3 s9 y5, box b_5 80 [.one (.map (some b_4))], (bif nb l_ 12 then found b_4 b_6 (onK keys1 op1) (sput sums1 j1 (w64 ((sget sums1 j1) + (mlook y4 x4)))) (onB gbs1 (gs (g2 24)).n op1) (onS gss1 op1) (onC c5 op1) else (bif nb l_ 3 then found b_4 b_6 (onK keys1 op1) sums1 (onB gbs1 (gs (g2 24)).n op1) (onS gss1 op1) (onC c5 op1) else found b_4 b_6 keys1 sums1 gbs1 gss1 c5)), (bif nb l_ 3 then fact (((onB gbs1 (gs (g2 24)).n op1))[j1]? = some (gs (g2 24)).n) else emp)]) (fun g2 => [.map (some b_6), .func (.func 57) #[] #[bp b_3 0, bp b_5 0], .int .i64 x4, bp ((gs (g2 24)).n) 0, .int .i64 (sget sums1 j1), bp b_2 0, bp b_2 0, bp b_2 1, .map (some s8), .int .i64 x4, .int .i64 (mlook y4 x4), .int .i64 (w64 ((sget sums1 j1) + (mlook y4 x4))), undef]) [[], [], [], [1, 2], [0, 1, 2, 3], [], [5], [5, 6], [5, 6, 7], [], [5, 6, 7, 8, 9], [0, 1, 2, 3, 4, 5, 6, 7, 8, 9, 10], [0, 1, 2, 3, 4, 5, 6, 7, 8, 9, 10, 11]] [[oF, none, none, none, oF, none, none, none, none, none, none, oF, oF], [none, oF, none, oF, oF, none, none, none, none, none, none, oF, oF], [none, none, oF, oF, oF, none, none, none, none, none, none, oF, oF], [none, oT, oT, oF, oF, none, none, none, none, none, none, oF, oF], [oT, oT, oT, oT, oF, none, none, none, none, none, none, oF, oF], [none, none, none, none, none, oF, oF, oF, oF, none, oF, oF, oF], [none, none, none, none, none, oT, oF, oF, oF, none, oF, oF, oF], [none, none, none, none, none, oT, oT, oF, oF, none, oF, oF, oF], [none, none, none, none, none, oT, oT, oT, oF, none, oF, oF, oF], [none, none, none, none, none, none, none, none, none, oF, oF, oF, oF], [none, none, none, none, none, oT, oT, oT, oT, oT, oF, oF, oF], [oT, oT, oT, oT, oT, oT, oT, oT, oT, oT, oT, oF, oF], [oT, oT, oT, oT, oT, oT, oT, oT, oT, oT, oT, oT, oF]] (by kernel_rfl) (fun _ => rfl) rfl rfl rfl rfl rfl (fun _ _ => ⟨⟨⟨⟨⟨⟨⟨⟨⟨⟨⟨⟨⟨trivial, rfl⟩, rfl⟩, rfl⟩, rfl⟩, rfl⟩, rfl⟩, rfl⟩, rfl⟩, rfl⟩, rfl⟩, rfl⟩, rfl⟩, rfl⟩) 1 [1, 1, 1, 1, 1, 1, 1, 0] (fun _ => by kernel_rfl) ?_ ?_
   ·refine ⟨rfl, ?_, rfl, ?_, rfl, ?_, rfl, ?_, rfl, ?_, rfl, ?_, rfl, ?_, rfl, ?_, rfl, ?_, rfl, ?_, rfl, ?_, rfl, ?_, rfl, ?_, trivial⟩
    ·intro b1_ b2_ b3_ b5_ b6_ b7_ b8_ b9_ b10_ g2
     exact TL.mv (.map (some b_6)) <| TL.done <| TC.n1 [0, 0, 0, 0, 0, 0, 0, 0]
    ·intro b0_ b2_ b5_ b6_ b7_ b8_ b9_ b10_ g2
     exact TL.mv (.func (.func 57) #[] #[bp b_3 0, bp b_5 0]) <| TL.done <| TC.n1 [0, 0, 0, 0, 0, 0, 0, 0]
    ·intro b0_ b1_ b5_ b6_ b7_ b8_ b9_ b10_ g2
     exact TL.mv (.int .i64 x4) <| TL.done <| TC.n1 [0, 0, 0, 0, 0, 0, 0, 0]
    ·intro b0_ b5_ b6_ b7_ b8_ b9_ b10_ g2
     refine TL.ll [box b_3 72 [.one (bp b_2 0)], box b_2 77 [.one (SV.v s7), .one (.map (some s8)), .one (SV.v s9)], row Ei 3 s7 y3, mpI s8 y4, row Ei 3 s9 y5, box b_5 80 [.one (.map (some b_4))], found b_4 b_6 keys1 sums1 gbs1 gss1 c5, emp] ?_
     refine TL.sel [0, 0, 0, 2, 2, 0, 0, 0] rfl ?_
     refine TL.partCall hr2 rfl rfl rfl rfl fun b_7 hb1 => ?_
     refine TL.addFact hb1 ?_
     exact TL.done <| TC.nrm () [[⟨none, b_7, 0⟩]] ⟨rfl, trivial⟩ [1, 1, 1, 3, 3, 1, 1, 0] (by kernel_rfl)
    ·intro b5_ b6_ b7_ b8_ b9_ b10_ g2
     refine TL.ll [box b_3 72 [.one (bp b_2 0)], box b_2 77 [.one (SV.v s7), .one (.map (some s8)), .one (SV.v s9)], row Ei 3 s7 y3, mpI s8 y4, row Ei 3 s9 y5, box b_5 80 [.one (.map (some b_4))], found b_4 b_6 (onK keys1 op1) sums1 (onB gbs1 (gs (g2 24)).n op1) (onS gss1 op1) (onC c5 op1), fact (((onB gbs1 (gs (g2 24)).n op1))[j1]? = some (gs (g2 24)).n)] ?_
     refine TL.factOf 7 rfl fun hb2 => ?_
     refine TL.sget 6 rfl hb2 Tryz.underlying84 Tryz.underlying81 Tryz.sizeOf44 (by decide) Tryz.zeroValue2 rfl rfl rfl rfl ?_
     exact TL.done <| TC.n1 [0, 0, 0, 0, 0, 0, 0, 0]
    ·intro b0_ b1_ b2_ b3_ b4_ b9_ g2
     exact TL.ll [box b_3 72 [.one (bp b_2 0)], box b_2 77 [.one (SV.v s7), .one (.map (some s8)), .one (SV.v s9)], row Ei 3 s7 y3, mpI s8 y4, row Ei 3 s9 y5, box b_5 80 [.one (.map (some b_4))], (bif b3_ then found b_4 b_6 (onK keys1 op1) sums1 (onB gbs1 (gs (g2 24)).n op1) (onS gss1 op1) (onC c5 op1) else found b_4 b_6 keys1 sums1 gbs1 gss1 c5), (bif b3_ then fact (((onB gbs1 (gs (g2 24)).n op1))[j1]? = some (gs (g2 24)).n) else emp)] <| TL.load1 0 (Src.box 0 rfl) Tryz.isAgg72 rfl rfl rfl rfl rfl <| TL.done <| TC.n1 [0, 0, 0, 0, 0, 0, 0, 0]
    ·intro b0_ b1_ b2_ b3_ b4_ b9_ g2
     refine TL.nilCheck rfl rfl rfl ?_
     exact TL.done <| TC.n1 [0, 0, 0, 0, 0, 0, 0, 0]
    ·intro b0_ b1_ b2_ b3_ b4_ b9_ g2
     exact TL.ll [box b_3 72 [.one (bp b_2 0)], box b_2 77 [.one (SV.v s7), .one (.map (some s8)), .one (SV.v s9)], row Ei 3 s7 y3, mpI s8 y4, row Ei 3 s9 y5, box b_5 80 [.one (.map (some b_4))], (bif b3_ then found b_4 b_6 (onK keys1 op1) sums1 (onB gbs1 (gs (g2 24)).n op1) (onS gss1 op1) (onC c5 op1) else found b_4 b_6 keys1 sums1 gbs1 gss1 c5), (bif b3_ then fact (((onB gbs1 (gs (g2 24)).n op1))[j1]? = some (gs (g2 24)).n) else emp)] <| TL.fa Tryz.underlying77 rfl Tryz.sizeOf73 rfl 1 rfl rfl rfl rfl <| TL.done <| TC.n1 [0, 0, 0, 0, 0, 0, 0, 0]
    ·intro b0_ b1_ b2_ b3_ b4_ b9_ g2
     exact TL.ll [box b_3 72 [.one (bp b_2 0)], box b_2 77 [.one (SV.v s7), .one (.map (some s8)), .one (SV.v s9)], row Ei 3 s7 y3, mpI s8 y4, row Ei 3 s9 y5, box b_5 80 [.one (.map (some b_4))], (bif b3_ then found b_4 b_6 (onK keys1 op1) sums1 (onB gbs1 (gs (g2 24)).n op1) (onS gss1 op1) (onC c5 op1) else found b_4 b_6 keys1 sums1 gbs1 gss1 c5), (bif b3_ then fact (((onB gbs1 (gs (g2 24)).n op1))[j1]? = some (gs (g2 24)).n) else emp)] <| TL.load1 1 (Src.box 1 rfl) Tryz.isAgg73 rfl rfl rfl rfl rfl <| TL.done <| TC.n1 [0, 0, 0, 0, 0, 0, 0, 0]
    ·intro b0_ b1_ b2_ b3_ b4_ b5_ b6_ b7_ b8_ g2
     exact TL.mv (.int .i64 x4) <| TL.done <| TC.n1 [0, 0, 0, 0, 0, 0, 0, 0]
    ·intro b0_ b1_ b2_ b3_ b4_ g2
     refine TL.ll [box b_3 72 [.one (bp b_2 0)], box b_2 77 [.one (SV.v s7), .one (.map (some s8)), .one (SV.v s9)], row Ei 3 s7 y3, mpI s8 y4, row Ei 3 s9 y5, box b_5 80 [.one (.map (some b_4))], (bif b3_ then found b_4 b_6 (onK keys1 op1) sums1 (onB gbs1 (gs (g2 24)).n op1) (onS gss1 op1) (onC c5 op1) else found b_4 b_6 keys1 sums1 gbs1 gss1 c5), (bif b3_ then fact (((onB gbs1 (gs (g2 24)).n op1))[j1]? = some (gs (g2 24)).n) else emp)] ?_
     refine TL.mgetI 3 rfl Tryz.underlying73 Tryz.underlying3 Tryz.zeroValue2 rfl rfl rfl rfl ?_
     exact TL.done <| TC.n1 [0, 0, 0, 0, 0, 0, 0, 0]
    ·intro g2
     exact TL.bn .i64 (sget sums1 j1) (mlook y4 x4) (.int .i64 (w64 ((sget sums1 j1) + (mlook y4 x4)))) <| TL.done <| TC.n1 [0, 0, 0, 0, 0, 0, 0, 0]
    intro g2
    refine TL.ll [box b_3 72 [.one (bp b_2 0)], box b_2 77 [.one (SV.v s7), .one (.map (some s8)), .one (SV.v s9)], row Ei 3 s7 y3, mpI s8 y4, row Ei 3 s9 y5, box b_5 80 [.one (.map (some b_4))], found b_4 b_6 (onK keys1 op1) sums1 (onB gbs1 (gs (g2 24)).n op1) (onS gss1 op1) (onC c5 op1), fact (((onB gbs1 (gs (g2 24)).n op1))[j1]? = some (gs (g2 24)).n)] ?_
    refine TL.factOf 7 rfl fun hb3 => ?_
    refine TL.sput 6 rfl hb3 (of_decide_eq_true h3) Tryz.underlying84 Tryz.underlying81 Tryz.sizeOf44 (by decide) rfl rfl rfl rfl ?_
    exact TL.done <| TC.nrm () [] trivial [0, 0, 0, 0, 0, 0, 0, 0] (by kernel_rfl)
   intro g2
   refine TC.ll [box b_3 72 [.one (bp b_2 0)], box b_2 77 [.one (SV.v s7), .one (.map (some s8)), .one (SV.v s9)], row Ei 3 s7 y3, mpI s8 y4, row Ei 3 s9 y5, box b_5 80 [.one (.map (some b_4))], found b_4 b_6 (onK keys1 op1) (sput sums1 j1 (w64 ((sget sums1 j1) + (mlook y4 x4)))) (onB gbs1 (gs (g2 24)).n op1) (onS gss1 op1) (onC c5 op1), fact (((onB gbs1 (gs (g2 24)).n op1))[j1]? = some (gs (g2 24)).n)] <| TC.region <| TL.bn .i64 x4 1 (.int .i64 (w64 (x4 + 1))) <| TL.mv (.int .i64 (w64 (x4 + 1))) <| TL.done ?_
   exact TC.next1 (((onK keys1 op1), (sput sums1 j1 (w64 ((sget sums1 j1) + (mlook y4 x4)))), (onC c5 op1), (w64 (x4 + 1)))) (((onB gbs1 (gs (g2 24)).n op1), (onS gss1 op1))) ⟨rfl, rfl, rfl, rfl, rfl, rfl, trivial⟩ [0, 0, 0, 0, 0, 0, 0] rfl
  exact TC.brk1 ((keys1, sums1, c5, x4)) ((gbs1, gss1)) ⟨rfl, rfl, rfl, rfl, rfl, rfl, trivial⟩ [0, 0, 0, 0, 0, 0, 0] rfl
 rintro ⟨keys1, sums1, c5, x4⟩ ⟨gbs1, gss1⟩
 refine TC.seq <| TC.seq <| TC.region <| TL.mv (.int .i64 r_1) <| TL.mv (.int .i64 0) <| TL.done ?_
 refine TC.loop1 (σ := (List Int) × (List Int) × (List PC) × Int) (γ := (List Nat) × (List PV)) (Γ' := (fun p q => match p, q with | (keys2, sums2, c8, x5), (gbs2, gss2) => [(3, bp b_3 0), (9, .func (.func 57) #[] #[bp b_3 0, bp b_5 0]), (10, .map (some b_6)), (80, .int .i64 r_1), (81, .int .i64 x5)])) (L' := (fun p q => match p, q with | (keys2, sums2, c8, x5), (gbs2, gss2) => [box b_3 72 [.one (bp b_2 0)], box b_2 77 [.one (SV.v s7), .one (.map (some s8)), .one (SV.v s9)], row Ei 3 s7 y3, mpI s8 y4, row Ei 3 s9 y5, box b_5 80 [.one (.map (some b_4))], found b_4 b_6 keys2 sums2 gbs2 gss2 c8])) (Γb := (fun p q => match p, q with | (keys2, sums2, c8, x5), (gbs2, gss2) => [(3, bp b_3 0), (9, .func (.func 57) #[] #[bp b_3 0, bp b_5 0]), (10, .map (some b_6)), (80, .int .i64 r_1), (81, .int .i64 x5)])) (Lb := (fun p q => match p, q with | (keys2, sums2, c8, x5), (gbs2, gss2) => [box b_3 72 [.one (bp b_2 0)], box b_2 77 [.one (SV.v s7), .one (.map (some s8)), .one (SV.v s9)], row Ei 3 s7 y3, mpI s8 y4, row Ei 3 s9 y5, box b_5 80 [.one (.map (some b_4))], found b_4 b_6 keys2 sums2 gbs2 gss2 c8])) ((keys1, sums1, c5, 0)) ((gbs1, gss1)) ⟨rfl, rfl, rfl, rfl, rfl, trivial⟩ [0, 0, 0, 0, 0, 0, 0] rfl ?_ ?_
 ·rintro ⟨keys2, sums2, c8, x5⟩ ⟨gbs2, gss2⟩
  refine TC.seq <| TC.region <| TL.bn .i64 x5 r_1 (.bool (decide (x5 < r_1))) <| TL.done <| TC.seq ?_
  refine TC.cond (b := (decide (x5 < r_1))) rfl (fun c9 => ?_) (fun c10 => ?_)
  ·refine TC.skip <| TC.seq <| TC.block (NoEx.loop1 rfl) <| TC.seq <| TC.region <| TL.mv (.int .i64 x5) ?_
   refine TL.as (.int .i64 x5) <| TL.done <| TC.seq <| TC.region <| TL.mv (.func (.func 57) #[] #[bp b_3 0, bp b_5 0]) <| TL.mv (.int .i64 x5) ?_
   refine TL.sel [0, 0, 0, 2, 2, 0, 0] rfl ?_
   refine TL.bindE ?_
   rintro ⟨j2, op2⟩ hr3
   refine TL.partCall hr3 rfl rfl rfl rfl fun b_8 hb4 => ?_
   refine TL.addFact hb4 ?_
   refine TL.as (bp b_8 0) <| TL.done ?_
   refine TC.factOf 0 rfl fun hb5 => ?_
   refine TC.grd fun h4 => ?_
   refine TC.foundOpen 5 j2 rfl (of_decide_eq_true h4) ?_
   rintro b' ⟨g', s13, s14⟩ y' e1 e2 e3 e4
   have eb' : b' = b_8 := Option.some.inj (e1.symm.trans hb5)
   rw [eb']
   have ey' : y' = (gt (onC c8 op2) (j2 : Int)) := (gt_nat e3).symm
   subst ey'
   have eg' : g' = (gt (onC c8 op2) (j2 : Int)).1 := e4
   subst eg'
   dsimp only
   refine TC.region <| TL.mv (bp b_8 0) <| TL.mv (bp b_8 0) ?_
   refine TL.nilCheck rfl rfl rfl ?_
   refine TL.fa Tryz.underlying44 rfl Tryz.sizeOf36 rfl 1 rfl rfl rfl rfl <| TL.load1 1 (Src.box 0 rfl) Tryz.isAgg36 rfl rfl rfl rfl rfl <| TL.mv (.int .i64 x5) ?_
   refine TL.blit Ei ([x5] : List Int) Tryz.underlying36 Tryz.sizeOf2 Tryz.zeroValue2 rfl rfl rfl [(0, .int .i64 x5)] rfl ⟨rfl, rfl, trivial⟩ rfl rfl fun s15 => ?_
   refine TL.small fun h5 => ?_
   refine TL.append 2 rfl (Rd.row 0 rfl) Tryz.underlying36 (info_of Tryz.type2) (zv := (Tryz.t2.zero.getD (.bool false))) rfl rfl rfl (by decide) h5 rfl rfl rfl rfl fun s16 => ?_
   refine TL.nilCheck rfl rfl rfl ?_
   refine TL.fa Tryz.underlying44 rfl Tryz.sizeOf36 rfl 1 rfl rfl rfl rfl ?_
   refine TL.st1 1 1 rfl Tryz.sizeOf36 rfl rfl rfl rfl rfl rfl rfl ?_
   refine TL.done ?_
   refine TC.sel [1, 1, 1, 0, 0, 0, 0, 0, 0, 0, 0, 0] rfl ?_
   refine TC.foundShut 6 rfl ?_
   refine TC.region <| TL.bn .i64 x5 1 (.int .i64 (w64 (x5 + 1))) <| TL.mv (.int .i64 (w64 (x5 + 1))) <| TL.done ?_
   exact TC.next1 (((onK keys2 op2), sums2, ((onC c8 op2).set j2 ((gt (onC c8 op2) (j2 : Int)).1, ((gt (onC c8 op2) (j2 : Int)).2.1 ++ ([x5] : List Int)), (gt (onC c8 op2) (j2 : Int)).2.2)), (w64 (x5 + 1)))) (((onB gbs2 b_8 op2), ((onS gss2 op2).set j2 ((gt (onC c8 op2) (j2 : Int)).1, s16, s14)))) ⟨rfl, rfl, rfl, rfl, rfl, trivial⟩ [2, 2, 2, 4, 4, 2, 2] rfl
  exact TC.brk1 ((keys2, sums2, c8, x5)) ((gbs2, gss2)) ⟨rfl, rfl, rfl, rfl, rfl, trivial⟩ [0, 0, 0, 0, 0, 0, 0] rfl
 rintro ⟨keys2, sums2, c8, x5⟩ ⟨gbs2, gss2⟩
 refine TC.seq <| TC.seq <| TC.region <| TL.load1 0 (Src.box 0 rfl) Tryz.isAgg72 rfl rfl rfl rfl rfl ?_
 refine TL.nilCheck rfl rfl rfl ?_
 refine TL.fa Tryz.underlying77 rfl Tryz.sizeOf74 rfl 2 rfl rfl rfl rfl <| TL.load1 2 (Src.box 1 rfl) Tryz.isAgg74 rfl rfl rfl rfl rfl <| TL.len (Rd.row 4 rfl) Tryz.underlying74 rfl rfl rfl <| TL.mv (.int .i64 0) <| TL.done ?_
 refine TC.loop1 (σ := (List Int) × (List Int) × (List PC) × Int) (γ := (List Nat) × (List PV)) (Γ' := (fun p q => match p, q with | (keys3, sums3, c11, x6), (gbs3, gss3) => [(9, .func (.func 57) #[] #[bp b_3 0, bp b_5 0]), (10, .map (some b_6)), (101, SV.v s9), (102, .int .i64 (y5.length : Int)), (103, .int .i64 x6)])) (L' := (fun p q => match p, q with | (keys3, sums3, c11, x6), (gbs3, gss3) => [box b_3 72 [.one (bp b_2 0)], box b_2 77 [.one (SV.v s7), .one (.map (some s8)), .one (SV.v s9)], row Ei 3 s7 y3, mpI s8 y4, row Ei 3 s9 y5, box b_5 80 [.one (.map (some b_4))], found b_4 b_6 keys3 sums3 gbs3 gss3 c11])) (Γb := (fun p q => match p, q with | (keys3, sums3, c11, x6), (gbs3, gss3) => [(9, .func (.func 57) #[] #[bp b_3 0, bp b_5 0]), (10, .map (some b_6)), (101, SV.v s9), (102, .int .i64 (y5.length : Int)), (103, .int .i64 x6)])) (Lb := (fun p q => match p, q with | (keys3, sums3, c11, x6), (gbs3, gss3) => [box b_3 72 [.one (bp b_2 0)], box b_2 77 [.one (SV.v s7), .one (.map (some s8)), .one (SV.v s9)], row Ei 3 s7 y3, mpI s8 y4, row Ei 3 s9 y5, box b_5 80 [.one (.map (some b_4))], found b_4 b_6 keys3 sums3 gbs3 gss3 c11])) ((keys2, sums2, c8, 0)) ((gbs2, gss2)) ⟨rfl, rfl, rfl, rfl, rfl, trivial⟩ [0, 0, 0, 0, 0, 0, 0] rfl ?_ ?_
 ·rintro ⟨keys3, sums3, c11, x6⟩ ⟨gbs3, gss3⟩
  refine TC.seq <| TC.region <| TL.bn .i64 x6 (y5.length : Int) (.bool (decide (x6 < (y5.length : Int)))) <| TL.done <| TC.seq ?_
  refine TC.cond (b := (decide (x6 < (y5.length : Int)))) rfl (fun c12 => ?_) (fun c13 => ?_)
  ·refine TC.skip <| TC.seq <| TC.block (NoEx.loop1 rfl) <| TC.seq <| TC.region <| TL.mv (.int .i64 x6) ?_
   refine TL.chk fun h6 => ?_
   refine TL.ixs x6 x6.toNat (Rd.row 4 rfl) h6 Tryz.underlying74 Tryz.sizeOf3 rfl rfl rfl rfl (by omega) ?_
   refine TL.loadE (Rd.row 4 rfl) Tryz.isAgg3 x6.toNat 0 (gt_spec h6) (v := .int .i64 (gt y5 x6)) rfl (by simp only [show Ei.sz = 1 from rfl] <;> omega) rfl rfl rfl ?_
   refine TL.as (.int .i64 x6) <| TL.as (.int .i64 (gt y5 x6)) <| TL.done <| TC.seq <| TC.region <| TL.mv (.func (.func 57) #[] #[bp b_3 0, bp b_5 0]) ?_
   refine TL.mv (.int .i64 (gt y5 x6)) ?_
   refine TL.sel [0, 0, 0, 2, 2, 0, 0] rfl ?_
   refine TL.bindE ?_
   rintro ⟨j3, op3⟩ hr4
   refine TL.partCall hr4 rfl rfl rfl rfl fun b_9 hb6 => ?_
   refine TL.addFact hb6 ?_
   refine TL.as (bp b_9 0) <| TL.done ?_
   refine TC.factOf 0 rfl fun hb7 => ?_
   refine TC.grd fun h7 => ?_
   refine TC.foundOpen 5 j3 rfl (of_decide_eq_true h7) ?_
   rintro b' ⟨g', s17, s18⟩ y' e1 e2 e3 e4
   have eb' : b' = b_9 := Option.some.inj (e1.symm.trans hb7)
   rw [eb']
   have ey' : y' = (gt (onC c11 op3) (j3 : Int)) := (gt_nat e3).symm
   subst ey'
   have eg' : g' = (gt (onC c11 op3) (j3 : Int)).1 := e4
   subst eg'
   dsimp only
   refine TC.region <| TL.mv (bp b_9 0) <| TL.mv (bp b_9 0) ?_
   refine TL.nilCheck rfl rfl rfl ?_
   refine TL.fa Tryz.underlying44 rfl Tryz.sizeOf36 rfl 2 rfl rfl rfl rfl <| TL.load1 2 (Src.box 0 rfl) Tryz.isAgg36 rfl rfl rfl rfl rfl <| TL.mv (.int .i64 x6) ?_
   refine TL.blit Ei ([x6] : List Int) Tryz.underlying36 Tryz.sizeOf2 Tryz.zeroValue2 rfl rfl rfl [(0, .int .i64 x6)] rfl ⟨rfl, rfl, trivial⟩ rfl rfl fun s19 => ?_
   refine TL.small fun h8 => ?_
   refine TL.append 3 rfl (Rd.row 0 rfl) Tryz.underlying36 (info_of Tryz.type2) (zv := (Tryz.t2.zero.getD (.bool false))) rfl rfl rfl (by decide) h8 rfl rfl rfl rfl fun s20 => ?_
   refine TL.nilCheck rfl rfl rfl ?_
   refine TL.fa Tryz.underlying44 rfl Tryz.sizeOf36 rfl 2 rfl rfl rfl rfl ?_
   refine TL.st1 1 2 rfl Tryz.sizeOf36 rfl rfl rfl rfl rfl rfl rfl ?_
   refine TL.done ?_
   refine TC.sel [1, 1, 1, 0, 0, 0, 0, 0, 0, 0, 0, 0] rfl ?_
   refine TC.foundShut 6 rfl ?_
   refine TC.region <| TL.bn .i64 x6 1 (.int .i64 (w64 (x6 + 1))) <| TL.mv (.int .i64 (w64 (x6 + 1))) <| TL.done ?_
   exact TC.next1 (((onK keys3 op3), sums3, ((onC c11 op3).set j3 ((gt (onC c11 op3) (j3 : Int)).1, (gt (onC c11 op3) (j3 : Int)).2.1, ((gt (onC c11 op3) (j3 : Int)).2.2 ++ ([x6] : List Int)))), (w64 (x6 + 1)))) (((onB gbs3 b_9 op3), ((onS gss3 op3).set j3 ((gt (onC c11 op3) (j3 : Int)).1, s17, s20)))) ⟨rfl, rfl, rfl, rfl, rfl, trivial⟩ [2, 2, 2, 4, 4, 2, 2] rfl
  exact TC.brk1 ((keys3, sums3, c11, x6)) ((gbs3, gss3)) ⟨rfl, rfl, rfl, rfl, rfl, trivial⟩ [0, 0, 0, 0, 0, 0, 0] rfl
 rintro ⟨keys3, sums3, c11, x6⟩ ⟨gbs3, gss3⟩
 refine TC.seq ?_
 refine TC.grd fun hg1 => ?_
 refine TC.grd fun hg2 => ?_
 refine TC.grd fun hg3 => ?_
 have hn1 : sums3.length = c11.length := of_decide_eq_true hg1
 have hn2 : c11.length ≤ 1099511627776 := of_decide_eq_true hg2
 refine TC.region ?_
 refine TL.bslice0 Epart Tryz.underlying25 Tryz.sizeOf44 rfl rfl fun so => ?_
 refine TL.as (SV.v so) <| TL.done <| TC.seq <| TC.seq <| TC.region <| TL.mv (.map (some b_6)) ?_
 refine TL.foundCut 7 rfl fun hl => ?_
 refine TL.pbInfo 2 rfl fun hb1 hb2 hnd => ?_
 refine TL.rangeM 1 rfl Tryz.underlying84 rfl rfl rfl fun rI => ?_
 refine TL.done ?_
 have hk0 : (kPI gbs3 sums3).length = c11.length := (kPI_length hl.2).trans hn1
 refine TC.addFact (φ := ([] : List Nat).Nodup ∧ ([] : List Nat).length = 0 ∧ ∀ j ∈ ([] : List Nat), j < c11.length) ⟨List.nodup_nil, rfl, fun j hj => nomatch hj⟩ ?_
 refine TC.sel [1, 2, 2, 2, 0] rfl ?_
 have em1 : mrg [] (sF sums3 c11 gss3) (fun j => gt gss3 (j : Int)) (c11.length) = gss3 := by rw [← hb2]; exact mrg_nil _ _
 have em2 : mrg [] (cF sums3 c11) (fun j => gt c11 (j : Int)) (c11.length) = c11 := mrg_nil _ _
 refine TC.asL [ob rI (.mapIter (some b_6) (kPI gbs3 sums3).length ([] : List Nat).toArray (kPI gbs3 sums3).length), mp b_6 (kPI gbs3 sums3), pbxs 2 44 gbs3 (mrg ([] : List Nat) (sF sums3 c11 gss3) (fun j => gt gss3 (j : Int)) (c11.length)) (mrg ([] : List Nat) (cF sums3 c11) (fun j => gt c11 (j : Int)) (c11.length)), row Epart 44 so (([] : List Nat).map (sF sums3 c11 gss3)), fact (([] : List Nat).Nodup ∧ ([] : List Nat).length = 0 ∧ ∀ j ∈ ([] : List Nat), j < c11.length)] (by rw [em1, em2]; first | done | rfl) ?_
 refine TC.loop1 (σ := Nat) (γ := List Nat × SV) (Γ' := fun k q => match q with | (vis, so) => [(124, bp rI 0), (17, SV.v so)]) (L' := fun k q => match q with | (vis, so) => [ob rI (.mapIter (some b_6) (kPI gbs3 sums3).length vis.toArray (kPI gbs3 sums3).length), mp b_6 (kPI gbs3 sums3), pbxs 2 44 gbs3 (mrg vis (sF sums3 c11 gss3) (fun j => gt gss3 (j : Int)) (c11.length)) (mrg vis (cF sums3 c11) (fun j => gt c11 (j : Int)) (c11.length)), row Epart 44 so (vis.map (sF sums3 c11 gss3)), fact (vis.Nodup ∧ vis.length = k ∧ ∀ j ∈ vis, j < c11.length)]) (Γb := fun k q => match q with | (vis, so) => [(17, SV.v so)]) (Lb := fun k q => match q with | (vis, so) => [pbxs 2 44 gbs3 (mrg vis (sF sums3 c11 gss3) (fun j => gt gss3 (j : Int)) (c11.length)) (mrg vis (cF sums3 c11) (fun j => gt c11 (j : Int)) (c11.length)), row Epart 44 so (vis.map (sF sums3 c11 gss3)), fact (vis.Nodup ∧ (∀ j ∈ vis, j < c11.length) ∧ ∀ j, j < c11.length → j ∈ vis)]) 0 ([], so) ⟨rfl, rfl, trivial⟩ [0, 0, 0, 0, 0] rfl ?_ ?_
 ·rintro k ⟨vis, so⟩
  refine TC.factOf 4 rfl fun hf => ?_
  obtain ⟨hvn, hvk, hvl⟩ := hf
  refine TC.seq <| TC.region ?_
  refine TL.nextM (since := 0) 0 1 rfl rfl rfl rfl rfl (fun hall => ?_) (fun q p hp hq => ?_)
  ·have hva : ∀ j, j < c11.length → j ∈ vis := fun j hj => hall j (by rw [hk0]; exact hj)
   have hkn : cntB (c11.length) k = some (.brk k) := cntB_end hvn hvk hvl hva
   refine TL.extract rfl rfl rfl (v := .bool false) rfl <| TL.done <| TC.seq ?_
   refine TC.cond_false rfl ?_
   rw [hkn]
   refine TC.addFact (φ := vis.Nodup ∧ (∀ j ∈ vis, j < c11.length) ∧ ∀ j, j < c11.length → j ∈ vis) ⟨hvn, hvl, hva⟩ ?_
   exact TC.brk1 k (vis, so) ⟨rfl, trivial⟩ [3, 3, 0] rfl
  obtain ⟨b, hb, rfl, hqs⟩ := kPI_get hp
  have hqc : q < c11.length := hn1 ▸ hqs
  have hkn : cntB (c11.length) k = some (.next (k + 1)) := cntB_next hvn hvk hvl hqc hq
  refine TL.extract rfl rfl rfl (v := .bool true) rfl <| TL.done <| TC.seq ?_
  refine TC.cond_true rfl ?_
  refine TC.skip <| TC.block (NoEx.loop1 rfl) <| TC.seq <| TC.region ?_
  refine TL.entryM 0 1 rfl rfl hp rfl rfl rfl ?_
  refine TL.extract rfl rfl rfl (v := bp b 0) rfl <| TL.extract rfl rfl rfl (v := .int .i64 (gt sums3 (q : Int))) rfl <| TL.as (bp b 0) <| TL.as (.int .i64 (gt sums3 (q : Int))) ?_
  refine TL.pbOpen 2 q rfl (by rw [mrg_length]; exact hqc) ?_
  rintro b' ⟨g', sa, sb⟩ y' e1 e2 e3 e4
  have eb' : b' = b := Option.some.inj (e1.symm.trans hb)
  rw [eb']
  have ey' : y' = (gt c11 (q : Int)) := Option.some.inj (e3.symm.trans (mrg_get hqc hq))
  subst ey'
  have es' : (g', sa, sb) = gt gss3 (q : Int) := Option.some.inj (e2.symm.trans (mrg_get hqc hq))
  have eg' : g' = (gt c11 (q : Int)).1 := e4
  subst eg'
  dsimp only
  refine TL.done <| TC.seq ?_
  refine TC.wk (Γ' := [(19, .int .i64 (gt sums3 (q : Int))), (18, bp b 0), (124, bp rI 0), (17, SV.v so)]) ⟨rfl, rfl, rfl, rfl, trivial⟩ ?_
  refine TC.drawG [(19, .int .i64 (gt sums3 (q : Int))), (18, bp b 0), (124, bp rI 0), (17, SV.v so)] [] ⟨rfl, rfl, rfl, rfl, trivial⟩ trivial (fun l_ g3 => [(bif nb l_ 18 then box b 44 [.one (.int .i64 (w64 (Int.tdiv (w64 ((w64 (2 - (w64 ((((gt c11 (q : Int)).2.1).length : Int) + (((gt c11 (q : Int)).2.2).length : Int))))) - (gt sums3 (q : Int)))) 2))), .one (SV.v sa), .one (SV.v sb)] else box b 44 [.one (.int .i64 ((gt c11 (q : Int)).1)), .one (SV.v sa), .one (SV.v sb)]), row Ei 2 sa ((gt c11 (q : Int)).2.1), row Ei 2 sb ((gt c11 (q : Int)).2.2), ob rI (.mapIter (some b_6) (kPI gbs3 sums3).length (vis ++ [q]).toArray (kPI gbs3 sums3).length), mp b_6 (kPI gbs3 sums3), pbxsX 2 44 q b gbs3 (mrg vis (sF sums3 c11 gss3) (fun j => gt gss3 (j : Int)) (c11.length)) (mrg vis (cF sums3 c11) (fun j => gt c11 (j : Int)) (c11.length)), row Epart 44 so (vis.map (sF sums3 c11 gss3)), fact (vis.Nodup ∧ vis.length = k ∧ ∀ j ∈ vis, j < c11.length)]) (fun g3 => [bp b 0, bp b 0, bp b 0, bp b 1, SV.v sa, .int .i64 (((gt c11 (q : Int)).2.1).length : Int), bp b 0, bp b 0, bp b 2, SV.v sb, .int .i64 (((gt c11 (q : Int)).2.2).length : Int), .int .i64 (w64 ((((gt c11 (q : Int)).2.1).length : Int) + (((gt c11 (q : Int)).2.2).length : Int))), .int .i64 (w64 (2 - (w64 ((((gt c11 (q : Int)).2.1).length : Int) + (((gt c11 (q : Int)).2.2).length : Int))))), .int .i64 (gt sums3 (q : Int)), .int .i64 (w64 ((w64 (2 - (w64 ((((gt c11 (q : Int)).2.1).length : Int) + (((gt c11 (q : Int)).2.2).length : Int))))) - (gt sums3 (q : Int)))), .int .i64 (w64 (Int.tdiv (w64 ((w64 (2 - (w64 ((((gt c11 (q : Int)).2.1).length : Int) + (((gt c11 (q : Int)).2.2).length : Int))))) - (gt sums3 (q : Int)))) 2)), bp b 0, bp b 0, undef]) [[], [], [1], [1, 2], [1, 2, 3], [1, 2, 3, 4], [], [6], [6, 7], [6, 7, 8], [6, 7, 8, 9], [1, 2, 3, 4, 5, 6, 7, 8, 9, 10], [1, 2, 3, 4, 5, 6, 7, 8, 9, 10, 11], [], [1, 2, 3, 4, 5, 6, 7, 8, 9, 10, 11, 12, 13], [1, 2, 3, 4, 5, 6, 7, 8, 9, 10, 11, 12, 13, 14], [0, 1, 2, 3, 4, 5, 6, 7, 8, 9, 10, 11, 12, 13, 14, 15], [0, 1, 2, 3, 4, 5, 6, 7, 8, 9, 10, 11, 12, 13, 14, 15, 16], [0, 1, 2, 3, 4, 5, 6, 7, 8, 9, 10, 11, 12, 13, 14, 15, 16, 17]] [[oF, none, none, none, none, none, none, none, none, none, none, none, none, none, none, none, oF, oF, oF], [none, oF, oF, oF, oF, oF, none, none, none, none, none, oF, oF, none, oF, oF, oF, oF, oF], [none, oT, oF, oF, oF, oF, none, none, none, none, none, oF, oF, none, oF, oF, oF, oF, oF], [none, oT, oT, oF, oF, oF, none, none, none, none, none, oF, oF, none, oF, oF, oF, oF, oF], [none, oT, oT, oT, oF, oF, none, none, none, none, none, oF, oF, none, oF, oF, oF, oF, oF], [none, oT, oT, oT, oT, oF, none, none, none, none, none, oF, oF, none, oF, oF, oF, oF, oF], [none, none, none, none, none, none, oF, oF, oF, oF, oF, oF, oF, none, oF, oF, oF, oF, oF], [none, none, none, none, none, none, oT, oF, oF, oF, oF, oF, oF, none, oF, oF, oF, oF, oF], [none, none, none, none, none, none, oT, oT, oF, oF, oF, oF, oF, none, oF, oF, oF, oF, oF], [none, none, none, none, none, none, oT, oT, oT, oF, oF, oF, oF, none, oF, oF, oF, oF, oF], [none, none, none, none, none, none, oT, oT, oT, oT, oF, oF, oF, none, oF, oF, oF, oF, oF], [none, oT, oT, oT, oT, oT, oT, oT, oT, oT, oT, oF, oF, none, oF, oF, oF, oF, oF], [none, oT, oT, oT, oT, oT, oT, oT, oT, oT, oT, oT, oF, none, oF, oF, oF, oF, oF], [none, none, none, none, none, none, none, none, none, none, none, none, none, oF, oF, oF, oF, oF, oF], [none, oT, oT, oT, oT, oT, oT, oT, oT, oT, oT, oT, oT, oT, oF, oF, oF, oF, oF], [none, oT, oT, oT, oT, oT, oT, oT, oT, oT, oT, oT, oT, oT, oT, oF, oF, oF, oF], [oT, oT, oT, oT, oT, oT, oT, oT, oT, oT, oT, oT, oT, oT, oT, oT, oF, oF, oF], [oT, oT, oT, oT, oT, oT, oT, oT, oT, oT, oT, oT, oT, oT, oT, oT, oT, oF, oF], [oT, oT, oT, oT, oT, oT, oT, oT, oT, oT, oT, oT, oT, oT, oT, oT, oT, oT, oF]] (by kernel_rfl) (fun _ => rfl) rfl rfl rfl rfl rfl (fun _ _ => ⟨⟨⟨⟨⟨⟨⟨⟨⟨⟨⟨⟨⟨⟨⟨⟨⟨⟨⟨trivial, rfl⟩, rfl⟩, rfl⟩, rfl⟩, rfl⟩, rfl⟩, rfl⟩, rfl⟩, rfl⟩, rfl⟩, rfl⟩, rfl⟩, rfl⟩, rfl⟩, rfl⟩, rfl⟩, rfl⟩, rfl⟩, rfl⟩) 0 [0, 0, 0, 0, 0, 0, 0, 0] (fun _ => by kernel_rfl) ?_ ?_
  ·refine ⟨rfl, ?_, rfl, ?_, rfl, ?_, rfl, ?_, rfl, ?_, rfl, ?_, rfl, ?_, rfl, ?_, rfl, ?_, rfl, ?_, rfl, ?_, rfl, ?_, rfl, ?_, rfl, ?_, rfl, ?_, rfl, ?_, rfl, ?_, rfl, ?_, rfl, ?_, trivial⟩
   ·intro b1_ b2_ b3_ b4_ b5_ b6_ b7_ b8_ b9_ b10_ b11_ b12_ b13_ b14_ b15_ g3
    exact TL.mv (bp b 0) <| TL.done <| TC.n1 [0, 0, 0, 0, 0, 0, 0, 0]
   ·intro b0_ b6_ b7_ b8_ b9_ b10_ b13_ g3
    exact TL.mv (bp b 0) <| TL.done <| TC.n1 [0, 0, 0, 0, 0, 0, 0, 0]
   ·intro b0_ b6_ b7_ b8_ b9_ b10_ b13_ g3
    refine TL.nilCheck rfl rfl rfl ?_
    exact TL.done <| TC.n1 [0, 0, 0, 0, 0, 0, 0, 0]
   ·intro b0_ b6_ b7_ b8_ b9_ b10_ b13_ g3
    exact TL.ll [box b 44 [.one (.int .i64 ((gt c11 (q : Int)).1)), .one (SV.v sa), .one (SV.v sb)], row Ei 2 sa ((gt c11 (q : Int)).2.1), row Ei 2 sb ((gt c11 (q : Int)).2.2), ob rI (.mapIter (some b_6) (kPI gbs3 sums3).length (vis ++ [q]).toArray (kPI gbs3 sums3).length), mp b_6 (kPI gbs3 sums3), pbxsX 2 44 q b gbs3 (mrg vis (sF sums3 c11 gss3) (fun j => gt gss3 (j : Int)) (c11.length)) (mrg vis (cF sums3 c11) (fun j => gt c11 (j : Int)) (c11.length)), row Epart 44 so (vis.map (sF sums3 c11 gss3)), fact (vis.Nodup ∧ vis.length = k ∧ ∀ j ∈ vis, j < c11.length)] <| TL.fa Tryz.underlying44 rfl Tryz.sizeOf36 rfl 1 rfl rfl rfl rfl <| TL.done <| TC.n1 [0, 0, 0, 0, 0, 0, 0, 0]
   ·intro b0_ b6_ b7_ b8_ b9_ b10_ b13_ g3
    exact TL.ll [box b 44 [.one (.int .i64 ((gt c11 (q : Int)).1)), .one (SV.v sa), .one (SV.v sb)], row Ei 2 sa ((gt c11 (q : Int)).2.1), row Ei 2 sb ((gt c11 (q : Int)).2.2), ob rI (.mapIter (some b_6) (kPI gbs3 sums3).length (vis ++ [q]).toArray (kPI gbs3 sums3).length), mp b_6 (kPI gbs3 sums3), pbxsX 2 44 q b gbs3 (mrg vis (sF sums3 c11 gss3) (fun j => gt gss3 (j : Int)) (c11.length)) (mrg vis (cF sums3 c11) (fun j => gt c11 (j : Int)) (c11.length)), row Epart 44 so (vis.map (sF sums3 c11 gss3)), fact (vis.Nodup ∧ vis.length = k ∧ ∀ j ∈ vis, j < c11.length)] <| TL.load1 1 (Src.box 0 rfl) Tryz.isAgg36 rfl rfl rfl rfl rfl <| TL.done <| TC.n1 [0, 0, 0, 0, 0, 0, 0, 0]
   ·intro b0_ b6_ b7_ b8_ b9_ b10_ b13_ g3
    exact TL.ll [box b 44 [.one (.int .i64 ((gt c11 (q : Int)).1)), .one (SV.v sa), .one (SV.v sb)], row Ei 2 sa ((gt c11 (q : Int)).2.1), row Ei 2 sb ((gt c11 (q : Int)).2.2), ob rI (.mapIter (some b_6) (kPI gbs3 sums3).length (vis ++ [q]).toArray (kPI gbs3 sums3).length), mp b_6 (kPI gbs3 sums3), pbxsX 2 44 q b gbs3 (mrg vis (sF sums3 c11 gss3) (fun j => gt gss3 (j : Int)) (c11.length)) (mrg vis (cF sums3 c11) (fun j => gt c11 (j : Int)) (c11.length)), row Epart 44 so (vis.map (sF sums3 c11 gss3)), fact (vis.Nodup ∧ vis.length = k ∧ ∀ j ∈ vis, j < c11.length)] <| TL.len (Rd.row 1 rfl) Tryz.underlying36 rfl rfl rfl <| TL.done <| TC.n1 [0, 0, 0, 0, 0, 0, 0, 0]
   ·intro b0_ b1_ b2_ b3_ b4_ b5_ b13_ g3
    exact TL.mv (bp b 0) <| TL.done <| TC.n1 [0, 0, 0, 0, 0, 0, 0, 0]
   ·intro b0_ b1_ b2_ b3_ b4_ b5_ b13_ g3
    refine TL.nilCheck rfl rfl rfl ?_
    exact TL.done <| TC.n1 [0, 0, 0, 0, 0, 0, 0, 0]
   ·intro b0_ b1_ b2_ b3_ b4_ b5_ b13_ g3
    exact TL.ll [box b 44 [.one (.int .i64 ((gt c11 (q : Int)).1)), .one (SV.v sa), .one (SV.v sb)], row Ei 2 sa ((gt c11 (q : Int)).2.1), row Ei 2 sb ((gt c11 (q : Int)).2.2), ob rI (.mapIter (some b_6) (kPI gbs3 sums3).length (vis ++ [q]).toArray (kPI gbs3 sums3).length), mp b_6 (kPI gbs3 sums3), pbxsX 2 44 q b gbs3 (mrg vis (sF sums3 c11 gss3) (fun j => gt gss3 (j : Int)) (c11.length)) (mrg vis (cF sums3 c11) (fun j => gt c11 (j : Int)) (c11.length)), row Epart 44 so (vis.map (sF sums3 c11 gss3)), fact (vis.Nodup ∧ vis.length = k ∧ ∀ j ∈ vis, j < c11.length)] <| TL.fa Tryz.underlying44 rfl Tryz.sizeOf36 rfl 2 rfl rfl rfl rfl <| TL.done <| TC.n1 [0, 0, 0, 0, 0, 0, 0, 0]
   ·intro b0_ b1_ b2_ b3_ b4_ b5_ b13_ g3
    exact TL.ll [box b 44 [.one (.int .i64 ((gt c11 (q : Int)).1)), .one (SV.v sa), .one (SV.v sb)], row Ei 2 sa ((gt c11 (q : Int)).2.1), row Ei 2 sb ((gt c11 (q : Int)).2.2), ob rI (.mapIter (some b_6) (kPI gbs3 sums3).length (vis ++ [q]).toArray (kPI gbs3 sums3).length), mp b_6 (kPI gbs3 sums3), pbxsX 2 44 q b gbs3 (mrg vis (sF sums3 c11 gss3) (fun j => gt gss3 (j : Int)) (c11.length)) (mrg vis (cF sums3 c11) (fun j => gt c11 (j : Int)) (c11.length)), row Epart 44 so (vis.map (sF sums3 c11 gss3)), fact (vis.Nodup ∧ vis.length = k ∧ ∀ j ∈ vis, j < c11.length)] <| TL.load1 2 (Src.box 0 rfl) Tryz.isAgg36 rfl rfl rfl rfl rfl <| TL.done <| TC.n1 [0, 0, 0, 0, 0, 0, 0, 0]
   ·intro b0_ b1_ b2_ b3_ b4_ b5_ b13_ g3
    exact TL.ll [box b 44 [.one (.int .i64 ((gt c11 (q : Int)).1)), .one (SV.v sa), .one (SV.v sb)], row Ei 2 sa ((gt c11 (q : Int)).2.1), row Ei 2 sb ((gt c11 (q : Int)).2.2), ob rI (.mapIter (some b_6) (kPI gbs3 sums3).length (vis ++ [q]).toArray (kPI gbs3 sums3).length), mp b_6 (kPI gbs3 sums3), pbxsX 2 44 q b gbs3 (mrg vis (sF sums3 c11 gss3) (fun j => gt gss3 (j : Int)) (c11.length)) (mrg vis (cF sums3 c11) (fun j => gt c11 (j : Int)) (c11.length)), row Epart 44 so (vis.map (sF sums3 c11 gss3)), fact (vis.Nodup ∧ vis.length = k ∧ ∀ j ∈ vis, j < c11.length)] <| TL.len (Rd.row 2 rfl) Tryz.underlying36 rfl rfl rfl <| TL.done <| TC.n1 [0, 0, 0, 0, 0, 0, 0, 0]
   ·intro b0_ b13_ g3
    exact TL.bn .i64 (((gt c11 (q : Int)).2.1).length : Int) (((gt c11 (q : Int)).2.2).length : Int) (.int .i64 (w64 ((((gt c11 (q : Int)).2.1).length : Int) + (((gt c11 (q : Int)).2.2).length : Int)))) <| TL.done <| TC.n1 [0, 0, 0, 0, 0, 0, 0, 0]
   ·intro b0_ b13_ g3
    exact TL.bn .i64 2 (w64 ((((gt c11 (q : Int)).2.1).length : Int) + (((gt c11 (q : Int)).2.2).length : Int))) (.int .i64 (w64 (2 - (w64 ((((gt c11 (q : Int)).2.1).length : Int) + (((gt c11 (q : Int)).2.2).length : Int)))))) <| TL.done <| TC.n1 [0, 0, 0, 0, 0, 0, 0, 0]
   ·intro b0_ b1_ b2_ b3_ b4_ b5_ b6_ b7_ b8_ b9_ b10_ b11_ b12_ g3
    exact TL.mv (.int .i64 (gt sums3 (q : Int))) <| TL.done <| TC.n1 [0, 0, 0, 0, 0, 0, 0, 0]
   ·intro b0_ g3
    exact TL.bn .i64 (w64 (2 - (w64 ((((gt c11 (q : Int)).2.1).length : Int) + (((gt c11 (q : Int)).2.2).length : Int))))) (gt sums3 (q : Int)) (.int .i64 (w64 ((w64 (2 - (w64 ((((gt c11 (q : Int)).2.1).length : Int) + (((gt c11 (q : Int)).2.2).length : Int))))) - (gt sums3 (q : Int))))) <| TL.done <| TC.n1 [0, 0, 0, 0, 0, 0, 0, 0]
   ·intro b0_ g3
    refine TL.quo .i64 (w64 ((w64 (2 - (w64 ((((gt c11 (q : Int)).2.1).length : Int) + (((gt c11 (q : Int)).2.2).length : Int))))) - (gt sums3 (q : Int)))) 2 (by decide) rfl rfl rfl rfl ?_
    exact TL.done <| TC.n1 [0, 0, 0, 0, 0, 0, 0, 0]
   ·intro g3
    refine TL.nilCheck rfl rfl rfl ?_
    exact TL.done <| TC.n1 [0, 0, 0, 0, 0, 0, 0, 0]
   ·intro g3
    exact TL.ll [box b 44 [.one (.int .i64 ((gt c11 (q : Int)).1)), .one (SV.v sa), .one (SV.v sb)], row Ei 2 sa ((gt c11 (q : Int)).2.1), row Ei 2 sb ((gt c11 (q : Int)).2.2), ob rI (.mapIter (some b_6) (kPI gbs3 sums3).length (vis ++ [q]).toArray (kPI gbs3 sums3).length), mp b_6 (kPI gbs3 sums3), pbxsX 2 44 q b gbs3 (mrg vis (sF sums3 c11 gss3) (fun j => gt gss3 (j : Int)) (c11.length)) (mrg vis (cF sums3 c11) (fun j => gt c11 (j : Int)) (c11.length)), row Epart 44 so (vis.map (sF sums3 c11 gss3)), fact (vis.Nodup ∧ vis.length = k ∧ ∀ j ∈ vis, j < c11.length)] <| TL.fa Tryz.underlying44 rfl Tryz.sizeOf2 rfl 0 rfl rfl rfl rfl <| TL.done <| TC.n1 [0, 0, 0, 0, 0, 0, 0, 0]
   intro g3
   refine TL.ll [box b 44 [.one (.int .i64 ((gt c11 (q : Int)).1)), .one (SV.v sa), .one (SV.v sb)], row Ei 2 sa ((gt c11 (q : Int)).2.1), row Ei 2 sb ((gt c11 (q : Int)).2.2), ob rI (.mapIter (some b_6) (kPI gbs3 sums3).length (vis ++ [q]).toArray (kPI gbs3 sums3).length), mp b_6 (kPI gbs3 sums3), pbxsX 2 44 q b gbs3 (mrg vis (sF sums3 c11 gss3) (fun j => gt gss3 (j : Int)) (c11.length)) (mrg vis (cF sums3 c11) (fun j => gt c11 (j : Int)) (c11.length)), row Epart 44 so (vis.map (sF sums3 c11 gss3)), fact (vis.Nodup ∧ vis.length = k ∧ ∀ j ∈ vis, j < c11.length)] ?_
   refine TL.st1 0 0 rfl Tryz.sizeOf2 rfl rfl rfl rfl rfl rfl rfl ?_
   exact TL.done <| TC.nrm () [] trivial [0, 0, 0, 0, 0, 0, 0, 0] (by kernel_rfl)
  intro g3
  refine TC.ll [box b 44 [.one (.int .i64 (w64 (Int.tdiv (w64 ((w64 (2 - (w64 ((((gt c11 (q : Int)).2.1).length : Int) + (((gt c11 (q : Int)).2.2).length : Int))))) - (gt sums3 (q : Int)))) 2))), .one (SV.v sa), .one (SV.v sb)], row Ei 2 sa ((gt c11 (q : Int)).2.1), row Ei 2 sb ((gt c11 (q : Int)).2.2), ob rI (.mapIter (some b_6) (kPI gbs3 sums3).length (vis ++ [q]).toArray (kPI gbs3 sums3).length), mp b_6 (kPI gbs3 sums3), pbxsX 2 44 q b gbs3 (mrg vis (sF sums3 c11 gss3) (fun j => gt gss3 (j : Int)) (c11.length)) (mrg vis (cF sums3 c11) (fun j => gt c11 (j : Int)) (c11.length)), row Epart 44 so (vis.map (sF sums3 c11 gss3)), fact (vis.Nodup ∧ vis.length = k ∧ ∀ j ∈ vis, j < c11.length)] <| TC.region <| TL.mv (SV.v so) <| TL.mv (bp b 0) ?_
  refine TL.nilCheck rfl rfl rfl ?_
  refine TL.loadM 0 3 (Src.box 0 rfl) Tryz.isAgg44 Tryz.sizeOf44 (mid := [.one (.int .i64 (w64 (Int.tdiv (w64 ((w64 (2 - (w64 ((((gt c11 (q : Int)).2.1).length : Int) + (((gt c11 (q : Int)).2.2).length : Int))))) - (gt sums3 (q : Int)))) 2))), .one (SV.v sa), .one (SV.v sb)]) rfl rfl rfl rfl rfl rfl ?_
  refine TL.blit Epart ([((w64 (Int.tdiv (w64 ((w64 (2 - (w64 ((((gt c11 (q : Int)).2.1).length : Int) + (((gt c11 (q : Int)).2.2).length : Int))))) - (gt sums3 (q : Int)))) 2)), sa, sb)] : List (Int × SV × SV)) Tryz.underlying25 Tryz.sizeOf44 Tryz.zeroValue44 rfl rfl rfl [(0, sval [.one (.int .i64 (w64 (Int.tdiv (w64 ((w64 (2 - (w64 ((((gt c11 (q : Int)).2.1).length : Int) + (((gt c11 (q : Int)).2.2).length : Int))))) - (gt sums3 (q : Int)))) 2))), .one (SV.v sa), .one (SV.v sb)])] rfl ⟨rfl, rfl, trivial⟩ rfl rfl fun s4_ => ?_
  refine TL.append 7 rfl (Rd.row 0 rfl) Tryz.underlying25 (info_of Tryz.type44) (zv := (Tryz.t44.zero.getD (.bool false))) rfl rfl rfl (by decide) (by have := nodup_lt (visit hvn hvk hvl hqc hq).1 (visit hvn hvk hvl hqc hq).2.2; simp at this ⊢; omega) rfl rfl rfl rfl fun s5_ => ?_
  refine TL.as (SV.v s5_) ?_
  refine TL.sel [1, 1, 1, 1, 1, 1, 1, 1] rfl ?_
  refine TL.pbClose 2 rfl ?_
  refine TL.addFact (φ := (vis ++ [q]).Nodup ∧ (vis ++ [q]).length = (k + 1) ∧ ∀ j ∈ (vis ++ [q]), j < c11.length) (visit hvn hvk hvl hqc hq) ?_
  have hs_ : ((w64 (Int.tdiv (w64 ((w64 (2 - (w64 ((((gt c11 (q : Int)).2.1).length : Int) + (((gt c11 (q : Int)).2.2).length : Int))))) - (gt sums3 (q : Int)))) 2)), sa, sb) = (sF sums3 c11 gss3) q := by rw [show sa = (gt gss3 (q : Int)).2.1 by rw [← es'], show sb = (gt gss3 (q : Int)).2.2 by rw [← es']]; rfl
  have hc_ : (((w64 (Int.tdiv (w64 ((w64 (2 - (w64 ((((gt c11 (q : Int)).2.1).length : Int) + (((gt c11 (q : Int)).2.2).length : Int))))) - (gt sums3 (q : Int)))) 2)), (gt c11 (q : Int)).2.1, (gt c11 (q : Int)).2.2) : PC) = (cF sums3 c11) q := rfl
  refine TL.sel [1, 1, 1, 1, 0] rfl ?_
  refine TL.asL [ob rI (.mapIter (some b_6) (kPI gbs3 sums3).length (vis ++ [q]).toArray (kPI gbs3 sums3).length), mp b_6 (kPI gbs3 sums3), pbxs 2 44 gbs3 (mrg (vis ++ [q]) (sF sums3 c11 gss3) (fun j => gt gss3 (j : Int)) (c11.length)) (mrg (vis ++ [q]) (cF sums3 c11) (fun j => gt c11 (j : Int)) (c11.length)), row Epart 44 s5_ ((vis ++ [q]).map (sF sums3 c11 gss3)), fact ((vis ++ [q]).Nodup ∧ (vis ++ [q]).length = (k + 1) ∧ ∀ j ∈ (vis ++ [q]), j < c11.length)] (by rw [hs_, hc_, mrg_set, mrg_set, List.map_append]; first | done | rfl) <| TL.done ?_
  rw [hkn]
  exact TC.next1 (k + 1) (vis ++ [q], s5_) ⟨rfl, rfl, trivial⟩ [0, 0, 0, 0, 0] rfl
 rintro k ⟨vis, so⟩
 refine TC.factOf 2 rfl fun hf => ?_
 obtain ⟨hvn, hvl, hva⟩ := hf
 refine TC.pbProws 0 rfl ?_
 refine TC.prowsPerm (zs := ((List.range (c11.length)).map fun j => ((sF sums3 c11 gss3) j, (cF sums3 c11) j))) (zs' := (vis.map fun j => ((sF sums3 c11 gss3) j, (cF sums3 c11) j))) 0 rfl (by rw [mrg_all hva, List.map_map]; rfl) (by rw [mrg_all hva, List.map_map]; rfl) ((perm_range hvn hvl hva).symm.map _) ?_
 refine TC.sel [1, 0] rfl ?_
 refine TC.asL [row Epart 44 so (vis.map (sF sums3 c11 gss3)), prows 2 (vis.map (sF sums3 c11 gss3)) (vis.map (cF sums3 c11))] (by rw [List.map_map, List.map_map]; rfl) <| TC.seq <| TC.region <| TL.mv (SV.v so) ?_
 refine TL.callXH (mf := some ()) (r := ()) (R := fun _ v L => sortR so (vis.map (sF sums3 c11 gss3)) (vis.map (cF sums3 c11)) v L) rfl [0, 0] [row Epart 44 so (vis.map (sF sums3 c11 gss3)), prows 2 (vis.map (sF sums3 c11 gss3)) (vis.map (cF sums3 c11))] [] rfl Tryz.call59 rfl rfl rfl (fun w I' hle hB hS r hr => sort_any (by rw [List.length_map]; have := nodup_lt hvn hvl; omega) (by rw [List.length_map, List.length_map]) hS) ?_
 rintro _ _ ⟨rfl, zs, hzp, hzs, rfl⟩
 refine TL.done ?_
 have hfin : zs.map (·.2) = srtP (finC sums3 c11) := sorted_fin hg3 hvn hvl hva hzp hzs
 refine TC.pmatmk (c' := srtP (finC sums3 c11)) 0 1 rfl rfl rfl hfin ?_
 exact TC.seq <| TC.region <| TL.mv (SV.v so) <| TL.as (SV.v so) <| TL.done <| TC.retF (Fin.body (fin1 (.inr rfl) rfl (.tmp rfl) [1] rfl ⟨so, _, rfl, rfl⟩))
def impl_PartsOf.f (word1 : Str) : Option ((List (Int × (List Int) × (List Int))) × Int) := (G.impl_IsWord.f word1).bind (fun r_1 => (bif (!r_1) then some (([] : List (Int × (List Int) × (List Int))), 1) else (G.impl_parts.f word1).bind (fun r_2 => some (r_2, 0))))
def impl_PartsOf.R (r : (List (Int × (List Int) × (List Int))) × Int) (v : Value) (L : List Asn) : Prop := ∃ (s0 : SV) (ss0 : List (Int × SV × SV)), v = .tuple #[SV.v s0, .int .i64 r.2] ∧ L = [pmat 2 44 s0 ss0 r.1]
theorem impl_PartsOf.calls (w : World) (word1 : Str) :
  ∀ r, impl_PartsOf.f word1 = some r → Calls Tryz.prog 6 #[strv word1] w (Ret w (impl_PartsOf.R r)) := by
 refine calls_T (n := 9) (Γ := [(0, strv word1)]) (R := impl_PartsOf.R) Tryz.func6 rfl rfl (Nat.le_of_ble_eq_true rfl) ⟨rfl, trivial⟩ ?_
 unfold impl_PartsOf.f
 refine TC.seq <| TC.region <| TL.as (SV.v ⟨none, 0, 0⟩) <| TL.as (.int .i64 0) <| TL.done <| TC.seq ?_
 refine TC.seq <| TC.region <| TL.mv (strv word1) ?_
 refine TL.call (R := G.impl_IsWord.R) Tryz.call9 rfl rfl rfl (fun w hS => G.impl_IsWord.calls w word1) ?_
 rintro r_1 _ _ ⟨rfl, rfl⟩
 refine TL.not r_1 rfl rfl rfl ?_
 refine TL.done ?_
 refine TC.cond (b := (!r_1)) rfl (fun c1 => ?_) (fun c2 => ?_)
 ·refine TC.seq <| TC.region <| TL.as (SV.v ⟨none, 0, 0⟩) <| TL.as (.int .i64 1) <| TL.done ?_
  refine TC.nilpmat 2 44 ?_
  exact TC.retF (Fin.body (fin2 (.inr rfl) rfl (.tmp rfl) (.tmp rfl) [0] rfl ⟨⟨none, 0, 0⟩, [], rfl, rfl⟩))
 refine TC.skip <| TC.seq <| TC.region <| TL.mv (strv word1) ?_
 refine TL.call (R := G.impl_parts.R) Tryz.call28 rfl rfl rfl (fun w hS => G.impl_parts.calls w word1) ?_
 rintro r_2 _ _ ⟨s1, ss1, rfl, rfl⟩
 exact TL.as (SV.v s1) <| TL.as (.int .i64 0) <| TL.done <| TC.retF (Fin.body (fin2 (.inr rfl) rfl (.tmp rfl) (.tmp rfl) [0] rfl ⟨s1, ss1, rfl, rfl⟩))
def spec_l01Split.b0 (s1 : Str) (by_1 : UInt8) : (List Str) × Int × Int → Option (LB ((List Str) × Int × Int)) := fun p => match p with | (out1, at_1, i1) => (bif (decide (i1 < (s1.length : Int))) then chk i1 s1.length (((bif (((gt s1 i1).toNat : Int) == (by_1.toNat : Int)) then grd (decide (0 ≤ at_1) && decide (at_1 ≤ i1) && decide (i1 ≤ (s1.length : Int))) (small (out1.length + ([((s1.drop at_1.toNat).take (i1.toNat - at_1.toNat))] : List Str).length) (some ((out1 ++ ([((s1.drop at_1.toNat).take (i1.toNat - at_1.toNat))] : List Str)), (w64 (i1 + 1))))) else some (out1, at_1))).bind (fun p => match p with | (out2, at_2) => some (.next (out2, at_2, (w64 (i1 + 1)))))) else some (.brk (out1, at_1, i1)))
def spec_l01Split.f (s1 : Str) (by_1 : UInt8) : Option (List Str) := (loop1 (spec_l01Split.b0 s1 by_1) (([] : List Str), 0, 0)).bind (fun p => match p with | (out1, at_1, i1) => grd (decide (0 ≤ at_1) && decide (at_1 ≤ (s1.length : Int)) && decide ((s1.length : Int) ≤ (s1.length : Int))) (small (out1.length + ([((s1.drop at_1.toNat).take (s1.length - at_1.toNat))] : List Str).length) (some (out1 ++ ([((s1.drop at_1.toNat).take (s1.length - at_1.toNat))] : List Str)))))
def spec_l01Split.R (r : List Str) (v : Value) (L : List Asn) : Prop := ∃ (s0 : SV), v = SV.v s0 ∧ L = [row Es 9 s0 r]
theorem spec_l01Split.calls (w : World) (s1 : Str) (by_1 : UInt8) :
  ∀ r, spec_l01Split.f s1 by_1 = some r → Calls Tryz.prog 42 #[strv s1, u8v by_1] w (Ret w (spec_l01Split.R r)) := by
 refine calls_T (n := 35) (Γ := [(0, strv s1), (1, u8v by_1)]) (R := spec_l01Split.R) Tryz.func42 rfl rfl (Nat.le_of_ble_eq_true rfl) ⟨rfl, rfl, trivial⟩ ?_
 unfold spec_l01Split.f
 refine TC.seq <| TC.region <| TL.as (SV.v ⟨none, 0, 0⟩) <| TL.done <| TC.seq <| TC.region ?_
 refine TL.bslice0 Es Tryz.underlying49 Tryz.sizeOf9 rfl rfl fun s2 => ?_
 refine TL.as (SV.v s2) <| TL.done <| TC.seq <| TC.region <| TL.as (.int .i64 0) <| TL.done ?_
 refine TC.seq <| TC.seq <| TC.region <| TL.as (.int .i64 0) <| TL.done ?_
 refine TC.loop1 (σ := (List Str) × Int × Int) (γ := SV) (Γ' := (fun p q => match p, q with | (out1, at_1, i1), s3 => [(0, strv s1), (1, u8v by_1), (5, SV.v s3), (6, .int .i64 at_1), (7, .int .i64 i1)])) (L' := (fun p q => match p, q with | (out1, at_1, i1), s3 => [row Es 9 s3 out1])) (Γb := (fun p q => match p, q with | (out1, at_1, i1), s3 => [(0, strv s1), (1, u8v by_1), (5, SV.v s3), (6, .int .i64 at_1), (7, .int .i64 i1)])) (Lb := (fun p q => match p, q with | (out1, at_1, i1), s3 => [row Es 9 s3 out1])) ((([] : List Str), 0, 0)) (s2) ⟨rfl, rfl, rfl, rfl, rfl, trivial⟩ [0] rfl ?_ ?_
 ·rintro ⟨out1, at_1, i1⟩ s3
  refine TC.seq <| TC.seq <| TC.region <| TL.mv (.int .i64 i1) <| TL.mv (strv s1) <| TL.lenstr Tryz.underlying9 rfl rfl rfl ?_
  refine TL.bn .i64 i1 (s1.length : Int) (.bool (decide (i1 < (s1.length : Int)))) <| TL.done ?_
  refine TC.cond (b := (decide (i1 < (s1.length : Int)))) rfl (fun c1 => ?_) (fun c2 => ?_)
  ·refine TC.skip <| TC.seq <| TC.block (NoEx.loop1 rfl) <| TC.seq <| TC.region <| TL.mv (strv s1) ?_
   refine TL.mv (.int .i64 i1) ?_
   refine TL.chk fun h1 => ?_
   refine TL.ixstr i1 h1 Tryz.underlying9 rfl rfl rfl rfl <| TL.mv (u8v by_1) <| TL.bn .u8 ((gt s1 i1).toNat : Int) (by_1.toNat : Int) (.bool (((gt s1 i1).toNat : Int) == (by_1.toNat : Int))) <| TL.done ?_
   refine TC.join1 (σ := (List Str) × Int) (γ := SV) (Γ' := (fun p q => match p, q with | (out2, at_2), s4 => [(0, strv s1), (1, u8v by_1), (5, SV.v s4), (6, .int .i64 at_2), (7, .int .i64 i1)])) (L' := (fun p q => match p, q with | (out2, at_2), s4 => [row Es 9 s4 out2])) ?_ ?_
   ·refine TC.cond (b := (((gt s1 i1).toNat : Int) == (by_1.toNat : Int))) rfl (fun c3 => ?_) (fun c4 => ?_)
    ·refine TC.seq <| TC.region <| TL.mv (SV.v s3) <| TL.mv (strv s1) <| TL.mv (.int .i64 at_1) <| TL.mv (.int .i64 i1) ?_
     refine TL.grd fun h2 => ?_
     refine TL.slicestr (li := (some at_1)) (hi' := (some i1)) (l := at_1.toNat) (h := i1.toNat) Tryz.underlying9 rfl rfl (by have h_ := h2; simp only [Bool.and_eq_true, decide_eq_true_eq] at h_; first | rfl | omega | (simp only [Option.getD_some]; omega) | (simp only [Option.getD_none]; omega)) (by have h_ := h2; simp only [Bool.and_eq_true, decide_eq_true_eq] at h_; first | rfl | omega | (simp only [Option.getD_some]; omega) | (simp only [Option.getD_none]; omega)) (by have h_ := h2; simp only [Bool.and_eq_true, decide_eq_true_eq] at h_; first | rfl | omega | (simp only [Option.getD_some]; omega) | (simp only [Option.getD_none]; omega)) (by have h_ := h2; simp only [Bool.and_eq_true, decide_eq_true_eq] at h_; first | rfl | omega | (simp only [Option.getD_some]; omega) | (simp only [Option.getD_none]; omega)) rfl rfl rfl ?_
     refine TL.blit Es ([((s1.drop at_1.toNat).take (i1.toNat - at_1.toNat))] : List Str) Tryz.underlying49 Tryz.sizeOf9 Tryz.zeroValue9 rfl rfl rfl [(0, strv ((s1.drop at_1.toNat).take (i1.toNat - at_1.toNat)))] rfl ⟨rfl, rfl, trivial⟩ rfl rfl fun s5 => ?_
     refine TL.small fun h3 => ?_
     refine TL.append 1 rfl (Rd.row 0 rfl) Tryz.underlying49 (info_of Tryz.type9) (zv := (Tryz.t9.zero.getD (.bool false))) rfl rfl rfl (by decide) h3 rfl rfl rfl rfl fun s6 => ?_
     refine TL.as (SV.v s6) <| TL.done <| TC.region <| TL.mv (.int .i64 i1) <| TL.bn .i64 i1 1 (.int .i64 (w64 (i1 + 1))) <| TL.as (.int .i64 (w64 (i1 + 1))) ?_
     exact TL.done <| TC.nrm (((out1 ++ ([((s1.drop at_1.toNat).take (i1.toNat - at_1.toNat))] : List Str)), (w64 (i1 + 1)))) (s6) ⟨rfl, rfl, rfl, rfl, rfl, trivial⟩ [1] rfl
    exact TC.skip <| TC.nrm ((out1, at_1)) (s3) ⟨rfl, rfl, rfl, rfl, rfl, trivial⟩ [0] rfl
   rintro ⟨out2, at_2⟩ s4
   refine TC.region <| TL.mv (.int .i64 i1) <| TL.bn .i64 i1 1 (.int .i64 (w64 (i1 + 1))) <| TL.as (.int .i64 (w64 (i1 + 1))) <| TL.done ?_
   exact TC.next1 ((out2, at_2, (w64 (i1 + 1)))) (s4) ⟨rfl, rfl, rfl, rfl, rfl, trivial⟩ [0] rfl
  exact TC.brk1 ((out1, at_1, i1)) (s3) ⟨rfl, rfl, rfl, rfl, rfl, trivial⟩ [0] rfl
 rintro ⟨out1, at_1, i1⟩ s3
 refine TC.seq <| TC.region <| TL.mv (SV.v s3) <| TL.mv (strv s1) <| TL.mv (.int .i64 at_1) ?_
 refine TL.grd fun h4 => ?_
 refine TL.slicestr (li := (some at_1)) (hi' := none) (l := at_1.toNat) (h := s1.length) Tryz.underlying9 rfl rfl (by have h_ := h4; simp only [Bool.and_eq_true, decide_eq_true_eq] at h_; first | rfl | omega | (simp only [Option.getD_some]; omega) | (simp only [Option.getD_none]; omega)) (by have h_ := h4; simp only [Bool.and_eq_true, decide_eq_true_eq] at h_; first | rfl | omega | (simp only [Option.getD_some]; omega) | (simp only [Option.getD_none]; omega)) (by have h_ := h4; simp only [Bool.and_eq_true, decide_eq_true_eq] at h_; first | rfl | omega | (simp only [Option.getD_some]; omega) | (simp only [Option.getD_none]; omega)) (by have h_ := h4; simp only [Bool.and_eq_true, decide_eq_true_eq] at h_; first | rfl | omega | (simp only [Option.getD_some]; omega) | (simp only [Option.getD_none]; omega)) rfl rfl rfl ?_
 refine TL.blit Es ([((s1.drop at_1.toNat).take (s1.length - at_1.toNat))] : List Str) Tryz.underlying49 Tryz.sizeOf9 Tryz.zeroValue9 rfl rfl rfl [(0, strv ((s1.drop at_1.toNat).take (s1.length - at_1.toNat)))] rfl ⟨rfl, rfl, trivial⟩ rfl rfl fun s7 => ?_
 refine TL.small fun h5 => ?_
 refine TL.append 1 rfl (Rd.row 0 rfl) Tryz.underlying49 (info_of Tryz.type9) (zv := (Tryz.t9.zero.getD (.bool false))) rfl rfl rfl (by decide) h5 rfl rfl rfl rfl fun s8 => ?_
 exact TL.as (SV.v s8) <| TL.done <| TC.retF (Fin.body (fin1 (.inr rfl) rfl (.tmp rfl) [1] rfl ⟨s8, rfl, rfl⟩))
def spec_l04Layers.b0 (r_1 : List Str) : Int × Int → Option (LR (Int × Int) ((List Str) × Bool)) := fun p => match p with | (legs1, i1) => (bif (decide (i1 < (r_1.length : Int))) then chk i1 r_1.length ((G.spec_l04Layer.f (gt r_1 i1)).bind (fun p => match p with | (r_2, r_3, r_4) => (bif ((!r_4) || ((decide (i1 > 0)) && (r_2 != legs1))) then some (.ret ((([] : List Str), false))) else some (.next (r_3, (w64 (i1 + 1))))))) else some (.brk (legs1, i1)))
def spec_l04Layers.f (word1 : Str) : Option ((List Str) × Bool) := (bif (word1 == ([] : Str)) then some (([] : List Str), true) else (G.spec_l01Split.f word1 (47 : UInt8)).bind (fun r_1 => (loop (spec_l04Layers.b0 r_1) (0, 0)).bind (ln (fun p => match p with | (legs1, i1) => some (r_1, (decide ((word1.length : Int) ≤ 300)))))))
def spec_l04Layers.R (r : (List Str) × Bool) (v : Value) (L : List Asn) : Prop := ∃ (s0 : SV), v = .tuple #[SV.v s0, .bool r.2] ∧ L = [row Es 9 s0 r.1]
theorem spec_l04Layers.calls (w : World) (word1 : Str) :
  ∀ r, spec_l04Layers.f word1 = some r → Calls Tryz.prog 49 #[strv word1] w (Ret w (spec_l04Layers.R r)) := by
 refine calls_T (n := 46) (Γ := [(0, strv word1)]) (R := spec_l04Layers.R) Tryz.func49 rfl rfl (Nat.le_of_ble_eq_true rfl) ⟨rfl, trivial⟩ ?_
 unfold spec_l04Layers.f
 refine TC.seq <| TC.region <| TL.as (SV.v ⟨none, 0, 0⟩) <| TL.as (.bool false) <| TL.done <| TC.seq ?_
 refine TC.seq <| TC.region <| TL.mv (strv word1) <| TL.strEq word1 ([] : Str) rfl rfl rfl rfl <| TL.done ?_
 refine TC.cond (b := (word1 == ([] : Str))) rfl (fun c1 => ?_) (fun c2 => ?_)
 ·refine TC.seq <| TC.region ?_
  refine TL.bslice0 Es Tryz.underlying49 Tryz.sizeOf9 rfl rfl fun s1 => ?_
  exact TL.as (SV.v s1) <| TL.as (.bool true) <| TL.done <| TC.retF (Fin.body (fin2 (.inr rfl) rfl (.tmp rfl) (.tmp rfl) [0] rfl ⟨s1, rfl, rfl⟩))
 refine TC.skip <| TC.seq <| TC.region <| TL.mv (strv word1) ?_
 refine TL.call (R := G.spec_l01Split.R) Tryz.call42 rfl rfl rfl (fun w hS => G.spec_l01Split.calls w word1 (47 : UInt8)) ?_
 rintro r_1 _ _ ⟨s2, rfl, rfl⟩
 refine TL.as (SV.v s2) <| TL.as (.int .i64 0) <| TL.done <| TC.seq <| TC.seq <| TC.region ?_
 refine TL.as (.int .i64 0) <| TL.done ?_
 refine TC.loopK (σ := Int × Int) (γ := Unit) (Γ' := (fun p q => match p, q with | (legs1, i1), _ => [(0, strv word1), (4, SV.v s2), (5, .int .i64 legs1), (6, .int .i64 i1)])) (L' := (fun p q => match p, q with | (legs1, i1), _ => [row Es 9 s2 r_1])) (Γb := (fun p q => match p, q with | (legs1, i1), _ => [(0, strv word1), (4, SV.v s2), (5, .int .i64 legs1), (6, .int .i64 i1)])) (Lb := (fun p q => match p, q with | (legs1, i1), _ => [row Es 9 s2 r_1])) ((0, 0)) (()) ⟨rfl, rfl, rfl, rfl, trivial⟩ [0] rfl ?_ ?_
 ·rintro ⟨legs1, i1⟩ _
  refine TC.seq <| TC.seq <| TC.region <| TL.mv (.int .i64 i1) <| TL.mv (SV.v s2) <| TL.len (Rd.row 0 rfl) Tryz.underlying49 rfl rfl rfl ?_
  refine TL.bn .i64 i1 (r_1.length : Int) (.bool (decide (i1 < (r_1.length : Int)))) <| TL.done ?_
  refine TC.cond (b := (decide (i1 < (r_1.length : Int)))) rfl (fun c3 => ?_) (fun c4 => ?_)
  ·refine TC.skip <| TC.seq <| TC.block (NoEx.loop rfl NoEx.body) <| TC.seq <| TC.region <| TL.mv (SV.v s2) ?_
   refine TL.mv (.int .i64 i1) ?_
   refine TL.chk fun h1 => ?_
   refine TL.ixs i1 i1.toNat (Rd.row 0 rfl) h1 Tryz.underlying49 Tryz.sizeOf9 rfl rfl rfl rfl (by omega) ?_
   refine TL.loadE (Rd.row 0 rfl) Tryz.isAgg9 i1.toNat 0 (gt_spec h1) (v := strv (gt r_1 i1)) rfl (by simp only [show Es.sz = 1 from rfl] <;> omega) rfl rfl rfl ?_
   refine TL.call (R := G.spec_l04Layer.R) Tryz.call67 rfl rfl rfl (fun w hS => G.spec_l04Layer.calls w (gt r_1 i1)) ?_
   rintro ⟨r_2, r_3, r_4⟩ _ _ ⟨rfl, rfl⟩
   refine TL.mv (.tuple #[.int .i64 r_2, .int .i64 r_3, .bool r_4]) <| TL.extract rfl rfl rfl (v := .int .i64 r_2) rfl <| TL.extract rfl rfl rfl (v := .int .i64 r_3) rfl <| TL.extract rfl rfl rfl (v := .bool r_4) rfl <| TL.as (.int .i64 r_2) <| TL.as (.int .i64 r_3) ?_
   refine TL.as (.bool r_4) <| TL.done <| TC.seq <| TC.seq <| TC.region <| TL.mv (.bool r_4) ?_
   refine TL.not r_4 rfl rfl rfl ?_
   refine TL.mv (.bool (!r_4)) ?_
   refine TL.cutU 8 [(40, .bool ((!r_4) || ((decide (i1 > 0)) && (r_2 != legs1)))), (0, strv word1), (4, SV.v s2), (5, .int .i64 legs1), (6, .int .i64 i1), (15, .int .i64 i1), (16, SV.v s2), (17, .int .i64 (r_1.length : Int)), (18, .bool (decide (i1 < (r_1.length : Int)))), (22, SV.v s2), (23, .int .i64 i1), (24, ep s2 i1.toNat), (25, strv (gt r_1 i1)), (26, .tuple #[.int .i64 r_2, .int .i64 r_3, .bool r_4]), (21, .tuple #[.int .i64 r_2, .int .i64 r_3, .bool r_4]), (27, .int .i64 r_2), (28, .int .i64 r_3), (29, .bool r_4), (7, .int .i64 r_2), (8, .int .i64 r_3), (9, .bool r_4), (30, .bool r_4), (31, .bool (!r_4)), (32, .bool (!r_4))] [row Es 9 s2 r_1] ?_ ?_
   ·refine TL.cases (t := 32) (b := (!r_4)) rfl (fun c5 => ?_) (fun c6 => ?_)
    ·refine TL.sk <| TL.sk <| TL.sk <| TL.sk <| TL.sk <| TL.sk ?_
     exact TL.sk <| TL.pk true (.bool true) <| TL.done <| TC.nrm () () ⟨(by rw [c5]; rfl), rfl, rfl, rfl, rfl, rfl, rfl, rfl, rfl, rfl, rfl, rfl, rfl, rfl, rfl, rfl, rfl, rfl, rfl, rfl, rfl, rfl, rfl, (by rw [c5]; rfl), trivial⟩ [0] (by kernel_rfl)
    refine TL.mv (.int .i64 i1) <| TL.bn .i64 i1 0 (.bool (decide (i1 > 0))) <| TL.mv (.bool (decide (i1 > 0))) ?_
    refine TL.cutU 4 [(39, .bool ((decide (i1 > 0)) && (r_2 != legs1))), (0, strv word1), (4, SV.v s2), (5, .int .i64 legs1), (6, .int .i64 i1), (15, .int .i64 i1), (16, SV.v s2), (17, .int .i64 (r_1.length : Int)), (18, .bool (decide (i1 < (r_1.length : Int)))), (22, SV.v s2), (23, .int .i64 i1), (24, ep s2 i1.toNat), (25, strv (gt r_1 i1)), (26, .tuple #[.int .i64 r_2, .int .i64 r_3, .bool r_4]), (21, .tuple #[.int .i64 r_2, .int .i64 r_3, .bool r_4]), (27, .int .i64 r_2), (28, .int .i64 r_3), (29, .bool r_4), (7, .int .i64 r_2), (8, .int .i64 r_3), (9, .bool r_4), (30, .bool r_4), (31, .bool (!r_4)), (32, .bool false), (33, .int .i64 i1), (34, .bool (decide (i1 > 0))), (35, .bool (decide (i1 > 0)))] [row Es 9 s2 r_1] ?_ ?_
    ·refine TL.cases (t := 35) (b := (decide (i1 > 0))) rfl (fun c7 => ?_) (fun c8 => ?_)
     ·exact TL.mv (.int .i64 r_2) <| TL.mv (.int .i64 legs1) <| TL.bn .i64 r_2 legs1 (.bool (r_2 != legs1)) <| TL.pk true (.bool (r_2 != legs1)) <| TL.done <| TC.nrm () () ⟨(by rw [c7]; rfl), rfl, rfl, rfl, rfl, rfl, rfl, rfl, rfl, rfl, rfl, rfl, rfl, rfl, rfl, rfl, rfl, rfl, rfl, rfl, rfl, rfl, rfl, rfl, rfl, rfl, (by rw [c7]; rfl), trivial⟩ [0] (by kernel_rfl)
     exact TL.sk <| TL.sk <| TL.sk <| TL.pk false (.bool false) <| TL.done <| TC.nrm () () ⟨(by rw [c8]; rfl), rfl, rfl, rfl, rfl, rfl, rfl, rfl, rfl, rfl, rfl, rfl, rfl, rfl, rfl, rfl, rfl, rfl, rfl, rfl, rfl, rfl, rfl, rfl, rfl, rfl, (by rw [c8]; rfl), trivial⟩ [0] (by kernel_rfl)
    exact TL.pk false (.bool ((decide (i1 > 0)) && (r_2 != legs1))) <| TL.done <| TC.nrm () () ⟨(by rw [c6]; rfl), rfl, rfl, rfl, rfl, rfl, rfl, rfl, rfl, rfl, rfl, rfl, rfl, rfl, rfl, rfl, rfl, rfl, rfl, rfl, rfl, rfl, rfl, (by rw [c6]; rfl), trivial⟩ [0] (by kernel_rfl)
   refine TL.done ?_
   refine TC.cond (b := ((!r_4) || ((decide (i1 > 0)) && (r_2 != legs1)))) rfl (fun c9 => ?_) (fun c10 => ?_)
   ·refine TC.seq <| TC.region <| TL.as (SV.v ⟨none, 0, 0⟩) <| TL.as (.bool false) <| TL.done ?_
    refine TC.nilrow Es 9 ?_
    exact TC.retF (Fin.loop Far.ret (Fin.body (fin2 (.inr rfl) rfl (.tmp rfl) (.tmp rfl) [0] rfl ⟨⟨none, 0, 0⟩, rfl, rfl⟩)))
   refine TC.skip <| TC.region <| TL.mv (.int .i64 r_3) <| TL.as (.int .i64 r_3) <| TL.done <| TC.region ?_
   refine TL.mv (.int .i64 i1) <| TL.bn .i64 i1 1 (.int .i64 (w64 (i1 + 1))) <| TL.as (.int .i64 (w64 (i1 + 1))) <| TL.done ?_
   exact TC.next ((r_3, (w64 (i1 + 1)))) (()) ⟨rfl, rfl, rfl, rfl, trivial⟩ [0] rfl
  exact TC.brk ((legs1, i1)) (()) ⟨rfl, rfl, rfl, rfl, trivial⟩ [0] rfl
 rintro ⟨legs1, i1⟩ _
 refine TC.seq <| TC.region <| TL.mv (SV.v s2) <| TL.mv (strv word1) <| TL.lenstr Tryz.underlying9 rfl rfl rfl <| TL.bn .i64 (word1.length : Int) 300 (.bool (decide ((word1.length : Int) ≤ 300))) ?_
 exact TL.as (SV.v s2) <| TL.as (.bool (decide ((word1.length : Int) ≤ 300))) <| TL.done <| TC.retF (Fin.body (fin2 (.inr rfl) rfl (.tmp rfl) (.tmp rfl) [0] rfl ⟨s2, rfl, rfl⟩))
def spec_l04Is.f (word1 : Str) : Option Bool := (G.spec_l04Layers.f word1).bind (fun p => match p with | (r_1, r_2) => some r_2)
def spec_l04Is.R (r : Bool) (v : Value) (L : List Asn) : Prop := v = .bool r ∧ L = []
theorem spec_l04Is.calls (w : World) (word1 : Str) :
  ∀ r, spec_l04Is.f word1 = some r → Calls Tryz.prog 29 #[strv word1] w (Ret w (spec_l04Is.R r)) := by
 refine calls_T (n := 11) (Γ := [(0, strv word1)]) (R := spec_l04Is.R) Tryz.func29 rfl rfl (Nat.le_of_ble_eq_true rfl) ⟨rfl, trivial⟩ ?_
 unfold spec_l04Is.f
 refine TC.seq <| TC.region <| TL.as (.bool false) <| TL.done <| TC.seq <| TC.region ?_
 refine TL.mv (strv word1) ?_
 refine TL.call (R := G.spec_l04Layers.R) Tryz.call49 rfl rfl rfl (fun w hS => G.spec_l04Layers.calls w word1) ?_
 rintro ⟨r_1, r_2⟩ _ _ ⟨s1, rfl, rfl⟩
 refine TL.mv (.tuple #[SV.v s1, .bool r_2]) <| TL.extract rfl rfl rfl (v := SV.v s1) rfl <| TL.extract rfl rfl rfl (v := .bool r_2) rfl <| TL.as (SV.v s1) <| TL.as (.bool r_2) <| TL.done ?_
 exact TC.seq <| TC.region <| TL.mv (.bool r_2) <| TL.as (.bool r_2) <| TL.done <| TC.retF (Fin.body (fin1 (.inr rfl) rfl (.tmp rfl) [] rfl ⟨rfl, rfl⟩))
def spec_l04Ends.f (word1 : Str) : Option (Int × Int) := (G.spec_l04Layers.f word1).bind (fun p => match p with | (r_1, r_2) => (bif ((r_1.length : Int) == 0) then some (0, 0) else chk 0 r_1.length ((G.spec_l04Layer.f (gt r_1 0)).bind (fun p => match p with | (r_3, r_4, r_5) => chk (w64 ((r_1.length : Int) - 1)) r_1.length ((G.spec_l04Layer.f (gt r_1 (w64 ((r_1.length : Int) - 1)))).bind (fun p => match p with | (r_6, r_7, r_8) => some (r_3, r_7)))))))
def spec_l04Ends.R (r : Int × Int) (v : Value) (L : List Asn) : Prop := v = .tuple #[.int .i64 r.1, .int .i64 r.2] ∧ L = []
theorem spec_l04Ends.calls (w : World) (word1 : Str) :
  ∀ r, spec_l04Ends.f word1 = some r → Calls Tryz.prog 35 #[strv word1] w (Ret w (spec_l04Ends.R r)) := by
 refine calls_T (n := 41) (Γ := [(0, strv word1)]) (R := spec_l04Ends.R) Tryz.func35 rfl rfl (Nat.le_of_ble_eq_true rfl) ⟨rfl, trivial⟩ ?_
 unfold spec_l04Ends.f
 refine TC.seq <| TC.region <| TL.as (.int .i64 0) <| TL.as (.int .i64 0) <| TL.done <| TC.seq ?_
 refine TC.region <| TL.mv (strv word1) ?_
 refine TL.call (R := G.spec_l04Layers.R) Tryz.call49 rfl rfl rfl (fun w hS => G.spec_l04Layers.calls w word1) ?_
 rintro ⟨r_1, r_2⟩ _ _ ⟨s1, rfl, rfl⟩
 refine TL.mv (.tuple #[SV.v s1, .bool r_2]) <| TL.extract rfl rfl rfl (v := SV.v s1) rfl <| TL.extract rfl rfl rfl (v := .bool r_2) rfl <| TL.as (SV.v s1) <| TL.as (.bool r_2) <| TL.done ?_
 refine TC.seq <| TC.seq <| TC.region <| TL.mv (SV.v s1) <| TL.len (Rd.row 0 rfl) Tryz.underlying49 rfl rfl rfl <| TL.bn .i64 (r_1.length : Int) 0 (.bool ((r_1.length : Int) == 0)) ?_
 refine TL.done ?_
 refine TC.cond (b := ((r_1.length : Int) == 0)) rfl (fun c1 => ?_) (fun c2 => ?_)
 ·exact TC.seq <| TC.region <| TL.as (.int .i64 0) <| TL.as (.int .i64 0) <| TL.done <| TC.retF (Fin.body (fin2 (.inr rfl) rfl (.tmp rfl) (.tmp rfl) [] rfl ⟨rfl, rfl⟩))
 refine TC.skip <| TC.seq <| TC.region <| TL.mv (SV.v s1) ?_
 refine TL.chk fun h1 => ?_
 refine TL.ixs 0 0 (Rd.row 0 rfl) h1 Tryz.underlying49 Tryz.sizeOf9 rfl rfl rfl rfl rfl <| TL.loadE (Rd.row 0 rfl) Tryz.isAgg9 0 0 (gt_spec h1) (v := strv (gt r_1 0)) rfl rfl rfl rfl rfl ?_
 refine TL.call (R := G.spec_l04Layer.R) Tryz.call67 rfl rfl rfl (fun w hS => G.spec_l04Layer.calls w (gt r_1 0)) ?_
 rintro ⟨r_3, r_4, r_5⟩ _ _ ⟨rfl, rfl⟩
 refine TL.mv (.tuple #[.int .i64 r_3, .int .i64 r_4, .bool r_5]) <| TL.extract rfl rfl rfl (v := .int .i64 r_3) rfl <| TL.extract rfl rfl rfl (v := .int .i64 r_4) rfl <| TL.extract rfl rfl rfl (v := .bool r_5) rfl <| TL.as (.int .i64 r_3) <| TL.as (.int .i64 r_4) ?_
 refine TL.as (.bool r_5) <| TL.done <| TC.seq <| TC.region <| TL.mv (SV.v s1) <| TL.mv (SV.v s1) ?_
 refine TL.len (Rd.row 0 rfl) Tryz.underlying49 rfl rfl rfl <| TL.bn .i64 (r_1.length : Int) 1 (.int .i64 (w64 ((r_1.length : Int) - 1))) ?_
 refine TL.chk fun h2 => ?_
 refine TL.ixs (w64 ((r_1.length : Int) - 1)) ((w64 ((r_1.length : Int) - 1)).toNat) (Rd.row 0 rfl) h2 Tryz.underlying49 Tryz.sizeOf9 rfl rfl rfl rfl (by omega) ?_
 refine TL.loadE (Rd.row 0 rfl) Tryz.isAgg9 (w64 ((r_1.length : Int) - 1)).toNat 0 (gt_spec h2) (v := strv (gt r_1 (w64 ((r_1.length : Int) - 1)))) rfl (by simp only [show Es.sz = 1 from rfl] <;> omega) rfl rfl rfl ?_
 refine TL.call (R := G.spec_l04Layer.R) Tryz.call67 rfl rfl rfl (fun w hS => G.spec_l04Layer.calls w (gt r_1 (w64 ((r_1.length : Int) - 1)))) ?_
 rintro ⟨r_6, r_7, r_8⟩ _ _ ⟨rfl, rfl⟩
 refine TL.mv (.tuple #[.int .i64 r_6, .int .i64 r_7, .bool r_8]) <| TL.extract rfl rfl rfl (v := .int .i64 r_6) rfl <| TL.extract rfl rfl rfl (v := .int .i64 r_7) rfl <| TL.extract rfl rfl rfl (v := .bool r_8) rfl <| TL.as (.int .i64 r_6) <| TL.as (.int .i64 r_7) ?_
 refine TL.as (.bool r_8) <| TL.done <| TC.seq <| TC.region <| TL.mv (.int .i64 r_3) <| TL.mv (.int .i64 r_7) ?_
 exact TL.as (.int .i64 r_3) <| TL.as (.int .i64 r_7) <| TL.done <| TC.retF (Fin.body (fin2 (.inr rfl) rfl (.tmp rfl) (.tmp rfl) [] rfl ⟨rfl, rfl⟩))
def spec_l04Thing.f (web1 : List Int) (web2 : List Int) (web3 : List Int) (euler1 : Int) : Option ((List Int) × (List Int) × (List Int) × Int) := small (web1.length + ([(web1.length : Int)] : List Int).length) (small (web2.length + ([euler1] : List Int).length) (some ((web1 ++ ([(web1.length : Int)] : List Int)), (web2 ++ ([euler1] : List Int)), web3, (w64 (((web1 ++ ([(web1.length : Int)] : List Int)).length : Int) - 1)))))
def spec_l04Thing.R (r : (List Int) × (List Int) × (List Int) × Int) (v : Value) (L : List Asn) : Prop := ∃ (s0 : SV) (s1 : SV) (s2 : SV), v = .tuple #[sval [.one (SV.v s0), .one (SV.v s1), .one (SV.v s2)], .int .i64 r.2.2.2] ∧ L = [row Ei 2 s0 r.1, row Ei 2 s1 r.2.1, row Ei 2 s2 r.2.2.1, emp, emp, emp]
theorem spec_l04Thing.calls (w0 : World) (I : Hp) (w : World) (s1 : SV) (web1 : List Int) (s2 : SV) (web2 : List Int) (s3 : SV) (web3 : List Int) (euler1 : Int) (hS : St w0 I [row Ei 2 s1 web1, row Ei 2 s2 web2, row Ei 2 s3 web3] w) :
  ∀ r, spec_l04Thing.f web1 web2 web3 euler1 = some r → Calls Tryz.prog 61 #[sval [.one (SV.v s1), .one (SV.v s2), .one (SV.v s3)], .int .i64 euler1] w (RetM w0 I ((spec_l04Thing.R) r)) := by
 refine calls_TM (w0 := w0) (I := I) (L := [row Ei 2 s1 web1, row Ei 2 s2 web2, row Ei 2 s3 web3]) (n := 25) (Γ := [(0, sval [.one (SV.v s1), .one (SV.v s2), .one (SV.v s3)]), (1, .int .i64 euler1)]) (R := (spec_l04Thing.R)) Tryz.func61 rfl rfl (Nat.le_of_ble_eq_true rfl) ⟨rfl, rfl, trivial⟩ ?_ w hS
 unfold spec_l04Thing.f
 refine TC.seq <| TC.region ?_
 refine TL.box [.one (SV.v s1), .one (SV.v s2), .one (SV.v s3)] rfl rfl rfl rfl fun b_1 => ?_
 refine TL.alloc [.one (SV.v ⟨none, 0, 0⟩), .one (SV.v ⟨none, 0, 0⟩), .one (SV.v ⟨none, 0, 0⟩)] rfl rfl Tryz.zeroValue88 rfl fun b_2 => ?_
 refine TL.as (.int .i64 0) <| TL.done <| TC.seq <| TC.region <| TL.fa Tryz.underlying88 rfl Tryz.sizeOf36 rfl 0 rfl rfl rfl rfl <| TL.load1 0 (Src.box 1 rfl) Tryz.isAgg36 rfl rfl rfl rfl rfl ?_
 refine TL.fa Tryz.underlying88 rfl Tryz.sizeOf36 rfl 0 rfl rfl rfl rfl <| TL.load1 0 (Src.box 1 rfl) Tryz.isAgg36 rfl rfl rfl rfl rfl <| TL.len (Rd.row 2 rfl) Tryz.underlying36 rfl rfl rfl ?_
 refine TL.blit Ei ([(web1.length : Int)] : List Int) Tryz.underlying36 Tryz.sizeOf2 Tryz.zeroValue2 rfl rfl rfl [(0, .int .i64 (web1.length : Int))] rfl ⟨rfl, rfl, trivial⟩ rfl rfl fun s4 => ?_
 refine TL.small fun h1 => ?_
 refine TL.append 3 rfl (Rd.row 0 rfl) Tryz.underlying36 (info_of Tryz.type2) (zv := (Tryz.t2.zero.getD (.bool false))) rfl rfl rfl (by decide) h1 rfl rfl rfl rfl fun s5 => ?_
 refine TL.fa Tryz.underlying88 rfl Tryz.sizeOf36 rfl 0 rfl rfl rfl rfl ?_
 refine TL.st1 2 0 rfl Tryz.sizeOf36 rfl rfl rfl rfl rfl rfl rfl ?_
 refine TL.done <| TC.seq <| TC.region <| TL.fa Tryz.underlying88 rfl Tryz.sizeOf36 rfl 1 rfl rfl rfl rfl <| TL.load1 1 (Src.box 2 rfl) Tryz.isAgg36 rfl rfl rfl rfl rfl <| TL.mv (.int .i64 euler1) ?_
 refine TL.blit Ei ([euler1] : List Int) Tryz.underlying36 Tryz.sizeOf2 Tryz.zeroValue2 rfl rfl rfl [(0, .int .i64 euler1)] rfl ⟨rfl, rfl, trivial⟩ rfl rfl fun s6 => ?_
 refine TL.small fun h2 => ?_
 refine TL.append 5 rfl (Rd.row 0 rfl) Tryz.underlying36 (info_of Tryz.type2) (zv := (Tryz.t2.zero.getD (.bool false))) rfl rfl rfl (by decide) h2 rfl rfl rfl rfl fun s7 => ?_
 refine TL.fa Tryz.underlying88 rfl Tryz.sizeOf36 rfl 1 rfl rfl rfl rfl ?_
 refine TL.st1 3 1 rfl Tryz.sizeOf36 rfl rfl rfl rfl rfl rfl rfl ?_
 refine TL.done <| TC.seq ?_
 refine TC.wk (Γ' := [(0, sval [.one (SV.v s1), .one (SV.v s2), .one (SV.v s3)]), (1, .int .i64 euler1), (2, bp b_1 0), (4, bp b_2 0), (6, bp b_1 0), (7, SV.v s1), (8, bp b_1 0), (9, SV.v s1), (10, .int .i64 (web1.length : Int)), (11, SV.v s4), (12, SV.v s5), (13, bp b_1 0), (14, bp b_1 1), (15, SV.v s2), (16, .int .i64 euler1), (17, SV.v s6), (18, SV.v s7), (19, bp b_1 1)]) ⟨rfl, rfl, rfl, rfl, rfl, rfl, rfl, rfl, rfl, rfl, rfl, rfl, rfl, rfl, rfl, rfl, rfl, rfl, trivial⟩ ?_
 refine TC.drawG [(0, sval [.one (SV.v s1), .one (SV.v s2), .one (SV.v s3)]), (1, .int .i64 euler1), (2, bp b_1 0), (4, bp b_2 0), (6, bp b_1 0), (7, SV.v s1), (8, bp b_1 0), (9, SV.v s1), (10, .int .i64 (web1.length : Int)), (11, SV.v s4), (12, SV.v s5), (13, bp b_1 0), (14, bp b_1 1), (15, SV.v s2), (16, .int .i64 euler1), (17, SV.v s6), (18, SV.v s7), (19, bp b_1 1)] [] ⟨rfl, rfl, rfl, rfl, rfl, rfl, rfl, rfl, rfl, rfl, rfl, rfl, rfl, rfl, rfl, rfl, rfl, rfl, trivial⟩ trivial (fun l_ g1 => [row Ei 2 s6 ([euler1] : List Int), row Ei 2 s4 ([(web1.length : Int)] : List Int), (bif nb l_ 5 then box b_2 88 [.one (SV.v s5), .one (SV.v s7), .one (SV.v s3)] else box b_2 88 [.one (SV.v ⟨none, 0, 0⟩), .one (SV.v ⟨none, 0, 0⟩), .one (SV.v ⟨none, 0, 0⟩)]), box b_1 88 [.one (SV.v s5), .one (SV.v s7), .one (SV.v s3)], row Ei 2 s5 (web1 ++ ([(web1.length : Int)] : List Int)), row Ei 2 s7 (web2 ++ ([euler1] : List Int)), row Ei 2 s3 web3]) (fun g1 => [sval [.one (SV.v s5), .one (SV.v s7), .one (SV.v s3)], bp b_1 0, SV.v s5, .int .i64 ((web1 ++ ([(web1.length : Int)] : List Int)).length : Int), .int .i64 (w64 (((web1 ++ ([(web1.length : Int)] : List Int)).length : Int) - 1)), undef, .int .i64 (w64 (((web1 ++ ([(web1.length : Int)] : List Int)).length : Int) - 1))]) [[], [], [1], [1, 2], [1, 2, 3], [0], [0, 1, 2, 3, 4, 5]] [[oF, none, none, none, none, oF, oF], [none, oF, oF, oF, oF, none, oF], [none, oT, oF, oF, oF, none, oF], [none, oT, oT, oF, oF, none, oF], [none, oT, oT, oT, oF, none, oF], [oT, none, none, none, none, oF, oF], [oT, oT, oT, oT, oT, oT, oF]] (by kernel_rfl) (fun _ => rfl) rfl rfl rfl rfl rfl (fun _ _ => ⟨⟨⟨⟨⟨⟨⟨trivial, rfl⟩, rfl⟩, rfl⟩, rfl⟩, rfl⟩, rfl⟩, rfl⟩) 0 [0, 0, 0, 0, 0, 0, 0] (fun _ => by kernel_rfl) ?_ ?_
 ·refine ⟨rfl, ?_, rfl, ?_, rfl, ?_, rfl, ?_, rfl, ?_, rfl, ?_, rfl, ?_, trivial⟩
  ·intro b1_ b2_ b3_ b4_ g1
   exact TL.ll [row Ei 2 s6 ([euler1] : List Int), row Ei 2 s4 ([(web1.length : Int)] : List Int), box b_2 88 [.one (SV.v ⟨none, 0, 0⟩), .one (SV.v ⟨none, 0, 0⟩), .one (SV.v ⟨none, 0, 0⟩)], box b_1 88 [.one (SV.v s5), .one (SV.v s7), .one (SV.v s3)], row Ei 2 s5 (web1 ++ ([(web1.length : Int)] : List Int)), row Ei 2 s7 (web2 ++ ([euler1] : List Int)), row Ei 2 s3 web3] <| TL.loadM 0 3 (Src.box 3 rfl) Tryz.isAgg88 Tryz.sizeOf88 (mid := [.one (SV.v s5), .one (SV.v s7), .one (SV.v s3)]) rfl rfl rfl rfl rfl rfl <| TL.done <| TC.n1 [0, 0, 0, 0, 0, 0, 0]
  ·intro b0_ b5_ g1
   exact TL.ll [row Ei 2 s6 ([euler1] : List Int), row Ei 2 s4 ([(web1.length : Int)] : List Int), (bif b5_ then box b_2 88 [.one (SV.v s5), .one (SV.v s7), .one (SV.v s3)] else box b_2 88 [.one (SV.v ⟨none, 0, 0⟩), .one (SV.v ⟨none, 0, 0⟩), .one (SV.v ⟨none, 0, 0⟩)]), box b_1 88 [.one (SV.v s5), .one (SV.v s7), .one (SV.v s3)], row Ei 2 s5 (web1 ++ ([(web1.length : Int)] : List Int)), row Ei 2 s7 (web2 ++ ([euler1] : List Int)), row Ei 2 s3 web3] <| TL.fa Tryz.underlying88 rfl Tryz.sizeOf36 rfl 0 rfl rfl rfl rfl <| TL.done <| TC.n1 [0, 0, 0, 0, 0, 0, 0]
  ·intro b0_ b5_ g1
   exact TL.ll [row Ei 2 s6 ([euler1] : List Int), row Ei 2 s4 ([(web1.length : Int)] : List Int), (bif b5_ then box b_2 88 [.one (SV.v s5), .one (SV.v s7), .one (SV.v s3)] else box b_2 88 [.one (SV.v ⟨none, 0, 0⟩), .one (SV.v ⟨none, 0, 0⟩), .one (SV.v ⟨none, 0, 0⟩)]), box b_1 88 [.one (SV.v s5), .one (SV.v s7), .one (SV.v s3)], row Ei 2 s5 (web1 ++ ([(web1.length : Int)] : List Int)), row Ei 2 s7 (web2 ++ ([euler1] : List Int)), row Ei 2 s3 web3] <| TL.load1 0 (Src.box 3 rfl) Tryz.isAgg36 rfl rfl rfl rfl rfl <| TL.done <| TC.n1 [0, 0, 0, 0, 0, 0, 0]
  ·intro b0_ b5_ g1
   exact TL.ll [row Ei 2 s6 ([euler1] : List Int), row Ei 2 s4 ([(web1.length : Int)] : List Int), (bif b5_ then box b_2 88 [.one (SV.v s5), .one (SV.v s7), .one (SV.v s3)] else box b_2 88 [.one (SV.v ⟨none, 0, 0⟩), .one (SV.v ⟨none, 0, 0⟩), .one (SV.v ⟨none, 0, 0⟩)]), box b_1 88 [.one (SV.v s5), .one (SV.v s7), .one (SV.v s3)], row Ei 2 s5 (web1 ++ ([(web1.length : Int)] : List Int)), row Ei 2 s7 (web2 ++ ([euler1] : List Int)), row Ei 2 s3 web3] <| TL.len (Rd.row 4 rfl) Tryz.underlying36 rfl rfl rfl <| TL.done <| TC.n1 [0, 0, 0, 0, 0, 0, 0]
  ·intro b0_ b5_ g1
   exact TL.bn .i64 ((web1 ++ ([(web1.length : Int)] : List Int)).length : Int) 1 (.int .i64 (w64 (((web1 ++ ([(web1.length : Int)] : List Int)).length : Int) - 1))) <| TL.done <| TC.n1 [0, 0, 0, 0, 0, 0, 0]
  ·intro b1_ b2_ b3_ b4_ g1
   refine TL.ll [row Ei 2 s6 ([euler1] : List Int), row Ei 2 s4 ([(web1.length : Int)] : List Int), box b_2 88 [.one (SV.v ⟨none, 0, 0⟩), .one (SV.v ⟨none, 0, 0⟩), .one (SV.v ⟨none, 0, 0⟩)], box b_1 88 [.one (SV.v s5), .one (SV.v s7), .one (SV.v s3)], row Ei 2 s5 (web1 ++ ([(web1.length : Int)] : List Int)), row Ei 2 s7 (web2 ++ ([euler1] : List Int)), row Ei 2 s3 web3] ?_
   refine TL.stM (news := [.one (SV.v s5), .one (SV.v s7), .one (SV.v s3)]) 2 0 3 rfl Tryz.sizeOf88 (ones_one rfl (ones_one rfl (ones_one rfl ones_nil))) rfl rfl rfl rfl rfl rfl ?_
   exact TL.done <| TC.nrm () [] trivial [0, 0, 0, 0, 0, 0, 0] (by kernel_rfl)
  intro g1
  exact TL.as (.int .i64 (w64 (((web1 ++ ([(web1.length : Int)] : List Int)).length : Int) - 1))) <| TL.done <| TC.n1 [0, 0, 0, 0, 0, 0, 0]
 intro g1
 refine TC.ll [row Ei 2 s6 ([euler1] : List Int), row Ei 2 s4 ([(web1.length : Int)] : List Int), box b_2 88 [.one (SV.v s5), .one (SV.v s7), .one (SV.v s3)], box b_1 88 [.one (SV.v s5), .one (SV.v s7), .one (SV.v s3)], row Ei 2 s5 (web1 ++ ([(web1.length : Int)] : List Int)), row Ei 2 s7 (web2 ++ ([euler1] : List Int)), row Ei 2 s3 web3] ?_
 refine TC.mkemp ?_
 refine TC.mkemp ?_
 refine TC.mkemp ?_
 exact TC.retF (Fin.body (fin2 (.inr rfl) rfl (.cellN rfl (Src.box 5 rfl) Tryz.isAgg88 Tryz.sizeOf88 rfl) (.tmp rfl) [7, 7, 7, 0, 0, 0] rfl ⟨s5, s7, s3, rfl, rfl⟩))
def spec_l04Euler.f (letter1 : UInt8) : Option Int := ((bif ((letter1.toNat : Int) == ((117 : UInt8).toNat : Int)) then some ((letter1.toNat : Int) == ((117 : UInt8).toNat : Int)) else some ((letter1.toNat : Int) == ((101 : UInt8).toNat : Int)))).bind (fun x1 => (bif x1 then some 1 else ((bif ((letter1.toNat : Int) == ((109 : UInt8).toNat : Int)) then some ((letter1.toNat : Int) == ((109 : UInt8).toNat : Int)) else some ((letter1.toNat : Int) == ((115 : UInt8).toNat : Int)))).bind (fun x2 => (bif x2 then some (-1) else some 0))))
def spec_l04Euler.R (r : Int) (v : Value) (L : List Asn) : Prop := v = .int .i64 r ∧ L = []
theorem spec_l04Euler.calls (w : World) (letter1 : UInt8) :
  ∀ r, spec_l04Euler.f letter1 = some r → Calls Tryz.prog 37 #[u8v letter1] w (Ret w (spec_l04Euler.R r)) := by
 refine calls_T (n := 10) (Γ := [(0, u8v letter1)]) (R := spec_l04Euler.R) Tryz.func37 rfl rfl (Nat.le_of_ble_eq_true rfl) ⟨rfl, trivial⟩ ?_
 unfold spec_l04Euler.f
 refine TC.seq <| TC.region <| TL.as (.int .i64 0) <| TL.done <| TC.seq <| TC.seq ?_
 refine TC.region <| TL.mv (u8v letter1) <| TL.done <| TC.block NoEx.body <| TC.seq <| TC.seq ?_
 refine TC.region <| TL.bn .u8 (letter1.toNat : Int) ((117 : UInt8).toNat : Int) (.bool ((letter1.toNat : Int) == ((117 : UInt8).toNat : Int))) <| TL.as (.bool ((letter1.toNat : Int) == ((117 : UInt8).toNat : Int))) <| TL.done ?_
 refine TC.join1 (σ := Bool) (γ := Unit) (Γ' := (fun x1 _ => [(3, u8v letter1), (4, .bool x1)])) (L' := (fun x1 _ => [])) ?_ ?_
 ·refine TC.cond (b := ((letter1.toNat : Int) == ((117 : UInt8).toNat : Int))) rfl (fun c1 => ?_) (fun c2 => ?_)
  ·exact TC.skip <| TC.nrm (((letter1.toNat : Int) == ((117 : UInt8).toNat : Int))) (()) ⟨rfl, rfl, trivial⟩ [] rfl
  exact TC.region <| TL.bn .u8 (letter1.toNat : Int) ((101 : UInt8).toNat : Int) (.bool ((letter1.toNat : Int) == ((101 : UInt8).toNat : Int))) <| TL.as (.bool ((letter1.toNat : Int) == ((101 : UInt8).toNat : Int))) <| TL.done <| TC.nrm (((letter1.toNat : Int) == ((101 : UInt8).toNat : Int))) (()) ⟨rfl, rfl, trivial⟩ [] rfl
 rintro x1 _
 refine TC.cond (b := x1) rfl (fun c3 => ?_) (fun c4 => ?_)
 ·exact TC.seq <| TC.region <| TL.as (.int .i64 1) <| TL.done <| TC.retF (Fin.body (fin1 (.inr rfl) rfl (.tmp rfl) [] rfl ⟨rfl, rfl⟩))
 refine TC.seq <| TC.seq <| TC.region <| TL.bn .u8 (letter1.toNat : Int) ((109 : UInt8).toNat : Int) (.bool ((letter1.toNat : Int) == ((109 : UInt8).toNat : Int))) <| TL.as (.bool ((letter1.toNat : Int) == ((109 : UInt8).toNat : Int))) <| TL.done ?_
 refine TC.join1 (σ := Bool) (γ := Unit) (Γ' := (fun x2 _ => [(7, .bool x2)])) (L' := (fun x2 _ => [])) ?_ ?_
 ·refine TC.cond (b := ((letter1.toNat : Int) == ((109 : UInt8).toNat : Int))) rfl (fun c5 => ?_) (fun c6 => ?_)
  ·exact TC.skip <| TC.nrm (((letter1.toNat : Int) == ((109 : UInt8).toNat : Int))) (()) ⟨rfl, trivial⟩ [] rfl
  exact TC.region <| TL.bn .u8 (letter1.toNat : Int) ((115 : UInt8).toNat : Int) (.bool ((letter1.toNat : Int) == ((115 : UInt8).toNat : Int))) <| TL.as (.bool ((letter1.toNat : Int) == ((115 : UInt8).toNat : Int))) <| TL.done <| TC.nrm (((letter1.toNat : Int) == ((115 : UInt8).toNat : Int))) (()) ⟨rfl, trivial⟩ [] rfl
 rintro x2 _
 refine TC.cond (b := x2) rfl (fun c7 => ?_) (fun c8 => ?_)
 ·exact TC.seq <| TC.region <| TL.as (.int .i64 (-1)) <| TL.done <| TC.retF (Fin.body (fin1 (.inr rfl) rfl (.tmp rfl) [] rfl ⟨rfl, rfl⟩))
 exact TC.skip <| TC.seq <| TC.region <| TL.as (.int .i64 0) <| TL.done <| TC.retF (Fin.body (fin1 (.inr rfl) rfl (.tmp rfl) [] rfl ⟨rfl, rfl⟩))
end Go.Proofs.YtpejnjpckacciaaGreatDoor.G
