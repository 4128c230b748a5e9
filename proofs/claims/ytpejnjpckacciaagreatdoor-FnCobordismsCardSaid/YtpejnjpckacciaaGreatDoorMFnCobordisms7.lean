/- Functions of the program, as pure functions. -/
import Derived.Test.YtpejnjpckacciaaGreatDoorMFnCobordisms6
import Derived.Test.YtpejnjpckacciaaGreatDoorProg
set_option linter.unusedVariables false
set_option maxRecDepth 100000
set_option maxHeartbeats 4000000
namespace Go.Proofs.YtpejnjpckacciaaGreatDoor.G
open Go Go.Sx Go.Proofs
def spec_l04Parts.b0 (r_3 : Int) : (List Int) × (List Int) × (List Int) × (List Int) × Int → Option (LB ((List Int) × (List Int) × (List Int) × (List Int) × Int)) := fun p => match p with | (y1, y2, y3, x2, x3) => (bif (decide (x3 < r_3)) then (G.spec_l04Thing.f y1 y2 y3 0).bind (fun p => match p with | (r_5, r_6, r_7, r_8) => small (r_7.length + ([r_8] : List Int).length) (small (x2.length + ([r_8] : List Int).length) (some (.next (r_5, r_6, (r_7 ++ ([r_8] : List Int)), (x2 ++ ([r_8] : List Int)), (w64 (x3 + 1))))))) else some (.brk (y1, y2, y3, x2, x3)))
def spec_l04Parts.b1 (r_1 : List Str) : (List Int) × (List Int) × (List Int) × Int → Option (LB ((List Int) × (List Int) × (List Int) × Int)) := fun p => match p with | (y4, y5, y6, x4) => (bif (decide (x4 < (r_1.length : Int))) then chk x4 r_1.length ((G.spec_l04Step.f y4 y5 y6 (gt r_1 x4)).bind (fun p => match p with | (r_9, r_10, r_11) => some (.next (r_9, r_10, r_11, (w64 (x4 + 1)))))) else some (.brk (y4, y5, y6, x4)))
def spec_l04Parts.b2 (y4 : List Int) (x6 : Int) (y5 : List Int) : Int × Bool × Int → Option (LB (Int × Bool × Int)) := fun p => match p with | (x7, x8, x9) => (bif (decide (x9 < (y4.length : Int))) then chk x9 y4.length (((bif ((gt y4 x9) == x6) then chk x9 y5.length (some ((w64 (x7 + (gt y5 x9))), true)) else some (x7, x8))).bind (fun p => match p with | (x10, x11) => some (.next (x10, x11, (w64 (x9 + 1)))))) else some (.brk (x7, x8, x9)))
def spec_l04Parts.b3 (x2 : List Int) (y4 : List Int) (x6 : Int) : (List Int) × Int → Option (LB ((List Int) × Int)) := fun p => match p with | (y7, x12) => (bif (decide (x12 < (x2.length : Int))) then chk x12 x2.length (chk (gt x2 x12) y4.length (((bif ((gt y4 (gt x2 x12)) == x6) then small (y7.length + ([x12] : List Int).length) (some (y7 ++ ([x12] : List Int))) else some y7)).bind (fun y8 => some (.next (y8, (w64 (x12 + 1))))))) else some (.brk (y7, x12)))
def spec_l04Parts.b4 (y6 : List Int) (y4 : List Int) (x6 : Int) : (List Int) × Int → Option (LB ((List Int) × Int)) := fun p => match p with | (y9, x13) => (bif (decide (x13 < (y6.length : Int))) then chk x13 y6.length (chk (gt y6 x13) y4.length (((bif ((gt y4 (gt y6 x13)) == x6) then small (y9.length + ([x13] : List Int).length) (some (y9 ++ ([x13] : List Int))) else some y9)).bind (fun y10 => some (.next (y10, (w64 (x13 + 1))))))) else some (.brk (y9, x13)))
def spec_l04Parts.b5 (y4 : List Int) (y5 : List Int) (x2 : List Int) (y6 : List Int) : (List (Int × (List Int) × (List Int))) × Int → Option (LB ((List (Int × (List Int) × (List Int))) × Int)) := fun p => match p with | (x5, x6) => (bif (decide (x6 < (y4.length : Int))) then (loop1 (spec_l04Parts.b2 y4 x6 y5) (0, false, 0)).bind (fun p => match p with | (x7, x8, x9) => (loop1 (spec_l04Parts.b3 x2 y4 x6) (([] : List Int), 0)).bind (fun p => match p with | (y7, x12) => (loop1 (spec_l04Parts.b4 y6 y4 x6) (([] : List Int), 0)).bind (fun p => match p with | (y9, x13) => ((bif x8 then (G.spec_l04Put.f x5 (w64 (Int.tdiv (w64 ((w64 (2 - (w64 ((y7.length : Int) + (y9.length : Int))))) - x7)) 2)) y7 y9).bind (fun r_12 => some r_12) else some x5)).bind (fun x14 => some (.next (x14, (w64 (x6 + 1)))))))) else some (.brk (x5, x6)))
def spec_l04Parts.f (x1 : Str) : Option (List (Int × (List Int) × (List Int))) := (G.spec_l04Layers.f x1).bind (fun p => match p with | (r_1, r_2) => (G.spec_l04Ends.f x1).bind (fun p => match p with | (r_3, r_4) => (loop1 (spec_l04Parts.b0 r_3) (([] : List Int), ([] : List Int), ([] : List Int), ([] : List Int), 0)).bind (fun p => match p with | (y1, y2, y3, x2, x3) => (loop1 (spec_l04Parts.b1 r_1) (y1, y2, y3, 0)).bind (fun p => match p with | (y4, y5, y6, x4) => (loop1 (spec_l04Parts.b5 y4 y5 x2 y6) (([] : List (Int × (List Int) × (List Int))), 0)).bind (fun p => match p with | (x5, x6) => some x5)))))
def spec_l04Parts.R (r : List (Int × (List Int) × (List Int))) (v : Value) (L : List Asn) : Prop := ∃ (s0 : SV) (ss0 : List (Int × SV × SV)), v = SV.v s0 ∧ L = [pmat 2 44 s0 ss0 r]
theorem spec_l04Parts.calls (w : World) (x1 : Str) :
  ∀ r, spec_l04Parts.f x1 = some r → Calls Tryz.prog 30 #[strv x1] w (Ret w (spec_l04Parts.R r)) := by
 refine calls_T (n := 161) (Γ := [(0, strv x1)]) (R := spec_l04Parts.R) Tryz.func30 rfl rfl (Nat.le_of_ble_eq_true rfl) ⟨rfl, trivial⟩ ?_
 unfold spec_l04Parts.f
 refine TC.seq <| TC.region <| TL.as (SV.v ⟨none, 0, 0⟩) <| TL.done <| TC.seq <| TC.region ?_
 refine TL.mv (strv x1) ?_
 refine TL.call (R := G.spec_l04Layers.R) Tryz.call49 rfl rfl rfl (fun w hS => G.spec_l04Layers.calls w x1) ?_
 rintro ⟨r_1, r_2⟩ _ _ ⟨s1, rfl, rfl⟩
 refine TL.mv (.tuple #[SV.v s1, .bool r_2]) <| TL.extract rfl rfl rfl (v := SV.v s1) rfl <| TL.extract rfl rfl rfl (v := .bool r_2) rfl <| TL.as (SV.v s1) <| TL.as (.bool r_2) <| TL.done ?_
 refine TC.seq <| TC.region <| TL.mv (strv x1) ?_
 refine TL.call (R := G.spec_l04Ends.R) Tryz.call35 rfl rfl rfl (fun w hS => G.spec_l04Ends.calls w x1) ?_
 rintro ⟨r_3, r_4⟩ _ _ ⟨rfl, rfl⟩
 refine TL.mv (.tuple #[.int .i64 r_3, .int .i64 r_4]) <| TL.extract rfl rfl rfl (v := .int .i64 r_3) rfl <| TL.extract rfl rfl rfl (v := .int .i64 r_4) rfl <| TL.as (.int .i64 r_3) <| TL.as (.int .i64 r_4) <| TL.done ?_
 refine TC.seq <| TC.region ?_
 refine TL.buildS (segs0 := [.one (SV.v ⟨none, 0, 0⟩), .one (SV.v ⟨none, 0, 0⟩), .one (SV.v ⟨none, 0, 0⟩)]) (segs := [.one (SV.v ⟨none, 0, 0⟩), .one (SV.v ⟨none, 0, 0⟩), .one (SV.v ⟨none, 0, 0⟩)]) [1, 1, 1] Tryz.underlying88 ⟨Tryz.sizeOf36, Tryz.sizeOf36, Tryz.sizeOf36, trivial⟩ Tryz.zeroValue88 rfl [] rfl (fun pl hpl => by subst hpl; exact rfl) rfl rfl ?_
 refine TL.bslice0 Ei Tryz.underlying36 Tryz.sizeOf2 rfl rfl fun s2 => ?_
 refine TL.alloc [.one (SV.v ⟨none, 0, 0⟩), .one (SV.v ⟨none, 0, 0⟩), .one (SV.v ⟨none, 0, 0⟩)] rfl rfl Tryz.zeroValue88 rfl fun b_1 => ?_
 refine TL.stM (news := [.one (SV.v ⟨none, 0, 0⟩), .one (SV.v ⟨none, 0, 0⟩), .one (SV.v ⟨none, 0, 0⟩)]) 0 0 3 rfl Tryz.sizeOf88 (ones_one rfl (ones_one rfl (ones_one rfl ones_nil))) rfl rfl rfl rfl rfl rfl ?_
 refine TL.as (SV.v s2) <| TL.done <| TC.seq <| TC.seq <| TC.region <| TL.as (.int .i64 0) ?_
 refine TL.done ?_
 refine TC.nilrow Ei 2 ?_
 refine TC.nilrow Ei 2 ?_
 refine TC.nilrow Ei 2 ?_
 refine TC.loop1 (σ := (List Int) × (List Int) × (List Int) × (List Int) × Int) (γ := SV × SV × SV × SV) (Γ' := (fun p q => match p, q with | (y1, y2, y3, x2, x3), (s3, s4, s5, s6) => [(3, SV.v s1), (5, .int .i64 r_3), (7, bp b_1 0), (8, SV.v s6), (9, .int .i64 x3)])) (L' := (fun p q => match p, q with | (y1, y2, y3, x2, x3), (s3, s4, s5, s6) => [row Es 9 s1 r_1, box b_1 88 [.one (SV.v s3), .one (SV.v s4), .one (SV.v s5)], row Ei 2 s3 y1, row Ei 2 s4 y2, row Ei 2 s5 y3, row Ei 2 s6 x2])) (Γb := (fun p q => match p, q with | (y1, y2, y3, x2, x3), (s3, s4, s5, s6) => [(3, SV.v s1), (5, .int .i64 r_3), (7, bp b_1 0), (8, SV.v s6), (9, .int .i64 x3)])) (Lb := (fun p q => match p, q with | (y1, y2, y3, x2, x3), (s3, s4, s5, s6) => [row Es 9 s1 r_1, box b_1 88 [.one (SV.v s3), .one (SV.v s4), .one (SV.v s5)], row Ei 2 s3 y1, row Ei 2 s4 y2, row Ei 2 s5 y3, row Ei 2 s6 x2])) ((([] : List Int), ([] : List Int), ([] : List Int), ([] : List Int), 0)) ((⟨none, 0, 0⟩, ⟨none, 0, 0⟩, ⟨none, 0, 0⟩, s2)) ⟨rfl, rfl, rfl, rfl, rfl, trivial⟩ [5, 3, 2, 1, 0, 0] rfl ?_ ?_
 ·rintro ⟨y1, y2, y3, x2, x3⟩ ⟨s3, s4, s5, s6⟩
  refine TC.seq <| TC.seq <| TC.region <| TL.mv (.int .i64 x3) <| TL.mv (.int .i64 r_3) <| TL.bn .i64 x3 r_3 (.bool (decide (x3 < r_3))) ?_
  refine TL.done ?_
  refine TC.cond (b := (decide (x3 < r_3))) rfl (fun c1 => ?_) (fun c2 => ?_)
  ·refine TC.skip <| TC.seq <| TC.block (NoEx.loop1 rfl) <| TC.seq <| TC.region <| TL.loadM 0 3 (Src.box 1 rfl) Tryz.isAgg88 Tryz.sizeOf88 (mid := [.one (SV.v s3), .one (SV.v s4), .one (SV.v s5)]) rfl rfl rfl rfl rfl rfl ?_
   refine TL.callX (R := G.spec_l04Thing.R) [2, 2, 2, 0, 0, 0] [row Ei 2 s3 y1, row Ei 2 s4 y2, row Ei 2 s5 y3] [row Es 9 s1 r_1, box b_1 88 [.one (SV.v s3), .one (SV.v s4), .one (SV.v s5)], row Ei 2 s6 x2] rfl Tryz.call61 rfl rfl rfl (fun w I_ hle hB hS => G.spec_l04Thing.calls _ I_ w s3 y1 s4 y2 s5 y3 0 hS) ?_
   rintro ⟨r_5, r_6, r_7, r_8⟩ _ _ ⟨s7, s8, s9, rfl, rfl⟩
   refine TL.mv (.tuple #[sval [.one (SV.v s7), .one (SV.v s8), .one (SV.v s9)], .int .i64 r_8]) <| TL.extract rfl rfl rfl (v := sval [.one (SV.v s7), .one (SV.v s8), .one (SV.v s9)]) rfl <| TL.extract rfl rfl rfl (v := .int .i64 r_8) rfl ?_
   refine TL.alloc [.one (SV.v ⟨none, 0, 0⟩), .one (SV.v ⟨none, 0, 0⟩), .one (SV.v ⟨none, 0, 0⟩)] rfl rfl Tryz.zeroValue88 rfl fun b_2 => ?_
   refine TL.stM (news := [.one (SV.v s7), .one (SV.v s8), .one (SV.v s9)]) 0 0 3 rfl Tryz.sizeOf88 (ones_one rfl (ones_one rfl (ones_one rfl ones_nil))) rfl rfl rfl rfl rfl rfl ?_
   refine TL.as (.int .i64 r_8) <| TL.done <| TC.seq <| TC.region <| TL.loadM 0 3 (Src.box 0 rfl) Tryz.isAgg88 Tryz.sizeOf88 (mid := [.one (SV.v s7), .one (SV.v s8), .one (SV.v s9)]) rfl rfl rfl rfl rfl rfl ?_
   refine TL.stM (news := [.one (SV.v s7), .one (SV.v s8), .one (SV.v s9)]) 8 0 3 rfl Tryz.sizeOf88 (ones_one rfl (ones_one rfl (ones_one rfl ones_nil))) rfl rfl rfl rfl rfl rfl ?_
   refine TL.done <| TC.seq <| TC.region <| TL.fa Tryz.underlying88 rfl Tryz.sizeOf36 rfl 2 rfl rfl rfl rfl <| TL.load1 2 (Src.box 8 rfl) Tryz.isAgg36 rfl rfl rfl rfl rfl <| TL.mv (.int .i64 r_8) ?_
   refine TL.blit Ei ([r_8] : List Int) Tryz.underlying36 Tryz.sizeOf2 Tryz.zeroValue2 rfl rfl rfl [(0, .int .i64 r_8)] rfl ⟨rfl, rfl, trivial⟩ rfl rfl fun s10 => ?_
   refine TL.small fun h1 => ?_
   refine TL.append 4 rfl (Rd.row 0 rfl) Tryz.underlying36 (info_of Tryz.type2) (zv := (Tryz.t2.zero.getD (.bool false))) rfl rfl rfl (by decide) h1 rfl rfl rfl rfl fun s11 => ?_
   refine TL.fa Tryz.underlying88 rfl Tryz.sizeOf36 rfl 2 rfl rfl rfl rfl ?_
   refine TL.st1 9 2 rfl Tryz.sizeOf36 rfl rfl rfl rfl rfl rfl rfl ?_
   refine TL.done <| TC.region <| TL.mv (SV.v s6) <| TL.mv (.int .i64 r_8) ?_
   refine TL.blit Ei ([r_8] : List Int) Tryz.underlying36 Tryz.sizeOf2 Tryz.zeroValue2 rfl rfl rfl [(0, .int .i64 r_8)] rfl ⟨rfl, rfl, trivial⟩ rfl rfl fun s12 => ?_
   refine TL.small fun h2 => ?_
   refine TL.append 11 rfl (Rd.row 0 rfl) Tryz.underlying36 (info_of Tryz.type2) (zv := (Tryz.t2.zero.getD (.bool false))) rfl rfl rfl (by decide) h2 rfl rfl rfl rfl fun s13 => ?_
   refine TL.as (SV.v s13) <| TL.done <| TC.region <| TL.mv (.int .i64 x3) <| TL.bn .i64 x3 1 (.int .i64 (w64 (x3 + 1))) <| TL.as (.int .i64 (w64 (x3 + 1))) ?_
   refine TL.done ?_
   exact TC.next1 ((r_5, r_6, (r_7 ++ ([r_8] : List Int)), (x2 ++ ([r_8] : List Int)), (w64 (x3 + 1)))) ((s7, s8, s11, s13)) ⟨rfl, rfl, rfl, rfl, rfl, trivial⟩ [9, 9, 3, 3, 3, 6] rfl
  exact TC.brk1 ((y1, y2, y3, x2, x3)) ((s3, s4, s5, s6)) ⟨rfl, rfl, rfl, rfl, rfl, trivial⟩ [0, 0, 0, 0, 0, 0] rfl
 rintro ⟨y1, y2, y3, x2, x3⟩ ⟨s3, s4, s5, s6⟩
 refine TC.seq <| TC.seq <| TC.region <| TL.as (.int .i64 0) <| TL.done ?_
 refine TC.loop1 (σ := (List Int) × (List Int) × (List Int) × Int) (γ := SV × SV × SV) (Γ' := (fun p q => match p, q with | (y4, y5, y6, x4), (s14, s15, s16) => [(3, SV.v s1), (7, bp b_1 0), (8, SV.v s6), (12, .int .i64 x4)])) (L' := (fun p q => match p, q with | (y4, y5, y6, x4), (s14, s15, s16) => [row Es 9 s1 r_1, box b_1 88 [.one (SV.v s14), .one (SV.v s15), .one (SV.v s16)], row Ei 2 s14 y4, row Ei 2 s15 y5, row Ei 2 s16 y6, row Ei 2 s6 x2])) (Γb := (fun p q => match p, q with | (y4, y5, y6, x4), (s14, s15, s16) => [(3, SV.v s1), (7, bp b_1 0), (8, SV.v s6), (12, .int .i64 x4)])) (Lb := (fun p q => match p, q with | (y4, y5, y6, x4), (s14, s15, s16) => [row Es 9 s1 r_1, box b_1 88 [.one (SV.v s14), .one (SV.v s15), .one (SV.v s16)], row Ei 2 s14 y4, row Ei 2 s15 y5, row Ei 2 s16 y6, row Ei 2 s6 x2])) ((y1, y2, y3, 0)) ((s3, s4, s5)) ⟨rfl, rfl, rfl, rfl, trivial⟩ [0, 0, 0, 0, 0, 0] rfl ?_ ?_
 ·rintro ⟨y4, y5, y6, x4⟩ ⟨s14, s15, s16⟩
  refine TC.seq <| TC.seq <| TC.region <| TL.mv (.int .i64 x4) <| TL.mv (SV.v s1) <| TL.len (Rd.row 0 rfl) Tryz.underlying49 rfl rfl rfl ?_
  refine TL.bn .i64 x4 (r_1.length : Int) (.bool (decide (x4 < (r_1.length : Int)))) <| TL.done ?_
  refine TC.cond (b := (decide (x4 < (r_1.length : Int)))) rfl (fun c3 => ?_) (fun c4 => ?_)
  ·refine TC.skip <| TC.seq <| TC.block (NoEx.loop1 rfl) ?_
   refine TC.wk (Γ' := [(3, SV.v s1), (7, bp b_1 0), (8, SV.v s6), (12, .int .i64 x4), (54, .int .i64 x4), (55, SV.v s1), (56, .int .i64 (r_1.length : Int)), (57, .bool (decide (x4 < (r_1.length : Int))))]) ⟨rfl, rfl, rfl, rfl, rfl, rfl, rfl, rfl, trivial⟩ ?_
   refine TC.chk fun h3 => ?_
   refine TC.bindE ?_
   rintro ⟨r_9, r_10, r_11⟩ hr1
   refine TC.drawG [(3, SV.v s1), (7, bp b_1 0), (8, SV.v s6), (12, .int .i64 x4), (54, .int .i64 x4), (55, SV.v s1), (56, .int .i64 (r_1.length : Int)), (57, .bool (decide (x4 < (r_1.length : Int))))] [] ⟨rfl, rfl, rfl, rfl, rfl, rfl, rfl, rfl, trivial⟩ trivial (fun l_ g1 => [row Es 9 s1 r_1, (bif nb l_ 6 then box b_1 88 [.one (SV.v (gs (g1 40))), .one (SV.v (gs (g1 41))), .one (SV.v (gs (g1 42)))] else box b_1 88 [.one (SV.v s14), .one (SV.v s15), .one (SV.v s16)]), (bif nb l_ 5 then emp else row Ei 2 s14 y4), (bif nb l_ 5 then emp else row Ei 2 s15 y5), (bif nb l_ 5 then emp else row Ei 2 s16 y6), row Ei 2 s6 x2, (bif nb l_ 5 then row Ei 2 (gs (g1 40)) r_9 else emp), (bif nb l_ 5 then row Ei 2 (gs (g1 41)) r_10 else emp), (bif nb l_ 5 then row Ei 2 (gs (g1 42)) r_11 else emp)]) (fun g1 => [sval [.one (SV.v s14), .one (SV.v s15), .one (SV.v s16)], SV.v s1, .int .i64 x4, ep s1 x4.toNat, strv (gt r_1 x4), sval [.one (SV.v (gs (g1 40))), .one (SV.v (gs (g1 41))), .one (SV.v (gs (g1 42)))], undef]) [[], [], [], [1, 2], [1, 2, 3], [0, 1, 2, 3, 4], [0, 1, 2, 3, 4, 5]] [[oF, none, none, none, none, oF, oF], [none, oF, none, oF, oF, oF, oF], [none, none, oF, oF, oF, oF, oF], [none, oT, oT, oF, oF, oF, oF], [none, oT, oT, oT, oF, oF, oF], [oT, oT, oT, oT, oT, oF, oF], [oT, oT, oT, oT, oT, oT, oF]] (by kernel_rfl) (fun _ => rfl) rfl rfl rfl rfl rfl (fun _ _ => ⟨⟨⟨⟨⟨⟨⟨trivial, rfl⟩, rfl⟩, rfl⟩, rfl⟩, rfl⟩, rfl⟩, rfl⟩) 3 [3, 3, 3, 3, 3, 3, 0, 0, 0] (fun _ => by kernel_rfl) ?_ ?_
   ·refine ⟨rfl, ?_, rfl, ?_, rfl, ?_, rfl, ?_, rfl, ?_, rfl, ?_, rfl, ?_, trivial⟩
    ·intro b1_ b2_ b3_ b4_ g1
     exact TL.ll [row Es 9 s1 r_1, box b_1 88 [.one (SV.v s14), .one (SV.v s15), .one (SV.v s16)], row Ei 2 s14 y4, row Ei 2 s15 y5, row Ei 2 s16 y6, row Ei 2 s6 x2, emp, emp, emp] <| TL.loadM 0 3 (Src.box 1 rfl) Tryz.isAgg88 Tryz.sizeOf88 (mid := [.one (SV.v s14), .one (SV.v s15), .one (SV.v s16)]) rfl rfl rfl rfl rfl rfl <| TL.done <| TC.n1 [0, 0, 0, 0, 0, 0, 0, 0, 0]
    ·intro b0_ b2_ g1
     exact TL.mv (SV.v s1) <| TL.done <| TC.n1 [0, 0, 0, 0, 0, 0, 0, 0, 0]
    ·intro b0_ b1_ g1
     exact TL.mv (.int .i64 x4) <| TL.done <| TC.n1 [0, 0, 0, 0, 0, 0, 0, 0, 0]
    ·intro b0_ g1
     exact TL.ll [row Es 9 s1 r_1, box b_1 88 [.one (SV.v s14), .one (SV.v s15), .one (SV.v s16)], row Ei 2 s14 y4, row Ei 2 s15 y5, row Ei 2 s16 y6, row Ei 2 s6 x2, emp, emp, emp] <| TL.ixs x4 x4.toNat (Rd.row 0 rfl) h3 Tryz.underlying49 Tryz.sizeOf9 rfl rfl rfl rfl (by omega) <| TL.done <| TC.n1 [0, 0, 0, 0, 0, 0, 0, 0, 0]
    ·intro b0_ g1
     refine TL.ll [row Es 9 s1 r_1, box b_1 88 [.one (SV.v s14), .one (SV.v s15), .one (SV.v s16)], row Ei 2 s14 y4, row Ei 2 s15 y5, row Ei 2 s16 y6, row Ei 2 s6 x2, emp, emp, emp] ?_
     refine TL.loadE (Rd.row 0 rfl) Tryz.isAgg9 x4.toNat 0 (gt_spec h3) (v := strv (gt r_1 x4)) rfl (by simp only [show Es.sz = 1 from rfl] <;> omega) rfl rfl rfl ?_
     exact TL.done <| TC.n1 [0, 0, 0, 0, 0, 0, 0, 0, 0]
    ·intro g1
     refine TL.ll [row Es 9 s1 r_1, box b_1 88 [.one (SV.v s14), .one (SV.v s15), .one (SV.v s16)], row Ei 2 s14 y4, row Ei 2 s15 y5, row Ei 2 s16 y6, row Ei 2 s6 x2, emp, emp, emp] ?_
     refine TL.callXH (R := G.spec_l04Step.R) hr1 [2, 2, 2, 0, 0, 0, 0, 0, 0] [row Ei 2 s14 y4, row Ei 2 s15 y5, row Ei 2 s16 y6] [row Es 9 s1 r_1, box b_1 88 [.one (SV.v s14), .one (SV.v s15), .one (SV.v s16)], row Ei 2 s6 x2, emp, emp, emp] rfl Tryz.call62 rfl rfl rfl (fun w I_ hle hB hS => G.spec_l04Step.calls _ I_ w s14 y4 s15 y5 s16 y6 (gt r_1 x4) hS) ?_
     rintro _ _ ⟨s17, s18, s19, rfl, rfl⟩
     exact TL.done <| TC.nrm () [[s17], [s18], [s19]] ⟨rfl, trivial⟩ [6, 6, 3, 3, 3, 3, 0, 0, 0] (by kernel_rfl)
    intro g1
    refine TL.ll [row Es 9 s1 r_1, box b_1 88 [.one (SV.v s14), .one (SV.v s15), .one (SV.v s16)], emp, emp, emp, row Ei 2 s6 x2, row Ei 2 (gs (g1 40)) r_9, row Ei 2 (gs (g1 41)) r_10, row Ei 2 (gs (g1 42)) r_11] ?_
    refine TL.stM (news := [.one (SV.v (gs (g1 40))), .one (SV.v (gs (g1 41))), .one (SV.v (gs (g1 42)))]) 1 0 3 rfl Tryz.sizeOf88 (ones_one rfl (ones_one rfl (ones_one rfl ones_nil))) rfl rfl rfl rfl rfl rfl ?_
    exact TL.done <| TC.nrm () [] trivial [0, 0, 0, 0, 0, 0, 0, 0, 0] (by kernel_rfl)
   intro g1
   refine TC.ll [row Es 9 s1 r_1, box b_1 88 [.one (SV.v (gs (g1 40))), .one (SV.v (gs (g1 41))), .one (SV.v (gs (g1 42)))], emp, emp, emp, row Ei 2 s6 x2, row Ei 2 (gs (g1 40)) r_9, row Ei 2 (gs (g1 41)) r_10, row Ei 2 (gs (g1 42)) r_11] <| TC.region <| TL.mv (.int .i64 x4) <| TL.bn .i64 x4 1 (.int .i64 (w64 (x4 + 1))) <| TL.as (.int .i64 (w64 (x4 + 1))) <| TL.done ?_
   exact TC.next1 ((r_9, r_10, r_11, (w64 (x4 + 1)))) (((gs (g1 40)), (gs (g1 41)), (gs (g1 42)))) ⟨rfl, rfl, rfl, rfl, trivial⟩ [0, 0, 4, 4, 4, 3] rfl
  exact TC.brk1 ((y4, y5, y6, x4)) ((s14, s15, s16)) ⟨rfl, rfl, rfl, rfl, trivial⟩ [0, 0, 0, 0, 0, 0] rfl
 rintro ⟨y4, y5, y6, x4⟩ ⟨s14, s15, s16⟩
 refine TC.seq <| TC.region ?_
 refine TL.bslice0 Epart Tryz.underlying25 Tryz.sizeOf44 rfl rfl fun s20 => ?_
 refine TL.pmat0 2 0 rfl ?_
 refine TL.as (SV.v s20) <| TL.done <| TC.seq <| TC.seq <| TC.region <| TL.as (.int .i64 0) ?_
 refine TL.done ?_
 refine TC.loop1 (σ := (List (Int × (List Int) × (List Int))) × Int) (γ := SV × (List (Int × SV × SV))) (Γ' := (fun p q => match p, q with | (x5, x6), (s21, ss1) => [(7, bp b_1 0), (8, SV.v s6), (13, SV.v s21), (14, .int .i64 x6)])) (L' := (fun p q => match p, q with | (x5, x6), (s21, ss1) => [box b_1 88 [.one (SV.v s14), .one (SV.v s15), .one (SV.v s16)], row Ei 2 s14 y4, row Ei 2 s15 y5, row Ei 2 s16 y6, row Ei 2 s6 x2, pmat 2 44 s21 ss1 x5])) (Γb := (fun p q => match p, q with | (x5, x6), (s21, ss1) => [(7, bp b_1 0), (8, SV.v s6), (13, SV.v s21), (14, .int .i64 x6)])) (Lb := (fun p q => match p, q with | (x5, x6), (s21, ss1) => [box b_1 88 [.one (SV.v s14), .one (SV.v s15), .one (SV.v s16)], row Ei 2 s14 y4, row Ei 2 s15 y5, row Ei 2 s16 y6, row Ei 2 s6 x2, pmat 2 44 s21 ss1 x5])) ((([] : List (Int × (List Int) × (List Int))), 0)) ((s20, [])) ⟨rfl, rfl, rfl, rfl, trivial⟩ [2, 2, 2, 2, 2, 0] rfl ?_ ?_
 ·rintro ⟨x5, x6⟩ ⟨s21, ss1⟩
  refine TC.seq <| TC.seq <| TC.region <| TL.mv (.int .i64 x6) <| TL.fa Tryz.underlying88 rfl Tryz.sizeOf36 rfl 0 rfl rfl rfl rfl <| TL.load1 0 (Src.box 0 rfl) Tryz.isAgg36 rfl rfl rfl rfl rfl ?_
  refine TL.len (Rd.row 1 rfl) Tryz.underlying36 rfl rfl rfl <| TL.bn .i64 x6 (y4.length : Int) (.bool (decide (x6 < (y4.length : Int)))) <| TL.done ?_
  refine TC.cond (b := (decide (x6 < (y4.length : Int)))) rfl (fun c5 => ?_) (fun c6 => ?_)
  ·refine TC.skip <| TC.seq <| TC.block (NoEx.loop1 rfl) <| TC.seq <| TC.region ?_
   refine TL.bslice0 Ei Tryz.underlying36 Tryz.sizeOf2 rfl rfl fun s22 => ?_
   refine TL.bslice0 Ei Tryz.underlying36 Tryz.sizeOf2 rfl rfl fun s23 => ?_
   refine TL.buildS (segs0 := [.one (.int .i64 0), .one (SV.v ⟨none, 0, 0⟩), .one (SV.v ⟨none, 0, 0⟩)]) (segs := [.one (.int .i64 0), .one (SV.v s22), .one (SV.v s23)]) [1, 1, 1] Tryz.underlying44 ⟨Tryz.sizeOf2, Tryz.sizeOf36, Tryz.sizeOf36, trivial⟩ Tryz.zeroValue44 rfl [(1, SV.v s22), (2, SV.v s23)] rfl (fun pl hpl => by subst hpl; exact fill_one 1 rfl rfl rfl rfl (fill_one 2 rfl rfl rfl rfl (rfl))) rfl rfl ?_
   refine TL.alloc [.one (.int .i64 0), .one (SV.v ⟨none, 0, 0⟩), .one (SV.v ⟨none, 0, 0⟩)] rfl rfl Tryz.zeroValue44 rfl fun b_3 => ?_
   refine TL.stM (news := [.one (.int .i64 0), .one (SV.v s22), .one (SV.v s23)]) 0 0 3 rfl Tryz.sizeOf44 (ones_one rfl (ones_one rfl (ones_one rfl ones_nil))) rfl rfl rfl rfl rfl rfl ?_
   refine TL.as (.int .i64 0) <| TL.as (.bool false) <| TL.done <| TC.seq <| TC.seq <| TC.region ?_
   refine TL.as (.int .i64 0) <| TL.done ?_
   refine TC.loop1 (σ := Int × Bool × Int) (γ := Unit) (Γ' := (fun p q => match p, q with | (x7, x8, x9), _ => [(7, bp b_1 0), (8, SV.v s6), (13, SV.v s21), (14, .int .i64 x6), (15, bp b_3 0), (16, .int .i64 x7), (17, .bool x8), (18, .int .i64 x9)])) (L' := (fun p q => match p, q with | (x7, x8, x9), _ => [box b_1 88 [.one (SV.v s14), .one (SV.v s15), .one (SV.v s16)], row Ei 2 s14 y4, row Ei 2 s15 y5, row Ei 2 s16 y6, row Ei 2 s6 x2, pmat 2 44 s21 ss1 x5, box b_3 44 [.one (.int .i64 0), .one (SV.v s22), .one (SV.v s23)], row Ei 2 s22 ([] : List Int), row Ei 2 s23 ([] : List Int)])) (Γb := (fun p q => match p, q with | (x7, x8, x9), _ => [(7, bp b_1 0), (8, SV.v s6), (13, SV.v s21), (14, .int .i64 x6), (15, bp b_3 0), (16, .int .i64 x7), (17, .bool x8), (18, .int .i64 x9)])) (Lb := (fun p q => match p, q with | (x7, x8, x9), _ => [box b_1 88 [.one (SV.v s14), .one (SV.v s15), .one (SV.v s16)], row Ei 2 s14 y4, row Ei 2 s15 y5, row Ei 2 s16 y6, row Ei 2 s6 x2, pmat 2 44 s21 ss1 x5, box b_3 44 [.one (.int .i64 0), .one (SV.v s22), .one (SV.v s23)], row Ei 2 s22 ([] : List Int), row Ei 2 s23 ([] : List Int)])) ((0, false, 0)) (()) ⟨rfl, rfl, rfl, rfl, rfl, rfl, rfl, rfl, trivial⟩ [3, 3, 3, 3, 3, 3, 0, 1, 0] rfl ?_ ?_
   ·rintro ⟨x7, x8, x9⟩ _
    refine TC.seq <| TC.seq <| TC.region <| TL.mv (.int .i64 x9) <| TL.fa Tryz.underlying88 rfl Tryz.sizeOf36 rfl 0 rfl rfl rfl rfl <| TL.load1 0 (Src.box 0 rfl) Tryz.isAgg36 rfl rfl rfl rfl rfl ?_
    refine TL.len (Rd.row 1 rfl) Tryz.underlying36 rfl rfl rfl <| TL.bn .i64 x9 (y4.length : Int) (.bool (decide (x9 < (y4.length : Int)))) <| TL.done ?_
    refine TC.cond (b := (decide (x9 < (y4.length : Int)))) rfl (fun c7 => ?_) (fun c8 => ?_)
    ·refine TC.skip <| TC.seq <| TC.block (NoEx.loop1 rfl) <| TC.seq <| TC.region <| TL.fa Tryz.underlying88 rfl Tryz.sizeOf36 rfl 0 rfl rfl rfl rfl ?_
     refine TL.load1 0 (Src.box 0 rfl) Tryz.isAgg36 rfl rfl rfl rfl rfl <| TL.mv (.int .i64 x9) ?_
     refine TL.chk fun h4 => ?_
     refine TL.ixs x9 x9.toNat (Rd.row 1 rfl) h4 Tryz.underlying36 Tryz.sizeOf2 rfl rfl rfl rfl (by omega) ?_
     refine TL.loadE (Rd.row 1 rfl) Tryz.isAgg2 x9.toNat 0 (gt_spec h4) (v := .int .i64 (gt y4 x9)) rfl (by simp only [show Ei.sz = 1 from rfl] <;> omega) rfl rfl rfl ?_
     refine TL.mv (.int .i64 x6) <| TL.bn .i64 (gt y4 x9) x6 (.bool ((gt y4 x9) == x6)) <| TL.done ?_
     refine TC.join1 (σ := Int × Bool) (γ := Unit) (Γ' := (fun p q => match p, q with | (x10, x11), _ => [(7, bp b_1 0), (8, SV.v s6), (13, SV.v s21), (14, .int .i64 x6), (15, bp b_3 0), (16, .int .i64 x10), (17, .bool x11), (18, .int .i64 x9)])) (L' := (fun p q => match p, q with | (x10, x11), _ => [box b_1 88 [.one (SV.v s14), .one (SV.v s15), .one (SV.v s16)], row Ei 2 s14 y4, row Ei 2 s15 y5, row Ei 2 s16 y6, row Ei 2 s6 x2, pmat 2 44 s21 ss1 x5, box b_3 44 [.one (.int .i64 0), .one (SV.v s22), .one (SV.v s23)], row Ei 2 s22 ([] : List Int), row Ei 2 s23 ([] : List Int)])) ?_ ?_
     ·refine TC.cond (b := ((gt y4 x9) == x6)) rfl (fun c9 => ?_) (fun c10 => ?_)
      ·refine TC.seq <| TC.region <| TL.mv (.int .i64 x7) <| TL.fa Tryz.underlying88 rfl Tryz.sizeOf36 rfl 1 rfl rfl rfl rfl <| TL.load1 1 (Src.box 0 rfl) Tryz.isAgg36 rfl rfl rfl rfl rfl <| TL.mv (.int .i64 x9) ?_
       refine TL.chk fun h5 => ?_
       refine TL.ixs x9 x9.toNat (Rd.row 2 rfl) h5 Tryz.underlying36 Tryz.sizeOf2 rfl rfl rfl rfl (by omega) ?_
       refine TL.loadE (Rd.row 2 rfl) Tryz.isAgg2 x9.toNat 0 (gt_spec h5) (v := .int .i64 (gt y5 x9)) rfl (by simp only [show Ei.sz = 1 from rfl] <;> omega) rfl rfl rfl ?_
       refine TL.bn .i64 x7 (gt y5 x9) (.int .i64 (w64 (x7 + (gt y5 x9)))) <| TL.as (.int .i64 (w64 (x7 + (gt y5 x9)))) <| TL.done <| TC.region <| TL.as (.bool true) <| TL.done ?_
       exact TC.nrm (((w64 (x7 + (gt y5 x9))), true)) (()) ⟨rfl, rfl, rfl, rfl, rfl, rfl, rfl, rfl, trivial⟩ [0, 0, 0, 0, 0, 0, 0, 0, 0] rfl
      exact TC.skip <| TC.nrm ((x7, x8)) (()) ⟨rfl, rfl, rfl, rfl, rfl, rfl, rfl, rfl, trivial⟩ [0, 0, 0, 0, 0, 0, 0, 0, 0] rfl
     rintro ⟨x10, x11⟩ _
     refine TC.region <| TL.mv (.int .i64 x9) <| TL.bn .i64 x9 1 (.int .i64 (w64 (x9 + 1))) <| TL.as (.int .i64 (w64 (x9 + 1))) <| TL.done ?_
     exact TC.next1 ((x10, x11, (w64 (x9 + 1)))) (()) ⟨rfl, rfl, rfl, rfl, rfl, rfl, rfl, rfl, trivial⟩ [0, 0, 0, 0, 0, 0, 0, 0, 0] rfl
    exact TC.brk1 ((x7, x8, x9)) (()) ⟨rfl, rfl, rfl, rfl, rfl, rfl, rfl, rfl, trivial⟩ [0, 0, 0, 0, 0, 0, 0, 0, 0] rfl
   rintro ⟨x7, x8, x9⟩ _
   refine TC.seq <| TC.seq <| TC.region <| TL.as (.int .i64 0) <| TL.done ?_
   refine TC.loop1 (σ := (List Int) × Int) (γ := SV) (Γ' := (fun p q => match p, q with | (y7, x12), s24 => [(7, bp b_1 0), (8, SV.v s6), (13, SV.v s21), (14, .int .i64 x6), (15, bp b_3 0), (16, .int .i64 x7), (17, .bool x8), (19, .int .i64 x12)])) (L' := (fun p q => match p, q with | (y7, x12), s24 => [box b_1 88 [.one (SV.v s14), .one (SV.v s15), .one (SV.v s16)], row Ei 2 s14 y4, row Ei 2 s15 y5, row Ei 2 s16 y6, row Ei 2 s6 x2, pmat 2 44 s21 ss1 x5, box b_3 44 [.one (.int .i64 0), .one (SV.v s24), .one (SV.v s23)], row Ei 2 s24 y7, row Ei 2 s23 ([] : List Int)])) (Γb := (fun p q => match p, q with | (y7, x12), s24 => [(7, bp b_1 0), (8, SV.v s6), (13, SV.v s21), (14, .int .i64 x6), (15, bp b_3 0), (16, .int .i64 x7), (17, .bool x8), (19, .int .i64 x12)])) (Lb := (fun p q => match p, q with | (y7, x12), s24 => [box b_1 88 [.one (SV.v s14), .one (SV.v s15), .one (SV.v s16)], row Ei 2 s14 y4, row Ei 2 s15 y5, row Ei 2 s16 y6, row Ei 2 s6 x2, pmat 2 44 s21 ss1 x5, box b_3 44 [.one (.int .i64 0), .one (SV.v s24), .one (SV.v s23)], row Ei 2 s24 y7, row Ei 2 s23 ([] : List Int)])) ((([] : List Int), 0)) (s22) ⟨rfl, rfl, rfl, rfl, rfl, rfl, rfl, rfl, trivial⟩ [0, 0, 0, 0, 0, 0, 0, 0, 0] rfl ?_ ?_
   ·rintro ⟨y7, x12⟩ s24
    refine TC.seq <| TC.seq <| TC.region <| TL.mv (.int .i64 x12) <| TL.mv (SV.v s6) <| TL.len (Rd.row 4 rfl) Tryz.underlying36 rfl rfl rfl ?_
    refine TL.bn .i64 x12 (x2.length : Int) (.bool (decide (x12 < (x2.length : Int)))) <| TL.done ?_
    refine TC.cond (b := (decide (x12 < (x2.length : Int)))) rfl (fun c11 => ?_) (fun c12 => ?_)
    ·refine TC.skip <| TC.seq <| TC.block (NoEx.loop1 rfl) <| TC.seq ?_
     refine TC.wk (Γ' := [(7, bp b_1 0), (8, SV.v s6), (13, SV.v s21), (14, .int .i64 x6), (15, bp b_3 0), (16, .int .i64 x7), (17, .bool x8), (19, .int .i64 x12), (98, .int .i64 x12), (99, SV.v s6), (100, .int .i64 (x2.length : Int)), (101, .bool (decide (x12 < (x2.length : Int))))]) ⟨rfl, rfl, rfl, rfl, rfl, rfl, rfl, rfl, rfl, rfl, rfl, rfl, trivial⟩ ?_
     refine TC.chk fun h6 => ?_
     refine TC.chk fun h7 => ?_
     refine TC.draw [bp b_1 0, SV.v s14, SV.v s6, .int .i64 x12, ep s6 x12.toNat, .int .i64 (gt x2 x12), ep s14 ((gt x2 x12).toNat), .int .i64 (gt y4 (gt x2 x12)), .int .i64 x6, .bool ((gt y4 (gt x2 x12)) == x6)] 10 [box b_1 88 [.one (SV.v s14), .one (SV.v s15), .one (SV.v s16)], row Ei 2 s14 y4, row Ei 2 s15 y5, row Ei 2 s16 y6, row Ei 2 s6 x2, pmat 2 44 s21 ss1 x5, box b_3 44 [.one (.int .i64 0), .one (SV.v s24), .one (SV.v s23)], row Ei 2 s24 y7, row Ei 2 s23 ([] : List Int)] (by kernel_rfl) rfl rfl rfl rfl ?_ ?_
     ·refine ⟨?_, ?_, ?_, ?_, ?_, ?_, ?_, ?_, ?_, ?_, trivial⟩
      ·exact TL.fa Tryz.underlying88 rfl Tryz.sizeOf36 rfl 0 rfl rfl rfl rfl <| TL.done <| TC.n0 [0, 0, 0, 0, 0, 0, 0, 0, 0]
      ·exact TL.load1 0 (Src.box 0 rfl) Tryz.isAgg36 rfl rfl rfl rfl rfl <| TL.done <| TC.n0 [0, 0, 0, 0, 0, 0, 0, 0, 0]
      ·exact TL.mv (SV.v s6) <| TL.done <| TC.n0 [0, 0, 0, 0, 0, 0, 0, 0, 0]
      ·exact TL.mv (.int .i64 x12) <| TL.done <| TC.n0 [0, 0, 0, 0, 0, 0, 0, 0, 0]
      ·exact TL.ixs x12 x12.toNat (Rd.row 4 rfl) h6 Tryz.underlying36 Tryz.sizeOf2 rfl rfl rfl rfl (by omega) <| TL.done <| TC.n0 [0, 0, 0, 0, 0, 0, 0, 0, 0]
      ·refine TL.loadE (Rd.row 4 rfl) Tryz.isAgg2 x12.toNat 0 (gt_spec h6) (v := .int .i64 (gt x2 x12)) rfl (by simp only [show Ei.sz = 1 from rfl] <;> omega) rfl rfl rfl ?_
       exact TL.done <| TC.n0 [0, 0, 0, 0, 0, 0, 0, 0, 0]
      ·exact TL.ixs (gt x2 x12) ((gt x2 x12).toNat) (Rd.row 1 rfl) h7 Tryz.underlying36 Tryz.sizeOf2 rfl rfl rfl rfl (by omega) <| TL.done <| TC.n0 [0, 0, 0, 0, 0, 0, 0, 0, 0]
      ·refine TL.loadE (Rd.row 1 rfl) Tryz.isAgg2 (gt x2 x12).toNat 0 (gt_spec h7) (v := .int .i64 (gt y4 (gt x2 x12))) rfl (by simp only [show Ei.sz = 1 from rfl] <;> omega) rfl rfl rfl ?_
       exact TL.done <| TC.n0 [0, 0, 0, 0, 0, 0, 0, 0, 0]
      ·exact TL.mv (.int .i64 x6) <| TL.done <| TC.n0 [0, 0, 0, 0, 0, 0, 0, 0, 0]
      exact TL.bn .i64 (gt y4 (gt x2 x12)) x6 (.bool ((gt y4 (gt x2 x12)) == x6)) <| TL.done <| TC.n0 [0, 0, 0, 0, 0, 0, 0, 0, 0]
     refine TC.join1 (σ := (List Int)) (γ := SV) (Γ' := (fun y8 s25 => [(7, bp b_1 0), (8, SV.v s6), (13, SV.v s21), (14, .int .i64 x6), (15, bp b_3 0), (16, .int .i64 x7), (17, .bool x8), (19, .int .i64 x12)])) (L' := (fun y8 s25 => [box b_1 88 [.one (SV.v s14), .one (SV.v s15), .one (SV.v s16)], row Ei 2 s14 y4, row Ei 2 s15 y5, row Ei 2 s16 y6, row Ei 2 s6 x2, pmat 2 44 s21 ss1 x5, box b_3 44 [.one (.int .i64 0), .one (SV.v s25), .one (SV.v s23)], row Ei 2 s25 y8, row Ei 2 s23 ([] : List Int)])) ?_ ?_
     ·refine TC.cond (b := ((gt y4 (gt x2 x12)) == x6)) rfl (fun c13 => ?_) (fun c14 => ?_)
      ·refine TC.region <| TL.fa Tryz.underlying44 rfl Tryz.sizeOf36 rfl 1 rfl rfl rfl rfl <| TL.load1 1 (Src.box 6 rfl) Tryz.isAgg36 rfl rfl rfl rfl rfl <| TL.mv (.int .i64 x12) ?_
       refine TL.blit Ei ([x12] : List Int) Tryz.underlying36 Tryz.sizeOf2 Tryz.zeroValue2 rfl rfl rfl [(0, .int .i64 x12)] rfl ⟨rfl, rfl, trivial⟩ rfl rfl fun s26 => ?_
       refine TL.small fun h8 => ?_
       refine TL.append 8 rfl (Rd.row 0 rfl) Tryz.underlying36 (info_of Tryz.type2) (zv := (Tryz.t2.zero.getD (.bool false))) rfl rfl rfl (by decide) h8 rfl rfl rfl rfl fun s27 => ?_
       refine TL.fa Tryz.underlying44 rfl Tryz.sizeOf36 rfl 1 rfl rfl rfl rfl ?_
       refine TL.st1 7 1 rfl Tryz.sizeOf36 rfl rfl rfl rfl rfl rfl rfl ?_
       exact TL.done <| TC.nrm ((y7 ++ ([x12] : List Int))) (s27) ⟨rfl, rfl, rfl, rfl, rfl, rfl, rfl, rfl, trivial⟩ [1, 1, 1, 1, 1, 1, 1, 1, 1] rfl
      exact TC.skip <| TC.nrm (y7) (s24) ⟨rfl, rfl, rfl, rfl, rfl, rfl, rfl, rfl, trivial⟩ [0, 0, 0, 0, 0, 0, 0, 0, 0] rfl
     rintro y8 s25
     refine TC.region <| TL.mv (.int .i64 x12) <| TL.bn .i64 x12 1 (.int .i64 (w64 (x12 + 1))) <| TL.as (.int .i64 (w64 (x12 + 1))) <| TL.done ?_
     exact TC.next1 ((y8, (w64 (x12 + 1)))) (s25) ⟨rfl, rfl, rfl, rfl, rfl, rfl, rfl, rfl, trivial⟩ [0, 0, 0, 0, 0, 0, 0, 0, 0] rfl
    exact TC.brk1 ((y7, x12)) (s24) ⟨rfl, rfl, rfl, rfl, rfl, rfl, rfl, rfl, trivial⟩ [0, 0, 0, 0, 0, 0, 0, 0, 0] rfl
   rintro ⟨y7, x12⟩ s24
   refine TC.seq <| TC.seq <| TC.region <| TL.as (.int .i64 0) <| TL.done ?_
   refine TC.loop1 (σ := (List Int) × Int) (γ := SV) (Γ' := (fun p q => match p, q with | (y9, x13), s28 => [(7, bp b_1 0), (8, SV.v s6), (13, SV.v s21), (14, .int .i64 x6), (15, bp b_3 0), (16, .int .i64 x7), (17, .bool x8), (20, .int .i64 x13)])) (L' := (fun p q => match p, q with | (y9, x13), s28 => [box b_1 88 [.one (SV.v s14), .one (SV.v s15), .one (SV.v s16)], row Ei 2 s14 y4, row Ei 2 s15 y5, row Ei 2 s16 y6, row Ei 2 s6 x2, pmat 2 44 s21 ss1 x5, box b_3 44 [.one (.int .i64 0), .one (SV.v s24), .one (SV.v s28)], row Ei 2 s24 y7, row Ei 2 s28 y9])) (Γb := (fun p q => match p, q with | (y9, x13), s28 => [(7, bp b_1 0), (8, SV.v s6), (13, SV.v s21), (14, .int .i64 x6), (15, bp b_3 0), (16, .int .i64 x7), (17, .bool x8), (20, .int .i64 x13)])) (Lb := (fun p q => match p, q with | (y9, x13), s28 => [box b_1 88 [.one (SV.v s14), .one (SV.v s15), .one (SV.v s16)], row Ei 2 s14 y4, row Ei 2 s15 y5, row Ei 2 s16 y6, row Ei 2 s6 x2, pmat 2 44 s21 ss1 x5, box b_3 44 [.one (.int .i64 0), .one (SV.v s24), .one (SV.v s28)], row Ei 2 s24 y7, row Ei 2 s28 y9])) ((([] : List Int), 0)) (s23) ⟨rfl, rfl, rfl, rfl, rfl, rfl, rfl, rfl, trivial⟩ [0, 0, 0, 0, 0, 0, 0, 0, 0] rfl ?_ ?_
   ·rintro ⟨y9, x13⟩ s28
    refine TC.seq <| TC.seq <| TC.region <| TL.mv (.int .i64 x13) <| TL.fa Tryz.underlying88 rfl Tryz.sizeOf36 rfl 2 rfl rfl rfl rfl <| TL.load1 2 (Src.box 0 rfl) Tryz.isAgg36 rfl rfl rfl rfl rfl ?_
    refine TL.len (Rd.row 3 rfl) Tryz.underlying36 rfl rfl rfl <| TL.bn .i64 x13 (y6.length : Int) (.bool (decide (x13 < (y6.length : Int)))) <| TL.done ?_
    refine TC.cond (b := (decide (x13 < (y6.length : Int)))) rfl (fun c15 => ?_) (fun c16 => ?_)
    ·refine TC.skip <| TC.seq <| TC.block (NoEx.loop1 rfl) <| TC.seq ?_
     refine TC.wk (Γ' := [(7, bp b_1 0), (8, SV.v s6), (13, SV.v s21), (14, .int .i64 x6), (15, bp b_3 0), (16, .int .i64 x7), (17, .bool x8), (20, .int .i64 x13), (120, .int .i64 x13), (121, bp b_1 2), (122, SV.v s16), (123, .int .i64 (y6.length : Int)), (124, .bool (decide (x13 < (y6.length : Int))))]) ⟨rfl, rfl, rfl, rfl, rfl, rfl, rfl, rfl, rfl, rfl, rfl, rfl, rfl, trivial⟩ ?_
     refine TC.chk fun h9 => ?_
     refine TC.chk fun h10 => ?_
     refine TC.draw [bp b_1 0, SV.v s14, bp b_1 2, SV.v s16, .int .i64 x13, ep s16 x13.toNat, .int .i64 (gt y6 x13), ep s14 ((gt y6 x13).toNat), .int .i64 (gt y4 (gt y6 x13)), .int .i64 x6, .bool ((gt y4 (gt y6 x13)) == x6)] 11 [box b_1 88 [.one (SV.v s14), .one (SV.v s15), .one (SV.v s16)], row Ei 2 s14 y4, row Ei 2 s15 y5, row Ei 2 s16 y6, row Ei 2 s6 x2, pmat 2 44 s21 ss1 x5, box b_3 44 [.one (.int .i64 0), .one (SV.v s24), .one (SV.v s28)], row Ei 2 s24 y7, row Ei 2 s28 y9] (by kernel_rfl) rfl rfl rfl rfl ?_ ?_
     ·refine ⟨?_, ?_, ?_, ?_, ?_, ?_, ?_, ?_, ?_, ?_, ?_, trivial⟩
      ·exact TL.fa Tryz.underlying88 rfl Tryz.sizeOf36 rfl 0 rfl rfl rfl rfl <| TL.done <| TC.n0 [0, 0, 0, 0, 0, 0, 0, 0, 0]
      ·exact TL.load1 0 (Src.box 0 rfl) Tryz.isAgg36 rfl rfl rfl rfl rfl <| TL.done <| TC.n0 [0, 0, 0, 0, 0, 0, 0, 0, 0]
      ·exact TL.fa Tryz.underlying88 rfl Tryz.sizeOf36 rfl 2 rfl rfl rfl rfl <| TL.done <| TC.n0 [0, 0, 0, 0, 0, 0, 0, 0, 0]
      ·exact TL.load1 2 (Src.box 0 rfl) Tryz.isAgg36 rfl rfl rfl rfl rfl <| TL.done <| TC.n0 [0, 0, 0, 0, 0, 0, 0, 0, 0]
      ·exact TL.mv (.int .i64 x13) <| TL.done <| TC.n0 [0, 0, 0, 0, 0, 0, 0, 0, 0]
      ·exact TL.ixs x13 x13.toNat (Rd.row 3 rfl) h9 Tryz.underlying36 Tryz.sizeOf2 rfl rfl rfl rfl (by omega) <| TL.done <| TC.n0 [0, 0, 0, 0, 0, 0, 0, 0, 0]
      ·refine TL.loadE (Rd.row 3 rfl) Tryz.isAgg2 x13.toNat 0 (gt_spec h9) (v := .int .i64 (gt y6 x13)) rfl (by simp only [show Ei.sz = 1 from rfl] <;> omega) rfl rfl rfl ?_
       exact TL.done <| TC.n0 [0, 0, 0, 0, 0, 0, 0, 0, 0]
      ·exact TL.ixs (gt y6 x13) ((gt y6 x13).toNat) (Rd.row 1 rfl) h10 Tryz.underlying36 Tryz.sizeOf2 rfl rfl rfl rfl (by omega) <| TL.done <| TC.n0 [0, 0, 0, 0, 0, 0, 0, 0, 0]
      ·refine TL.loadE (Rd.row 1 rfl) Tryz.isAgg2 (gt y6 x13).toNat 0 (gt_spec h10) (v := .int .i64 (gt y4 (gt y6 x13))) rfl (by simp only [show Ei.sz = 1 from rfl] <;> omega) rfl rfl rfl ?_
       exact TL.done <| TC.n0 [0, 0, 0, 0, 0, 0, 0, 0, 0]
      ·exact TL.mv (.int .i64 x6) <| TL.done <| TC.n0 [0, 0, 0, 0, 0, 0, 0, 0, 0]
      exact TL.bn .i64 (gt y4 (gt y6 x13)) x6 (.bool ((gt y4 (gt y6 x13)) == x6)) <| TL.done <| TC.n0 [0, 0, 0, 0, 0, 0, 0, 0, 0]
     refine TC.join1 (σ := (List Int)) (γ := SV) (Γ' := (fun y10 s29 => [(7, bp b_1 0), (8, SV.v s6), (13, SV.v s21), (14, .int .i64 x6), (15, bp b_3 0), (16, .int .i64 x7), (17, .bool x8), (20, .int .i64 x13)])) (L' := (fun y10 s29 => [box b_1 88 [.one (SV.v s14), .one (SV.v s15), .one (SV.v s16)], row Ei 2 s14 y4, row Ei 2 s15 y5, row Ei 2 s16 y6, row Ei 2 s6 x2, pmat 2 44 s21 ss1 x5, box b_3 44 [.one (.int .i64 0), .one (SV.v s24), .one (SV.v s29)], row Ei 2 s24 y7, row Ei 2 s29 y10])) ?_ ?_
     ·refine TC.cond (b := ((gt y4 (gt y6 x13)) == x6)) rfl (fun c17 => ?_) (fun c18 => ?_)
      ·refine TC.region <| TL.fa Tryz.underlying44 rfl Tryz.sizeOf36 rfl 2 rfl rfl rfl rfl <| TL.load1 2 (Src.box 6 rfl) Tryz.isAgg36 rfl rfl rfl rfl rfl <| TL.mv (.int .i64 x13) ?_
       refine TL.blit Ei ([x13] : List Int) Tryz.underlying36 Tryz.sizeOf2 Tryz.zeroValue2 rfl rfl rfl [(0, .int .i64 x13)] rfl ⟨rfl, rfl, trivial⟩ rfl rfl fun s30 => ?_
       refine TL.small fun h11 => ?_
       refine TL.append 9 rfl (Rd.row 0 rfl) Tryz.underlying36 (info_of Tryz.type2) (zv := (Tryz.t2.zero.getD (.bool false))) rfl rfl rfl (by decide) h11 rfl rfl rfl rfl fun s31 => ?_
       refine TL.fa Tryz.underlying44 rfl Tryz.sizeOf36 rfl 2 rfl rfl rfl rfl ?_
       refine TL.st1 7 2 rfl Tryz.sizeOf36 rfl rfl rfl rfl rfl rfl rfl ?_
       exact TL.done <| TC.nrm ((y9 ++ ([x13] : List Int))) (s31) ⟨rfl, rfl, rfl, rfl, rfl, rfl, rfl, rfl, trivial⟩ [1, 1, 1, 1, 1, 1, 1, 1, 1] rfl
      exact TC.skip <| TC.nrm (y9) (s28) ⟨rfl, rfl, rfl, rfl, rfl, rfl, rfl, rfl, trivial⟩ [0, 0, 0, 0, 0, 0, 0, 0, 0] rfl
     rintro y10 s29
     refine TC.region <| TL.mv (.int .i64 x13) <| TL.bn .i64 x13 1 (.int .i64 (w64 (x13 + 1))) <| TL.as (.int .i64 (w64 (x13 + 1))) <| TL.done ?_
     exact TC.next1 ((y10, (w64 (x13 + 1)))) (s29) ⟨rfl, rfl, rfl, rfl, rfl, rfl, rfl, rfl, trivial⟩ [0, 0, 0, 0, 0, 0, 0, 0, 0] rfl
    exact TC.brk1 ((y9, x13)) (s28) ⟨rfl, rfl, rfl, rfl, rfl, rfl, rfl, rfl, trivial⟩ [0, 0, 0, 0, 0, 0, 0, 0, 0] rfl
   rintro ⟨y9, x13⟩ s28
   refine TC.seq <| TC.region <| TL.fa Tryz.underlying44 rfl Tryz.sizeOf36 rfl 1 rfl rfl rfl rfl <| TL.load1 1 (Src.box 6 rfl) Tryz.isAgg36 rfl rfl rfl rfl rfl <| TL.len (Rd.row 7 rfl) Tryz.underlying36 rfl rfl rfl <| TL.fa Tryz.underlying44 rfl Tryz.sizeOf36 rfl 2 rfl rfl rfl rfl ?_
   refine TL.load1 2 (Src.box 6 rfl) Tryz.isAgg36 rfl rfl rfl rfl rfl <| TL.len (Rd.row 8 rfl) Tryz.underlying36 rfl rfl rfl <| TL.bn .i64 (y7.length : Int) (y9.length : Int) (.int .i64 (w64 ((y7.length : Int) + (y9.length : Int)))) <| TL.bn .i64 2 (w64 ((y7.length : Int) + (y9.length : Int))) (.int .i64 (w64 (2 - (w64 ((y7.length : Int) + (y9.length : Int)))))) <| TL.mv (.int .i64 x7) <| TL.bn .i64 (w64 (2 - (w64 ((y7.length : Int) + (y9.length : Int))))) x7 (.int .i64 (w64 ((w64 (2 - (w64 ((y7.length : Int) + (y9.length : Int))))) - x7))) ?_
   refine TL.quo .i64 (w64 ((w64 (2 - (w64 ((y7.length : Int) + (y9.length : Int))))) - x7)) 2 (by decide) rfl rfl rfl rfl ?_
   refine TL.fa Tryz.underlying44 rfl Tryz.sizeOf2 rfl 0 rfl rfl rfl rfl ?_
   refine TL.st1 6 0 rfl Tryz.sizeOf2 rfl rfl rfl rfl rfl rfl rfl ?_
   refine TL.done <| TC.seq <| TC.region <| TL.mv (.bool x8) <| TL.done ?_
   refine TC.join1 (σ := (List (Int × (List Int) × (List Int)))) (γ := SV × (List (Int × SV × SV))) (Γ' := (fun p q => match p, q with | x14, (s32, ss2) => [(7, bp b_1 0), (8, SV.v s6), (13, SV.v s32), (14, .int .i64 x6)])) (L' := (fun p q => match p, q with | x14, (s32, ss2) => [box b_1 88 [.one (SV.v s14), .one (SV.v s15), .one (SV.v s16)], row Ei 2 s14 y4, row Ei 2 s15 y5, row Ei 2 s16 y6, row Ei 2 s6 x2, pmat 2 44 s32 ss2 x14])) ?_ ?_
   ·refine TC.cond (b := x8) rfl (fun c19 => ?_) (fun c20 => ?_)
    ·refine TC.region <| TL.mv (SV.v s21) <| TL.loadM 0 3 (Src.box 6 rfl) Tryz.isAgg44 Tryz.sizeOf44 (mid := [.one (.int .i64 (w64 (Int.tdiv (w64 ((w64 (2 - (w64 ((y7.length : Int) + (y9.length : Int))))) - x7)) 2))), .one (SV.v s24), .one (SV.v s28)]) rfl rfl rfl rfl rfl rfl ?_
     refine TL.callX (R := G.spec_l04Put.R) [5, 6, 6, 0, 0, 0, 0, 0, 0] [pmat 2 44 s21 ss1 x5, row Ei 2 s24 y7, row Ei 2 s28 y9] [box b_1 88 [.one (SV.v s14), .one (SV.v s15), .one (SV.v s16)], row Ei 2 s14 y4, row Ei 2 s15 y5, row Ei 2 s16 y6, row Ei 2 s6 x2, box b_3 44 [.one (.int .i64 (w64 (Int.tdiv (w64 ((w64 (2 - (w64 ((y7.length : Int) + (y9.length : Int))))) - x7)) 2))), .one (SV.v s24), .one (SV.v s28)]] rfl Tryz.call63 rfl rfl rfl (fun w I_ hle hB hS => G.spec_l04Put.calls _ I_ w s21 ss1 x5 (w64 (Int.tdiv (w64 ((w64 (2 - (w64 ((y7.length : Int) + (y9.length : Int))))) - x7)) 2)) s24 y7 s28 y9 hS) ?_
     rintro r_12 _ _ ⟨s33, ss3, rfl, rfl⟩
     exact TL.as (SV.v s33) <| TL.done <| TC.nrm (r_12) ((s33, ss3)) ⟨rfl, rfl, rfl, rfl, trivial⟩ [4, 4, 4, 4, 4, 0] rfl
    exact TC.skip <| TC.nrm (x5) ((s21, ss1)) ⟨rfl, rfl, rfl, rfl, trivial⟩ [0, 0, 0, 0, 0, 0] rfl
   rintro x14 ⟨s32, ss2⟩
   refine TC.region <| TL.mv (.int .i64 x6) <| TL.bn .i64 x6 1 (.int .i64 (w64 (x6 + 1))) <| TL.as (.int .i64 (w64 (x6 + 1))) <| TL.done ?_
   exact TC.next1 ((x14, (w64 (x6 + 1)))) ((s32, ss2)) ⟨rfl, rfl, rfl, rfl, trivial⟩ [0, 0, 0, 0, 0, 0] rfl
  exact TC.brk1 ((x5, x6)) ((s21, ss1)) ⟨rfl, rfl, rfl, rfl, trivial⟩ [0, 0, 0, 0, 0, 0] rfl
 rintro ⟨x5, x6⟩ ⟨s21, ss1⟩
 exact TC.seq <| TC.region <| TL.mv (SV.v s21) <| TL.as (SV.v s21) <| TL.done <| TC.retF (Fin.body (fin1 (.inr rfl) rfl (.tmp rfl) [5] rfl ⟨s21, ss1, rfl, rfl⟩))
def spec_PartsOf.f (word1 : Str) : Option ((List (Int × (List Int) × (List Int))) × Int) := (G.spec_l04Is.f word1).bind (fun r_1 => (bif (!r_1) then some (([] : List (Int × (List Int) × (List Int))), 1) else (G.spec_l04Parts.f word1).bind (fun r_2 => some (r_2, 0))))
def spec_PartsOf.R (r : (List (Int × (List Int) × (List Int))) × Int) (v : Value) (L : List Asn) : Prop := ∃ (s0 : SV) (ss0 : List (Int × SV × SV)), v = .tuple #[SV.v s0, .int .i64 r.2] ∧ L = [pmat 2 44 s0 ss0 r.1]
theorem spec_PartsOf.calls (w : World) (word1 : Str) :
  ∀ r, spec_PartsOf.f word1 = some r → Calls Tryz.prog 7 #[strv word1] w (Ret w (spec_PartsOf.R r)) := by
 refine calls_T (n := 9) (Γ := [(0, strv word1)]) (R := spec_PartsOf.R) Tryz.func7 rfl rfl (Nat.le_of_ble_eq_true rfl) ⟨rfl, trivial⟩ ?_
 unfold spec_PartsOf.f
 refine TC.seq <| TC.region <| TL.as (SV.v ⟨none, 0, 0⟩) <| TL.as (.int .i64 0) <| TL.done <| TC.seq ?_
 refine TC.seq <| TC.region <| TL.mv (strv word1) ?_
 refine TL.call (R := G.spec_l04Is.R) Tryz.call29 rfl rfl rfl (fun w hS => G.spec_l04Is.calls w word1) ?_
 rintro r_1 _ _ ⟨rfl, rfl⟩
 refine TL.not r_1 rfl rfl rfl ?_
 refine TL.done ?_
 refine TC.cond (b := (!r_1)) rfl (fun c1 => ?_) (fun c2 => ?_)
 ·refine TC.seq <| TC.region <| TL.as (SV.v ⟨none, 0, 0⟩) <| TL.as (.int .i64 1) <| TL.done ?_
  refine TC.nilpmat 2 44 ?_
  exact TC.retF (Fin.body (fin2 (.inr rfl) rfl (.tmp rfl) (.tmp rfl) [0] rfl ⟨⟨none, 0, 0⟩, [], rfl, rfl⟩))
 refine TC.skip <| TC.seq <| TC.region <| TL.mv (strv word1) ?_
 refine TL.call (R := G.spec_l04Parts.R) Tryz.call30 rfl rfl rfl (fun w hS => G.spec_l04Parts.calls w word1) ?_
 rintro r_2 _ _ ⟨s1, ss1, rfl, rfl⟩
 exact TL.as (SV.v s1) <| TL.as (.int .i64 0) <| TL.done <| TC.retF (Fin.body (fin2 (.inr rfl) rfl (.tmp rfl) (.tmp rfl) [0] rfl ⟨s1, ss1, rfl, rfl⟩))
def laws_likeInts.b0 (a_1 : List Int) (b_1 : List Int) : Int → Option (LR Int Bool) := fun i1 => (bif (decide (i1 < (a_1.length : Int))) then chk i1 a_1.length (chk i1 b_1.length ((bif ((gt a_1 i1) != (gt b_1 i1)) then some (.ret (false)) else some (.next (w64 (i1 + 1)))))) else some (.brk i1))
def laws_likeInts.f (a_1 : List Int) (b_1 : List Int) : Option Bool := (bif ((a_1.length : Int) != (b_1.length : Int)) then some false else (loop (laws_likeInts.b0 a_1 b_1) 0).bind (ln (fun i1 => some true)))
def laws_likeInts.R (r : Bool) (v : Value) (L : List Asn) : Prop := v = .bool r ∧ L = []
theorem laws_likeInts.calls (w : World) (s1 : SV) (a_1 : List Int) (s2 : SV) (b_1 : List Int) (h1 : Reads Ei (hp w) s1 a_1) (h2 : Reads Ei (hp w) s2 b_1) :
  ∀ r, laws_likeInts.f a_1 b_1 = some r → Calls Tryz.prog 19 #[SV.v s1, SV.v s2] w (Ret w (laws_likeInts.R r)) := by
 refine calls_T (n := 26) (Γ := [(0, SV.v s1), (1, SV.v s2)]) (R := laws_likeInts.R) Tryz.func19 rfl rfl (Nat.le_of_ble_eq_true rfl) ⟨rfl, rfl, trivial⟩ ?_
 unfold laws_likeInts.f
 refine TC.seq <| TC.region <| TL.as (.bool false) <| TL.done <| TC.seq <| TC.seq ?_
 refine TC.region <| TL.mv (SV.v s1) <| TL.len (Rd.old h1) Tryz.underlying36 rfl rfl rfl <| TL.mv (SV.v s2) <| TL.len (Rd.old h2) Tryz.underlying36 rfl rfl rfl <| TL.bn .i64 (a_1.length : Int) (b_1.length : Int) (.bool ((a_1.length : Int) != (b_1.length : Int))) ?_
 refine TL.done ?_
 refine TC.cond (b := ((a_1.length : Int) != (b_1.length : Int))) rfl (fun c1 => ?_) (fun c2 => ?_)
 ·exact TC.seq <| TC.region <| TL.as (.bool false) <| TL.done <| TC.retF (Fin.body (fin1 (.inr rfl) rfl (.tmp rfl) [] rfl ⟨rfl, rfl⟩))
 refine TC.skip <| TC.seq <| TC.seq <| TC.region <| TL.as (.int .i64 0) <| TL.done ?_
 refine TC.loopK (σ := Int) (γ := Unit) (Γ' := (fun i1 _ => [(0, SV.v s1), (1, SV.v s2), (5, .int .i64 i1)])) (L' := (fun i1 _ => [])) (Γb := (fun i1 _ => [(0, SV.v s1), (1, SV.v s2), (5, .int .i64 i1)])) (Lb := (fun i1 _ => [])) (0) (()) ⟨rfl, rfl, rfl, trivial⟩ [] rfl ?_ ?_
 ·rintro i1 _
  refine TC.seq <| TC.seq <| TC.region <| TL.mv (.int .i64 i1) <| TL.mv (SV.v s1) <| TL.len (Rd.old h1) Tryz.underlying36 rfl rfl rfl ?_
  refine TL.bn .i64 i1 (a_1.length : Int) (.bool (decide (i1 < (a_1.length : Int)))) <| TL.done ?_
  refine TC.cond (b := (decide (i1 < (a_1.length : Int)))) rfl (fun c3 => ?_) (fun c4 => ?_)
  ·refine TC.skip <| TC.seq <| TC.block (NoEx.loop rfl NoEx.body) <| TC.seq ?_
   refine TC.wk (Γ' := [(0, SV.v s1), (1, SV.v s2), (5, .int .i64 i1), (11, .int .i64 i1), (12, SV.v s1), (13, .int .i64 (a_1.length : Int)), (14, .bool (decide (i1 < (a_1.length : Int))))]) ⟨rfl, rfl, rfl, rfl, rfl, rfl, rfl, trivial⟩ ?_
   refine TC.chk fun h3 => ?_
   refine TC.chk fun h4 => ?_
   refine TC.draw [SV.v s1, .int .i64 i1, ep s1 i1.toNat, .int .i64 (gt a_1 i1), SV.v s2, .int .i64 i1, ep s2 i1.toNat, .int .i64 (gt b_1 i1), .bool ((gt a_1 i1) != (gt b_1 i1))] 9 [] (by kernel_rfl) rfl rfl rfl rfl ?_ ?_
   ·refine ⟨?_, ?_, ?_, ?_, ?_, ?_, ?_, ?_, ?_, trivial⟩
    ·exact TL.mv (SV.v s1) <| TL.done <| TC.n0 []
    ·exact TL.mv (.int .i64 i1) <| TL.done <| TC.n0 []
    ·exact TL.ixs i1 i1.toNat (Rd.old h1) h3 Tryz.underlying36 Tryz.sizeOf2 rfl rfl rfl rfl (by omega) <| TL.done <| TC.n0 []
    ·refine TL.loadE (Rd.old h1) Tryz.isAgg2 i1.toNat 0 (gt_spec h3) (v := .int .i64 (gt a_1 i1)) rfl (by simp only [show Ei.sz = 1 from rfl] <;> omega) rfl rfl rfl ?_
     exact TL.done <| TC.n0 []
    ·exact TL.mv (SV.v s2) <| TL.done <| TC.n0 []
    ·exact TL.mv (.int .i64 i1) <| TL.done <| TC.n0 []
    ·exact TL.ixs i1 i1.toNat (Rd.old h2) h4 Tryz.underlying36 Tryz.sizeOf2 rfl rfl rfl rfl (by omega) <| TL.done <| TC.n0 []
    ·refine TL.loadE (Rd.old h2) Tryz.isAgg2 i1.toNat 0 (gt_spec h4) (v := .int .i64 (gt b_1 i1)) rfl (by simp only [show Ei.sz = 1 from rfl] <;> omega) rfl rfl rfl ?_
     exact TL.done <| TC.n0 []
    exact TL.bn .i64 (gt a_1 i1) (gt b_1 i1) (.bool ((gt a_1 i1) != (gt b_1 i1))) <| TL.done <| TC.n0 []
   refine TC.cond (b := ((gt a_1 i1) != (gt b_1 i1))) rfl (fun c5 => ?_) (fun c6 => ?_)
   ·exact TC.seq <| TC.region <| TL.as (.bool false) <| TL.done <| TC.retF (Fin.loop Far.ret (Fin.body (fin1 (.inr rfl) rfl (.tmp rfl) [] rfl ⟨rfl, rfl⟩)))
   refine TC.skip <| TC.region <| TL.mv (.int .i64 i1) <| TL.bn .i64 i1 1 (.int .i64 (w64 (i1 + 1))) <| TL.as (.int .i64 (w64 (i1 + 1))) <| TL.done ?_
   exact TC.next ((w64 (i1 + 1))) (()) ⟨rfl, rfl, rfl, trivial⟩ [] rfl
  exact TC.brk (i1) (()) ⟨rfl, rfl, rfl, trivial⟩ [] rfl
 rintro i1 _
 exact TC.seq <| TC.region <| TL.as (.bool true) <| TL.done <| TC.retF (Fin.body (fin1 (.inr rfl) rfl (.tmp rfl) [] rfl ⟨rfl, rfl⟩))
end Go.Proofs.YtpejnjpckacciaaGreatDoor.G
