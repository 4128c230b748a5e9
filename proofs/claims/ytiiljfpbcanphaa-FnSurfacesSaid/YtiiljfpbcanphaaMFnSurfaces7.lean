/- Functions of the program, as pure functions. -/
import Derived.Test.YtiiljfpbcanphaaMFnSurfaces6
import Derived.Test.YtiiljfpbcanphaaProg
/- spec.DrawOrientSurface, as a pure function. -/
set_option linter.unusedVariables false
namespace Go.Proofs.Ytiiljfpbcanphaa.G
open Go Go.Sx Go.Proofs

def spec_DrawOrientSurface.f (code1 : List UInt8) : Option (List (List Int)) := (G.spec_l01From.f code1).bind (fun p => match p with | (r_1, r_2) => (G.spec_l07Spoil.f code1 r_1 r_2).bind (fun p => match p with | (r_3, y1, y2) => some r_3))

def spec_DrawOrientSurface.R (r : List (List Int)) (v : Value) (L : List Asn) : Prop := ∃ (s0 : SV) (ss0 : List SV), v = SV.v s0 ∧ L = [mat Ei 2 22 s0 ss0 r]

set_option maxRecDepth 100000 in
set_option maxHeartbeats 4000000 in
theorem spec_DrawOrientSurface.calls (w : World) (s1 : SV) (code1 : List UInt8) (h1 : Reads Eu (hp w) s1 code1) :
  ∀ r, spec_DrawOrientSurface.f code1 = some r → Calls Try.prog 52 #[SV.v s1] w (Ret w (spec_DrawOrientSurface.R r)) := by

 refine calls_T (n := 6) (Γ := [(0, SV.v s1)]) (R := spec_DrawOrientSurface.R) Try.func52 rfl rfl (Nat.le_of_ble_eq_true rfl) ⟨rfl, trivial⟩ ?_
 unfold spec_DrawOrientSurface.f
 refine TC.seq ?_
 refine TC.region ?_
 refine TL.assign rfl rfl (v := SV.v ⟨none, 0, 0⟩) rfl ?_
 refine TL.done ?_
 refine TC.seq ?_
 refine TC.region ?_
 refine TL.move rfl rfl (v := SV.v s1) rfl ?_
 refine TL.call (R := G.spec_l01From.R s1) Try.call115 rfl rfl rfl (fun w hS => G.spec_l01From.calls w s1 code1 ((Rd.old h1) w hS)) ?_
 rintro ⟨r_1, r_2⟩ _ _ ⟨b_1, rfl, rfl⟩
 refine TL.callX (R := G.spec_l07Spoil.R b_1 s1) [0] [box b_1 143 [.one (SV.v s1), .one (.int .i64 r_1), .one (.int .u64 r_2)]] [] rfl Try.call116 rfl rfl rfl (fun w I_ hle hB hS => G.spec_l07Spoil.calls _ I_ w b_1 s1 code1 r_1 r_2 hS (h1.mono hle)) ?_
 rintro ⟨r_3, y1, y2⟩ _ _ ⟨s2, ss1, rfl, rfl⟩
 refine TL.assign rfl rfl (v := SV.v s2) rfl ?_
 refine TL.done ?_
 exact TC.retF (Fin.body (fin1 (.inr rfl) rfl (.tmp rfl) [0] rfl ⟨s2, ss1, rfl, rfl⟩))

end Go.Proofs.Ytiiljfpbcanphaa.G

/- spec.DrawGenusOf, as a pure function. -/
set_option linter.unusedVariables false
namespace Go.Proofs.Ytiiljfpbcanphaa.G
open Go Go.Sx Go.Proofs

def spec_DrawGenusOf.f (code1 : List UInt8) : Option (List (List Int)) := (G.spec_l01From.f code1).bind (fun p => match p with | (r_1, r_2) => (G.spec_l07Spoil.f code1 r_1 r_2).bind (fun p => match p with | (r_3, y1, y2) => some r_3))

def spec_DrawGenusOf.R (r : List (List Int)) (v : Value) (L : List Asn) : Prop := ∃ (s0 : SV) (ss0 : List SV), v = SV.v s0 ∧ L = [mat Ei 2 22 s0 ss0 r]

set_option maxRecDepth 100000 in
set_option maxHeartbeats 4000000 in
theorem spec_DrawGenusOf.calls (w : World) (s1 : SV) (code1 : List UInt8) (h1 : Reads Eu (hp w) s1 code1) :
  ∀ r, spec_DrawGenusOf.f code1 = some r → Calls Try.prog 53 #[SV.v s1] w (Ret w (spec_DrawGenusOf.R r)) := by

 refine calls_T (n := 6) (Γ := [(0, SV.v s1)]) (R := spec_DrawGenusOf.R) Try.func53 rfl rfl (Nat.le_of_ble_eq_true rfl) ⟨rfl, trivial⟩ ?_
 unfold spec_DrawGenusOf.f
 refine TC.seq ?_
 refine TC.region ?_
 refine TL.assign rfl rfl (v := SV.v ⟨none, 0, 0⟩) rfl ?_
 refine TL.done ?_
 refine TC.seq ?_
 refine TC.region ?_
 refine TL.move rfl rfl (v := SV.v s1) rfl ?_
 refine TL.call (R := G.spec_l01From.R s1) Try.call115 rfl rfl rfl (fun w hS => G.spec_l01From.calls w s1 code1 ((Rd.old h1) w hS)) ?_
 rintro ⟨r_1, r_2⟩ _ _ ⟨b_1, rfl, rfl⟩
 refine TL.callX (R := G.spec_l07Spoil.R b_1 s1) [0] [box b_1 143 [.one (SV.v s1), .one (.int .i64 r_1), .one (.int .u64 r_2)]] [] rfl Try.call116 rfl rfl rfl (fun w I_ hle hB hS => G.spec_l07Spoil.calls _ I_ w b_1 s1 code1 r_1 r_2 hS (h1.mono hle)) ?_
 rintro ⟨r_3, y1, y2⟩ _ _ ⟨s2, ss1, rfl, rfl⟩
 refine TL.assign rfl rfl (v := SV.v s2) rfl ?_
 refine TL.done ?_
 exact TC.retF (Fin.body (fin1 (.inr rfl) rfl (.tmp rfl) [0] rfl ⟨s2, ss1, rfl, rfl⟩))

end Go.Proofs.Ytiiljfpbcanphaa.G

/- impl.pieces, as a pure function. -/
set_option linter.unusedVariables false
namespace Go.Proofs.Ytiiljfpbcanphaa.G
open Go Go.Sx Go.Proofs

def impl_pieces.b0 (r_2 : List (List (Int × Int))) : (List Int) × Int → Option (LB ((List Int) × Int)) := fun p => match p with | (p1, x1) => (bif (decide (x1 < (((r_2.drop 1).take (r_2.length - 1)).length : Int))) then chk x1 (((r_2.drop 1).take (r_2.length - 1)).length) (chk 0 ((gt ((r_2.drop 1).take (r_2.length - 1)) x1).length) (chk 1 ((gt ((r_2.drop 1).take (r_2.length - 1)) x1).length) ((G.impl_pool_join.f p1 ((gt (gt ((r_2.drop 1).take (r_2.length - 1)) x1) 0).1) ((gt (gt ((r_2.drop 1).take (r_2.length - 1)) x1) 1).1)).bind (fun p2 => some (.next (p2, (w64 (x1 + 1)))))))) else some (.brk (p1, x1)))

def impl_pieces.f (s1 : List (List Int)) : Option Int := (G.impl_poolOf.f (s1.length : Int)).bind (fun r_1 => (G.impl_sidesOfEdges.f s1).bind (fun r_2 => grd (decide (0 ≤ 1) && decide (1 ≤ (r_2.length : Int)) && decide ((r_2.length : Int) ≤ (r_2.length : Int))) ((loop1 (impl_pieces.b0 r_2) (r_1, 0)).bind (fun p => match p with | (p1, x1) => (G.impl_pool_distinct.f p1).bind (fun r_3 => some r_3)))))

def impl_pieces.R (r : Int) (v : Value) (L : List Asn) : Prop := v = .int .i64 r ∧ L = []

set_option maxRecDepth 100000 in
set_option maxHeartbeats 4000000 in
theorem impl_pieces.calls (w : World) (s2 : SV) (ss1 : List SV) (s1 : List (List Int)) (h1 : ReadsM Ei (hp w) s2 ss1 s1) :
  ∀ r, impl_pieces.f s1 = some r → Calls Try.prog 132 #[SV.v s2] w (Ret w (impl_pieces.R r)) := by

 refine calls_T (n := 30) (Γ := [(0, SV.v s2)]) (R := impl_pieces.R) Try.func132 rfl rfl (Nat.le_of_ble_eq_true rfl) ⟨rfl, trivial⟩ ?_
 unfold impl_pieces.f
 refine TC.seq ?_
 refine TC.region ?_
 refine TL.assign rfl rfl (v := .int .i64 0) rfl ?_
 refine TL.done ?_
 refine TC.seq ?_
 refine TC.region ?_
 refine TL.move rfl rfl (v := SV.v s2) rfl ?_
 refine TL.lenM (RdM.old h1) Try.underlying32 rfl rfl rfl ?_
 refine TL.call (R := G.impl_poolOf.R) Try.call170 rfl rfl rfl (fun w hS => G.impl_poolOf.calls w (s1.length : Int)) ?_
 rintro r_1 _ _ ⟨s3, rfl, rfl⟩
 refine TL.assign rfl rfl (v := SV.v s3) rfl ?_
 refine TL.done ?_
 refine TC.seq ?_
 refine TC.seq ?_
 refine TC.region ?_
 refine TL.move rfl rfl (v := SV.v s2) rfl ?_
 refine TL.call (R := G.impl_sidesOfEdges.R) Try.call119 rfl rfl rfl (fun w hS => G.impl_sidesOfEdges.calls w s2 ss1 s1 ((RdM.old h1) w hS)) ?_
 rintro r_2 _ _ ⟨s4, ss2, rfl, rfl⟩
 refine TL.grd fun h2 => ?_
 refine TL.sliceM (li := (some 1)) (hi' := none) (l := 1) (h := r_2.length) (RdM.mat 0 rfl) Try.underlying105 Try.sizeOf104 rfl rfl (by have h_ := h2; simp only [Bool.and_eq_true, decide_eq_true_eq] at h_; first | rfl | omega | (simp only [Option.getD_none, Option.getD_some]; omega)) (by have h_ := h2; simp only [Bool.and_eq_true, decide_eq_true_eq] at h_; first | rfl | omega | (simp only [Option.getD_none, Option.getD_some]; omega)) (by have h_ := h2; simp only [Bool.and_eq_true, decide_eq_true_eq] at h_; omega) (by have h_ := h2; simp only [Bool.and_eq_true, decide_eq_true_eq] at h_; omega) rfl rfl rfl ?_
 refine TL.lenM (RdM.cut (RdM.mat 0 rfl) (by have h_ := h2; simp only [Bool.and_eq_true, decide_eq_true_eq] at h_; omega) (by have h_ := h2; simp only [Bool.and_eq_true, decide_eq_true_eq] at h_; omega)) Try.underlying105 rfl rfl rfl ?_
 refine TL.move rfl rfl (v := .int .i64 0) rfl ?_
 refine TL.done ?_
 refine TC.loop1 (σ := (List Int) × Int) (γ := Unit) (Γ' := (fun p q => match p, q with | (p1, x1), _ => [(3, SV.v s3), (11, SV.v (SV.cut s4 1 r_2.length s4.c Ev.sz)), (12, .int .i64 (((r_2.drop 1).take (r_2.length - 1)).length : Int)), (13, .int .i64 x1)])) (L' := (fun p q => match p, q with | (p1, x1), _ => [row Ei 3 s3 p1, mat Eii 108 104 s4 ss2 r_2])) (Γb := (fun p q => match p, q with | (p1, x1), _ => [(3, SV.v s3), (11, SV.v (SV.cut s4 1 r_2.length s4.c Ev.sz)), (12, .int .i64 (((r_2.drop 1).take (r_2.length - 1)).length : Int)), (13, .int .i64 x1)])) (Lb := (fun p q => match p, q with | (p1, x1), _ => [row Ei 3 s3 p1, mat Eii 108 104 s4 ss2 r_2])) ((r_1, 0)) (()) ⟨rfl, rfl, rfl, rfl, trivial⟩ [1, 0] rfl ?_ ?_
 ·rintro ⟨p1, x1⟩ _
  refine TC.seq ?_
  refine TC.region ?_
  refine TL.bin .i64 x1 (((r_2.drop 1).take (r_2.length - 1)).length : Int) rfl rfl rfl rfl (v := .bool (decide (x1 < (((r_2.drop 1).take (r_2.length - 1)).length : Int)))) rfl ?_
  refine TL.done ?_
  refine TC.seq ?_
  refine TC.cond (b := (decide (x1 < (((r_2.drop 1).take (r_2.length - 1)).length : Int)))) rfl (fun c1 => ?_) (fun c2 => ?_)
  ·refine TC.skip ?_
   refine TC.seq ?_
   refine TC.block (NoEx.loop1 rfl) ?_
   refine TC.seq ?_
   refine TC.region ?_
   refine TL.chk fun h3 => ?_
   refine TL.ixsM x1 x1.toNat (RdM.cut (RdM.mat 1 rfl) (by have h_ := h2; simp only [Bool.and_eq_true, decide_eq_true_eq] at h_; omega) (by have h_ := h2; simp only [Bool.and_eq_true, decide_eq_true_eq] at h_; omega)) h3 Try.underlying105 Try.sizeOf104 rfl rfl rfl rfl (by omega) ?_
   refine TL.loadM2 (RdM.cut (RdM.mat 1 rfl) (by have h_ := h2; simp only [Bool.and_eq_true, decide_eq_true_eq] at h_; omega) (by have h_ := h2; simp only [Bool.and_eq_true, decide_eq_true_eq] at h_; omega)) Try.isAgg104 x1 h3 (by omega) rfl rfl rfl ?_
   refine TL.assign rfl rfl (v := SV.v (gt ((ss2.drop 1).take (r_2.length - 1)) x1)) rfl ?_
   refine TL.done ?_
   refine TC.wk (Γ' := [(3, SV.v s3), (11, SV.v (SV.cut s4 1 r_2.length s4.c Ev.sz)), (12, .int .i64 (((r_2.drop 1).take (r_2.length - 1)).length : Int)), (13, .int .i64 x1), (14, .bool (decide (x1 < (((r_2.drop 1).take (r_2.length - 1)).length : Int)))), (15, ep (SV.cut s4 1 r_2.length s4.c Ev.sz) x1.toNat), (16, SV.v (gt ((ss2.drop 1).take (r_2.length - 1)) x1)), (5, SV.v (gt ((ss2.drop 1).take (r_2.length - 1)) x1))]) ⟨rfl, rfl, rfl, rfl, rfl, rfl, rfl, rfl, trivial⟩ ?_
   refine TC.chk fun h4 => ?_
   refine TC.chk fun h5 => ?_
   refine TC.bindE ?_
   rintro p2 hr1
   refine TC.drawG [(3, SV.v s3), (11, SV.v (SV.cut s4 1 r_2.length s4.c Ev.sz)), (12, .int .i64 (((r_2.drop 1).take (r_2.length - 1)).length : Int)), (13, .int .i64 x1), (14, .bool (decide (x1 < (((r_2.drop 1).take (r_2.length - 1)).length : Int)))), (15, ep (SV.cut s4 1 r_2.length s4.c Ev.sz) x1.toNat), (16, SV.v (gt ((ss2.drop 1).take (r_2.length - 1)) x1)), (5, SV.v (gt ((ss2.drop 1).take (r_2.length - 1)) x1))] [] ⟨rfl, rfl, rfl, rfl, rfl, rfl, rfl, rfl, trivial⟩ trivial (fun l_ g1 => [(bif nb l_ 9 then row Ei 3 s3 p2 else row Ei 3 s3 p1), mat Eii 108 104 s4 ss2 r_2]) (fun g1 => [SV.v s3, SV.v (gt ((ss2.drop 1).take (r_2.length - 1)) x1), ep (gt ((ss2.drop 1).take (r_2.length - 1)) x1) 0, ep (gt ((ss2.drop 1).take (r_2.length - 1)) x1) 0, .int .i64 ((gt (gt ((r_2.drop 1).take (r_2.length - 1)) x1) 0).1), SV.v (gt ((ss2.drop 1).take (r_2.length - 1)) x1), ep (gt ((ss2.drop 1).take (r_2.length - 1)) x1) 2, ep (gt ((ss2.drop 1).take (r_2.length - 1)) x1) 2, .int .i64 ((gt (gt ((r_2.drop 1).take (r_2.length - 1)) x1) 1).1), .tuple #[]]) [[], [], [1], [1, 2], [1, 2, 3], [], [5], [5, 6], [5, 6, 7], [0, 1, 2, 3, 4, 5, 6, 7, 8]] [[some false, none, none, none, none, none, none, none, none, some false], [none, some false, some false, some false, some false, none, none, none, none, some false], [none, some true, some false, some false, some false, none, none, none, none, some false], [none, some true, some true, some false, some false, none, none, none, none, some false], [none, some true, some true, some true, some false, none, none, none, none, some false], [none, none, none, none, none, some false, some false, some false, some false, some false], [none, none, none, none, none, some true, some false, some false, some false, some false], [none, none, none, none, none, some true, some true, some false, some false, some false], [none, none, none, none, none, some true, some true, some true, some false, some false], [some true, some true, some true, some true, some true, some true, some true, some true, some true, some false]] (by kernel_rfl) (fun _ => rfl) rfl rfl rfl rfl rfl (fun _ _ => ⟨⟨⟨⟨⟨⟨⟨⟨⟨⟨trivial, rfl⟩, rfl⟩, rfl⟩, rfl⟩, rfl⟩, rfl⟩, rfl⟩, rfl⟩, rfl⟩, rfl⟩) 0 [0, 0] (fun _ => by kernel_rfl) ?_ ?_
   ·refine ⟨rfl, ?_, rfl, ?_, rfl, ?_, rfl, ?_, rfl, ?_, rfl, ?_, rfl, ?_, rfl, ?_, rfl, ?_, rfl, ?_, trivial⟩
    ·intro b1_ b2_ b3_ b4_ b5_ b6_ b7_ b8_ g1
     refine TL.move rfl rfl (v := SV.v s3) rfl ?_
     refine TL.done ?_
     exact TC.nrm () [] ⟨rfl, trivial⟩ [0, 0] (by kernel_rfl)
    ·intro b0_ b5_ b6_ b7_ b8_ g1
     refine TL.move rfl rfl (v := SV.v (gt ((ss2.drop 1).take (r_2.length - 1)) x1)) rfl ?_
     refine TL.done ?_
     exact TC.nrm () [] ⟨rfl, trivial⟩ [0, 0] (by kernel_rfl)
    ·intro b0_ b5_ b6_ b7_ b8_ g1
     refine TL.asL [row Ei 3 s3 p1, mat Eii 108 104 s4 ss2 r_2] (by kernel_rfl) ?_
     refine TL.ixs 0 0 (RdM.inn (RdM.cut (RdM.mat 1 rfl) (by have h_ := h2; simp only [Bool.and_eq_true, decide_eq_true_eq] at h_; omega) (by have h_ := h2; simp only [Bool.and_eq_true, decide_eq_true_eq] at h_; omega)) h3) h4 Try.underlying104 Try.sizeOf108 rfl rfl rfl rfl rfl ?_
     refine TL.done ?_
     exact TC.nrm () [] ⟨rfl, trivial⟩ [0, 0] (by kernel_rfl)
    ·intro b0_ b5_ b6_ b7_ b8_ g1
     refine TL.asL [row Ei 3 s3 p1, mat Eii 108 104 s4 ss2 r_2] (by kernel_rfl) ?_
     refine TL.fae (RdM.inn (RdM.cut (RdM.mat 1 rfl) (by have h_ := h2; simp only [Bool.and_eq_true, decide_eq_true_eq] at h_; omega) (by have h_ := h2; simp only [Bool.and_eq_true, decide_eq_true_eq] at h_; omega)) h3) (by have := h4; omega) Try.underlying108 rfl Try.sizeOf3 rfl 0 rfl rfl rfl rfl ?_
     refine TL.done ?_
     exact TC.nrm () [] ⟨rfl, trivial⟩ [0, 0] (by kernel_rfl)
    ·intro b0_ b5_ b6_ b7_ b8_ g1
     refine TL.asL [row Ei 3 s3 p1, mat Eii 108 104 s4 ss2 r_2] (by kernel_rfl) ?_
     refine TL.loadE (RdM.inn (RdM.cut (RdM.mat 1 rfl) (by have h_ := h2; simp only [Bool.and_eq_true, decide_eq_true_eq] at h_; omega) (by have h_ := h2; simp only [Bool.and_eq_true, decide_eq_true_eq] at h_; omega)) h3) Try.isAgg3 0 0 (gt_spec h4) (v := .int .i64 ((gt (gt ((r_2.drop 1).take (r_2.length - 1)) x1) 0).1)) rfl rfl rfl rfl rfl ?_
     refine TL.done ?_
     exact TC.nrm () [] ⟨rfl, trivial⟩ [0, 0] (by kernel_rfl)
    ·intro b0_ b1_ b2_ b3_ b4_ g1
     refine TL.move rfl rfl (v := SV.v (gt ((ss2.drop 1).take (r_2.length - 1)) x1)) rfl ?_
     refine TL.done ?_
     exact TC.nrm () [] ⟨rfl, trivial⟩ [0, 0] (by kernel_rfl)
    ·intro b0_ b1_ b2_ b3_ b4_ g1
     refine TL.asL [row Ei 3 s3 p1, mat Eii 108 104 s4 ss2 r_2] (by kernel_rfl) ?_
     refine TL.ixs 1 2 (RdM.inn (RdM.cut (RdM.mat 1 rfl) (by have h_ := h2; simp only [Bool.and_eq_true, decide_eq_true_eq] at h_; omega) (by have h_ := h2; simp only [Bool.and_eq_true, decide_eq_true_eq] at h_; omega)) h3) h5 Try.underlying104 Try.sizeOf108 rfl rfl rfl rfl rfl ?_
     refine TL.done ?_
     exact TC.nrm () [] ⟨rfl, trivial⟩ [0, 0] (by kernel_rfl)
    ·intro b0_ b1_ b2_ b3_ b4_ g1
     refine TL.asL [row Ei 3 s3 p1, mat Eii 108 104 s4 ss2 r_2] (by kernel_rfl) ?_
     refine TL.fae (RdM.inn (RdM.cut (RdM.mat 1 rfl) (by have h_ := h2; simp only [Bool.and_eq_true, decide_eq_true_eq] at h_; omega) (by have h_ := h2; simp only [Bool.and_eq_true, decide_eq_true_eq] at h_; omega)) h3) (by have := h5; omega) Try.underlying108 rfl Try.sizeOf3 rfl 2 rfl rfl rfl rfl ?_
     refine TL.done ?_
     exact TC.nrm () [] ⟨rfl, trivial⟩ [0, 0] (by kernel_rfl)
    ·intro b0_ b1_ b2_ b3_ b4_ g1
     refine TL.asL [row Ei 3 s3 p1, mat Eii 108 104 s4 ss2 r_2] (by kernel_rfl) ?_
     refine TL.loadE (RdM.inn (RdM.cut (RdM.mat 1 rfl) (by have h_ := h2; simp only [Bool.and_eq_true, decide_eq_true_eq] at h_; omega) (by have h_ := h2; simp only [Bool.and_eq_true, decide_eq_true_eq] at h_; omega)) h3) Try.isAgg3 1 0 (gt_spec h5) (v := .int .i64 ((gt (gt ((r_2.drop 1).take (r_2.length - 1)) x1) 1).1)) rfl rfl rfl rfl rfl ?_
     refine TL.done ?_
     exact TC.nrm () [] ⟨rfl, trivial⟩ [0, 0] (by kernel_rfl)
    ·intro g1
     refine TL.asL [row Ei 3 s3 p1, mat Eii 108 104 s4 ss2 r_2] (by kernel_rfl) ?_
     refine TL.callXH (R := G.impl_pool_join.R s3) hr1 [0, 0] [row Ei 3 s3 p1] [mat Eii 108 104 s4 ss2 r_2] rfl Try.call172 rfl rfl rfl (fun w I_ hle hB hS => G.impl_pool_join.calls _ I_ w s3 p1 ((gt (gt ((r_2.drop 1).take (r_2.length - 1)) x1) 0).1) ((gt (gt ((r_2.drop 1).take (r_2.length - 1)) x1) 1).1) hS) ?_
     rintro _ _ ⟨rfl, rfl⟩
     refine TL.done ?_
     exact TC.nrm () [] ⟨rfl, trivial⟩ [0, 0] (by kernel_rfl)
   ·intro g1
    refine TC.asL [row Ei 3 s3 p2, mat Eii 108 104 s4 ss2 r_2] (by kernel_rfl) ?_
    refine TC.region ?_
    refine TL.bin .i64 x1 1 rfl rfl rfl rfl (v := .int .i64 (w64 (x1 + 1))) rfl ?_
    refine TL.move rfl rfl (v := .int .i64 (w64 (x1 + 1))) rfl ?_
    refine TL.done ?_
    exact TC.next1 ((p2, (w64 (x1 + 1)))) (()) ⟨rfl, rfl, rfl, rfl, trivial⟩ [0, 0] rfl
  ·exact TC.brk1 ((p1, x1)) (()) ⟨rfl, rfl, rfl, rfl, trivial⟩ [0, 0] rfl
 ·rintro ⟨p1, x1⟩ _
  refine TC.seq ?_
  refine TC.region ?_
  refine TL.move rfl rfl (v := SV.v s3) rfl ?_
  refine TL.call (R := G.impl_pool_distinct.R) Try.call173 rfl rfl rfl (fun w hS => G.impl_pool_distinct.calls w s3 p1 ((Rd.row 0 rfl) w hS)) ?_
  rintro r_3 _ _ ⟨rfl, rfl⟩
  refine TL.assign rfl rfl (v := .int .i64 r_3) rfl ?_
  refine TL.done ?_
  exact TC.retF (Fin.body (fin1 (.inr rfl) rfl (.tmp rfl) [] rfl ⟨rfl, rfl⟩))

end Go.Proofs.Ytiiljfpbcanphaa.G

/- impl.GenusOf, as a pure function. -/
set_option linter.unusedVariables false
namespace Go.Proofs.Ytiiljfpbcanphaa.G
open Go Go.Sx Go.Proofs

def impl_GenusOf.f (s1 : List (List Int)) : Option (Int × Int) := (G.impl_IsSurface.f s1).bind (fun r_1 => (bif (!r_1) then some (0, 1) else (G.impl_oriented.f s1).bind (fun r_2 => (bif (!r_2) then some true else (G.impl_pieces.f s1).bind (fun r_3 => some (decide (r_3 > 1)))).bind (fun b_1 => (bif b_1 then some (0, 5) else (G.impl_eulerOf.f s1).bind (fun r_4 => some ((w64 (1 - (w64 (Int.tdiv r_4 2)))), 0)))))))

def impl_GenusOf.R (r : Int × Int) (v : Value) (L : List Asn) : Prop := v = .tuple #[.int .i64 r.1, .int .i64 r.2] ∧ L = []

set_option maxRecDepth 100000 in
set_option maxHeartbeats 4000000 in
theorem impl_GenusOf.calls (w : World) (s2 : SV) (ss1 : List SV) (s1 : List (List Int)) (h1 : ReadsM Ei (hp w) s2 ss1 s1) :
  ∀ r, impl_GenusOf.f s1 = some r → Calls Try.prog 54 #[SV.v s2] w (Ret w (impl_GenusOf.R r)) := by

 refine calls_T (n := 21) (Γ := [(0, SV.v s2)]) (R := impl_GenusOf.R) Try.func54 rfl rfl (Nat.le_of_ble_eq_true rfl) ⟨rfl, trivial⟩ ?_
 unfold impl_GenusOf.f
 refine TC.seq ?_
 refine TC.region ?_
 refine TL.assign rfl rfl (v := .int .i64 0) rfl ?_
 refine TL.assign rfl rfl (v := .int .i64 0) rfl ?_
 refine TL.done ?_
 refine TC.seq ?_
 refine TC.block NoEx.body ?_
 refine TC.seq ?_
 refine TC.region ?_
 refine TL.move rfl rfl (v := SV.v s2) rfl ?_
 refine TL.call (R := G.impl_IsSurface.R) Try.call44 rfl rfl rfl (fun w hS => G.impl_IsSurface.calls w s2 ss1 s1 ((RdM.old h1) w hS)) ?_
 rintro r_1 _ _ ⟨rfl, rfl⟩
 refine TL.not r_1 rfl rfl rfl ?_
 refine TL.assign rfl rfl (v := .bool (!r_1)) rfl ?_
 refine TL.done ?_
 refine TC.cond (b := (!r_1)) rfl (fun c1 => ?_) (fun c2 => ?_)
 ·refine TC.seq ?_
  refine TC.region ?_
  refine TL.assign rfl rfl (v := .int .i64 0) rfl ?_
  refine TL.assign rfl rfl (v := .int .i64 1) rfl ?_
  refine TL.done ?_
  exact TC.retF (Fin.body (fin2 (.inr rfl) rfl (.tmp rfl) (.tmp rfl) [] rfl ⟨rfl, rfl⟩))
 ·refine TC.seq ?_
  refine TC.region ?_
  refine TL.move rfl rfl (v := SV.v s2) rfl ?_
  refine TL.call (R := G.impl_oriented.R) Try.call108 rfl rfl rfl (fun w hS => G.impl_oriented.calls w s2 ss1 s1 ((RdM.old h1) w hS)) ?_
  rintro r_2 _ _ ⟨rfl, rfl⟩
  refine TL.not r_2 rfl rfl rfl ?_
  refine TL.move rfl rfl (v := .bool (!r_2)) rfl ?_
  refine TL.cutJ (σ := Bool) (γ := Unit) (Γ' := fun b_1 _ => [(16, .bool b_1), (0, SV.v s2), (2, .int .i64 0), (3, .int .i64 0), (5, SV.v s2), (6, .bool r_1), (7, .bool (!r_1)), (4, .bool (!r_1)), (9, SV.v s2), (10, .bool r_2), (11, .bool (!r_2)), (12, .bool (!r_2))]) (L' := fun _ _ => []) 4 ?_ ?_
  ·refine TL.ifb (t := 12) (b := (!r_2)) rfl (fun c3 => ?_) (fun c4 => ?_)
   ·refine TL.skip rfl rfl (by decide) ?_
    refine TL.skip rfl rfl (by decide) ?_
    refine TL.skip rfl rfl (by decide) ?_
    refine TL.pick rfl rfl (b := true) rfl (r := .bool true) rfl ?_
    refine TL.done ?_
    exact TC.nrm (true) () ⟨rfl, rfl, rfl, rfl, rfl, rfl, rfl, rfl, rfl, rfl, rfl, (by rw [c3]; rfl), trivial⟩ [] (by kernel_rfl)
   ·refine TL.move rfl rfl (v := SV.v s2) rfl ?_
    refine TL.call (R := G.impl_pieces.R) Try.call132 rfl rfl rfl (fun w hS => G.impl_pieces.calls w s2 ss1 s1 ((RdM.old h1) w hS)) ?_
    rintro r_3 _ _ ⟨rfl, rfl⟩
    refine TL.bin .i64 r_3 1 rfl rfl rfl rfl (v := .bool (decide (r_3 > 1))) rfl ?_
    refine TL.pick rfl rfl (b := false) rfl (r := .bool (decide (r_3 > 1))) rfl ?_
    refine TL.done ?_
    exact TC.nrm ((decide (r_3 > 1))) () ⟨rfl, rfl, rfl, rfl, rfl, rfl, rfl, rfl, rfl, rfl, rfl, (by rw [c4]; rfl), trivial⟩ [] (by kernel_rfl)
  ·rintro b_1 _
   refine TL.assign rfl rfl (v := .bool b_1) rfl ?_
   refine TL.done ?_
   refine TC.cond (b := b_1) rfl (fun c5 => ?_) (fun c6 => ?_)
   ·refine TC.seq ?_
    refine TC.region ?_
    refine TL.assign rfl rfl (v := .int .i64 0) rfl ?_
    refine TL.assign rfl rfl (v := .int .i64 5) rfl ?_
    refine TL.done ?_
    exact TC.retF (Fin.body (fin2 (.inr rfl) rfl (.tmp rfl) (.tmp rfl) [] rfl ⟨rfl, rfl⟩))
   ·refine TC.skip ?_
    refine TC.seq ?_
    refine TC.region ?_
    refine TL.move rfl rfl (v := SV.v s2) rfl ?_
    refine TL.call (R := G.impl_eulerOf.R) Try.call128 rfl rfl rfl (fun w hS => G.impl_eulerOf.calls w s2 ss1 s1 ((RdM.old h1) w hS)) ?_
    rintro r_4 _ _ ⟨rfl, rfl⟩
    refine TL.quo .i64 r_4 2 (by decide) rfl rfl rfl rfl ?_
    refine TL.bin .i64 1 (w64 (Int.tdiv r_4 2)) rfl rfl rfl rfl (v := .int .i64 (w64 (1 - (w64 (Int.tdiv r_4 2))))) rfl ?_
    refine TL.assign rfl rfl (v := .int .i64 (w64 (1 - (w64 (Int.tdiv r_4 2))))) rfl ?_
    refine TL.assign rfl rfl (v := .int .i64 0) rfl ?_
    refine TL.done ?_
    exact TC.retF (Fin.body (fin2 (.inr rfl) rfl (.tmp rfl) (.tmp rfl) [] rfl ⟨rfl, rfl⟩))

end Go.Proofs.Ytiiljfpbcanphaa.G

/- spec.l07Different, as a pure function. -/
set_option linter.unusedVariables false
namespace Go.Proofs.Ytiiljfpbcanphaa.G
open Go Go.Sx Go.Proofs

def spec_l07Different.b0 (i1 : Int) (list_1 : List Int) : Bool × Int → Option (LB (Bool × Int)) := fun p => match p with | (first1, k_1) => (bif (decide (k_1 < i1)) then (bif first1 then chk k_1 list_1.length (chk i1 list_1.length (some (.next (((gt list_1 k_1) != (gt list_1 i1)), (w64 (k_1 + 1)))))) else some (.next (false, (w64 (k_1 + 1))))) else some (.brk (first1, k_1)))

def spec_l07Different.b1 (list_1 : List Int) : Int × Int → Option (LB (Int × Int)) := fun p => match p with | (count1, i1) => (bif (decide (i1 < (list_1.length : Int))) then (loop1 (spec_l07Different.b0 i1 list_1) (true, 0)).bind (fun p => match p with | (first1, k_1) => ((bif first1 then some (w64 (count1 + 1)) else some count1)).bind (fun count2 => some (.next (count2, (w64 (i1 + 1)))))) else some (.brk (count1, i1)))

def spec_l07Different.f (list_1 : List Int) : Option Int := (loop1 (spec_l07Different.b1 list_1) (0, 0)).bind (fun p => match p with | (count1, i1) => some count1)

def spec_l07Different.R (r : Int) (v : Value) (L : List Asn) : Prop := v = .int .i64 r ∧ L = []

set_option maxRecDepth 100000 in
set_option maxHeartbeats 4000000 in
theorem spec_l07Different.calls (w : World) (s1 : SV) (list_1 : List Int) (h1 : Reads Ei (hp w) s1 list_1) :
  ∀ r, spec_l07Different.f list_1 = some r → Calls Try.prog 133 #[SV.v s1] w (Ret w (spec_l07Different.R r)) := by

 refine calls_T (n := 34) (Γ := [(0, SV.v s1)]) (R := spec_l07Different.R) Try.func133 rfl rfl (Nat.le_of_ble_eq_true rfl) ⟨rfl, trivial⟩ ?_
 unfold spec_l07Different.f
 refine TC.seq ?_
 refine TC.region ?_
 refine TL.assign rfl rfl (v := .int .i64 0) rfl ?_
 refine TL.done ?_
 refine TC.seq ?_
 refine TC.region ?_
 refine TL.assign rfl rfl (v := .int .i64 0) rfl ?_
 refine TL.done ?_
 refine TC.seq ?_
 refine TC.seq ?_
 refine TC.region ?_
 refine TL.assign rfl rfl (v := .int .i64 0) rfl ?_
 refine TL.done ?_
 refine TC.loop1 (σ := Int × Int) (γ := Unit) (Γ' := (fun p q => match p, q with | (count1, i1), _ => [(0, SV.v s1), (3, .int .i64 count1), (4, .int .i64 i1)])) (L' := (fun p q => match p, q with | (count1, i1), _ => [])) (Γb := (fun p q => match p, q with | (count1, i1), _ => [(0, SV.v s1), (3, .int .i64 count1), (4, .int .i64 i1)])) (Lb := (fun p q => match p, q with | (count1, i1), _ => [])) ((0, 0)) (()) ⟨rfl, rfl, rfl, trivial⟩ [] rfl ?_ ?_
 ·rintro ⟨count1, i1⟩ _
  refine TC.seq ?_
  refine TC.seq ?_
  refine TC.region ?_
  refine TL.move rfl rfl (v := .int .i64 i1) rfl ?_
  refine TL.move rfl rfl (v := SV.v s1) rfl ?_
  refine TL.len (Rd.old h1) Try.underlying22 rfl rfl rfl ?_
  refine TL.bin .i64 i1 (list_1.length : Int) rfl rfl rfl rfl (v := .bool (decide (i1 < (list_1.length : Int)))) rfl ?_
  refine TL.done ?_
  refine TC.cond (b := (decide (i1 < (list_1.length : Int)))) rfl (fun c1 => ?_) (fun c2 => ?_)
  ·refine TC.skip ?_
   refine TC.seq ?_
   refine TC.block (NoEx.loop1 rfl) ?_
   refine TC.seq ?_
   refine TC.region ?_
   refine TL.assign rfl rfl (v := .bool true) rfl ?_
   refine TL.done ?_
   refine TC.seq ?_
   refine TC.seq ?_
   refine TC.region ?_
   refine TL.assign rfl rfl (v := .int .i64 0) rfl ?_
   refine TL.done ?_
   refine TC.loop1 (σ := Bool × Int) (γ := Unit) (Γ' := (fun p q => match p, q with | (first1, k_1), _ => [(0, SV.v s1), (3, .int .i64 count1), (4, .int .i64 i1), (5, .bool first1), (6, .int .i64 k_1)])) (L' := (fun p q => match p, q with | (first1, k_1), _ => [])) (Γb := (fun p q => match p, q with | (first1, k_1), _ => [(0, SV.v s1), (3, .int .i64 count1), (4, .int .i64 i1), (5, .bool first1), (6, .int .i64 k_1)])) (Lb := (fun p q => match p, q with | (first1, k_1), _ => [])) ((true, 0)) (()) ⟨rfl, rfl, rfl, rfl, rfl, trivial⟩ [] rfl ?_ ?_
   ·rintro ⟨first1, k_1⟩ _
    refine TC.seq ?_
    refine TC.seq ?_
    refine TC.region ?_
    refine TL.move rfl rfl (v := .int .i64 k_1) rfl ?_
    refine TL.move rfl rfl (v := .int .i64 i1) rfl ?_
    refine TL.bin .i64 k_1 i1 rfl rfl rfl rfl (v := .bool (decide (k_1 < i1))) rfl ?_
    refine TL.done ?_
    refine TC.cond (b := (decide (k_1 < i1))) rfl (fun c3 => ?_) (fun c4 => ?_)
    ·refine TC.skip ?_
     refine TC.seq ?_
     refine TC.block (NoEx.loop1 rfl) ?_
     refine TC.ifB first1 (fun c5 => ?_) (fun c5 => ?_)
     ·refine TC.wk (Γ' := [(0, SV.v s1), (3, .int .i64 count1), (4, .int .i64 i1), (6, .int .i64 k_1), (13, .int .i64 k_1), (14, .int .i64 i1), (15, .bool (decide (k_1 < i1))), (5, .bool first1)]) ⟨rfl, rfl, rfl, rfl, rfl, rfl, rfl, rfl, trivial⟩ ?_
      refine TC.chk fun h2 => ?_
      refine TC.chk fun h3 => ?_
      refine TC.drawG [(0, SV.v s1), (3, .int .i64 count1), (4, .int .i64 i1), (6, .int .i64 k_1), (13, .int .i64 k_1), (14, .int .i64 i1), (15, .bool (decide (k_1 < i1)))] [(5, .bool first1, 12)] ⟨rfl, rfl, rfl, rfl, rfl, rfl, rfl, trivial⟩ ⟨rfl, trivial⟩ (fun l_ g2 => []) (fun g2 => [.bool true, .bool true, SV.v s1, .int .i64 k_1, ep s1 k_1.toNat, .int .i64 (gt list_1 k_1), SV.v s1, .int .i64 i1, ep s1 i1.toNat, .int .i64 (gt list_1 i1), .bool ((gt list_1 k_1) != (gt list_1 i1)), .bool ((gt list_1 k_1) != (gt list_1 i1)), .bool ((gt list_1 k_1) != (gt list_1 i1))]) [[], [0], [0, 1], [0, 1], [0, 1, 2, 3], [0, 1, 2, 3, 4], [0, 1], [0, 1], [0, 1, 6, 7], [0, 1, 6, 7, 8], [0, 1, 2, 3, 4, 5, 6, 7, 8, 9], [0, 1, 2, 3, 4, 5, 6, 7, 8, 9, 10], [0, 1, 2, 3, 4, 5, 6, 7, 8, 9, 10, 11]] [[some false, some false, some false, some false, some false, some false, some false, some false, some false, some false, some false, some false, some false], [some true, some false, some false, some false, some false, some false, some false, some false, some false, some false, some false, some false, some false], [some true, some true, some false, none, some false, some false, none, none, none, none, some false, some false, some false], [some true, some true, none, some false, some false, some false, none, none, none, none, some false, some false, some false], [some true, some true, some true, some true, some false, some false, none, none, none, none, some false, some false, some false], [some true, some true, some true, some true, some true, some false, none, none, none, none, some false, some false, some false], [some true, some true, none, none, none, none, some false, none, some false, some false, some false, some false, some false], [some true, some true, none, none, none, none, none, some false, some false, some false, some false, some false, some false], [some true, some true, none, none, none, none, some true, some true, some false, some false, some false, some false, some false], [some true, some true, none, none, none, none, some true, some true, some true, some false, some false, some false, some false], [some true, some true, some true, some true, some true, some true, some true, some true, some true, some true, some false, some false, some false], [some true, some true, some true, some true, some true, some true, some true, some true, some true, some true, some true, some false, some false], [some true, some true, some true, some true, some true, some true, some true, some true, some true, some true, some true, some true, some false]] (by kernel_rfl) (fun _ => rfl) rfl rfl rfl rfl rfl (fun _ _ => ⟨⟨⟨⟨⟨⟨⟨⟨⟨⟨⟨⟨⟨trivial, rfl⟩, rfl⟩, rfl⟩, rfl⟩, rfl⟩, rfl⟩, rfl⟩, rfl⟩, rfl⟩, rfl⟩, rfl⟩, rfl⟩, rfl⟩) 0 [] (fun _ => by kernel_rfl) ?_ ?_
      ·refine ⟨rfl, ?_, rfl, ?_, rfl, ?_, rfl, ?_, rfl, ?_, rfl, ?_, rfl, ?_, rfl, ?_, rfl, ?_, rfl, ?_, rfl, ?_, rfl, ?_, rfl, ?_, trivial⟩
       ·intro g2
        refine TL.move rfl rfl (v := .bool first1) rfl ?_
        refine TL.done ?_
        exact TC.nrm () [] ⟨(by rw [c5]; rfl), trivial⟩ [] (by kernel_rfl)
       ·intro g2
        refine TL.move rfl rfl (v := .bool true) rfl ?_
        refine TL.done ?_
        exact TC.nrm () [] ⟨rfl, trivial⟩ [] (by kernel_rfl)
       ·intro b3_ b6_ b7_ b8_ b9_ g2
        refine TL.move rfl rfl (v := SV.v s1) rfl ?_
        refine TL.done ?_
        exact TC.nrm () [] ⟨rfl, trivial⟩ [] (by kernel_rfl)
       ·intro b2_ b6_ b7_ b8_ b9_ g2
        refine TL.move rfl rfl (v := .int .i64 k_1) rfl ?_
        refine TL.done ?_
        exact TC.nrm () [] ⟨rfl, trivial⟩ [] (by kernel_rfl)
       ·intro b6_ b7_ b8_ b9_ g2
        refine TL.asL [] (by kernel_rfl) ?_
        refine TL.ixs k_1 k_1.toNat (Rd.old h1) h2 Try.underlying22 Try.sizeOf2 rfl rfl rfl rfl (by omega) ?_
        refine TL.done ?_
        exact TC.nrm () [] ⟨rfl, trivial⟩ [] (by kernel_rfl)
       ·intro b6_ b7_ b8_ b9_ g2
        refine TL.asL [] (by kernel_rfl) ?_
        refine TL.loadE (Rd.old h1) Try.isAgg2 k_1.toNat 0 (gt_spec h2) (v := .int .i64 (gt list_1 k_1)) rfl (by simp only [show Ei.sz = 1 from rfl] <;> omega) rfl rfl rfl ?_
        refine TL.done ?_
        exact TC.nrm () [] ⟨rfl, trivial⟩ [] (by kernel_rfl)
       ·intro b2_ b3_ b4_ b5_ b7_ g2
        refine TL.move rfl rfl (v := SV.v s1) rfl ?_
        refine TL.done ?_
        exact TC.nrm () [] ⟨rfl, trivial⟩ [] (by kernel_rfl)
       ·intro b2_ b3_ b4_ b5_ b6_ g2
        refine TL.move rfl rfl (v := .int .i64 i1) rfl ?_
        refine TL.done ?_
        exact TC.nrm () [] ⟨rfl, trivial⟩ [] (by kernel_rfl)
       ·intro b2_ b3_ b4_ b5_ g2
        refine TL.asL [] (by kernel_rfl) ?_
        refine TL.ixs i1 i1.toNat (Rd.old h1) h3 Try.underlying22 Try.sizeOf2 rfl rfl rfl rfl (by omega) ?_
        refine TL.done ?_
        exact TC.nrm () [] ⟨rfl, trivial⟩ [] (by kernel_rfl)
       ·intro b2_ b3_ b4_ b5_ g2
        refine TL.asL [] (by kernel_rfl) ?_
        refine TL.loadE (Rd.old h1) Try.isAgg2 i1.toNat 0 (gt_spec h3) (v := .int .i64 (gt list_1 i1)) rfl (by simp only [show Ei.sz = 1 from rfl] <;> omega) rfl rfl rfl ?_
        refine TL.done ?_
        exact TC.nrm () [] ⟨rfl, trivial⟩ [] (by kernel_rfl)
       ·intro g2
        refine TL.bin .i64 (gt list_1 k_1) (gt list_1 i1) rfl rfl rfl rfl (v := .bool ((gt list_1 k_1) != (gt list_1 i1))) rfl ?_
        refine TL.done ?_
        exact TC.nrm () [] ⟨rfl, trivial⟩ [] (by kernel_rfl)
       ·intro g2
        refine TL.pick rfl rfl (b := true) rfl (r := .bool ((gt list_1 k_1) != (gt list_1 i1))) rfl ?_
        refine TL.done ?_
        exact TC.nrm () [] ⟨rfl, trivial⟩ [] (by kernel_rfl)
       ·intro g2
        refine TL.assign rfl rfl (v := .bool ((gt list_1 k_1) != (gt list_1 i1))) rfl ?_
        refine TL.done ?_
        exact TC.nrm () [] ⟨rfl, trivial⟩ [] (by kernel_rfl)
      ·intro g2
       refine TC.asL [] (by kernel_rfl) ?_
       refine TC.region ?_
       refine TL.move rfl rfl (v := .int .i64 k_1) rfl ?_
       refine TL.bin .i64 k_1 1 rfl rfl rfl rfl (v := .int .i64 (w64 (k_1 + 1))) rfl ?_
       refine TL.assign rfl rfl (v := .int .i64 (w64 (k_1 + 1))) rfl ?_
       refine TL.done ?_
       exact TC.next1 ((((gt list_1 k_1) != (gt list_1 i1)), (w64 (k_1 + 1)))) (()) ⟨rfl, rfl, rfl, rfl, rfl, trivial⟩ [] rfl
     ·refine TC.wk (Γ' := [(0, SV.v s1), (3, .int .i64 count1), (4, .int .i64 i1), (6, .int .i64 k_1), (13, .int .i64 k_1), (14, .int .i64 i1), (15, .bool (decide (k_1 < i1))), (5, .bool first1)]) ⟨rfl, rfl, rfl, rfl, rfl, rfl, rfl, rfl, trivial⟩ ?_
      refine TC.drawG [(0, SV.v s1), (3, .int .i64 count1), (4, .int .i64 i1), (6, .int .i64 k_1), (13, .int .i64 k_1), (14, .int .i64 i1), (15, .bool (decide (k_1 < i1)))] [(5, .bool first1, 12)] ⟨rfl, rfl, rfl, rfl, rfl, rfl, rfl, trivial⟩ ⟨rfl, trivial⟩ (fun l_ g3 => []) (fun g3 => [.bool false, .bool false, undef, undef, undef, undef, undef, undef, undef, undef, undef, .bool false, .bool false]) [[], [0], [0, 1], [0, 1], [0, 1, 2, 3], [0, 1, 2, 3, 4], [0, 1], [0, 1], [0, 1, 6, 7], [0, 1, 6, 7, 8], [0, 1, 2, 3, 4, 5, 6, 7, 8, 9], [0, 1, 2, 3, 4, 5, 6, 7, 8, 9, 10], [0, 1, 2, 3, 4, 5, 6, 7, 8, 9, 10, 11]] [[some false, some false, some false, some false, some false, some false, some false, some false, some false, some false, some false, some false, some false], [some true, some false, some false, some false, some false, some false, some false, some false, some false, some false, some false, some false, some false], [some true, some true, some false, none, some false, some false, none, none, none, none, some false, some false, some false], [some true, some true, none, some false, some false, some false, none, none, none, none, some false, some false, some false], [some true, some true, some true, some true, some false, some false, none, none, none, none, some false, some false, some false], [some true, some true, some true, some true, some true, some false, none, none, none, none, some false, some false, some false], [some true, some true, none, none, none, none, some false, none, some false, some false, some false, some false, some false], [some true, some true, none, none, none, none, none, some false, some false, some false, some false, some false, some false], [some true, some true, none, none, none, none, some true, some true, some false, some false, some false, some false, some false], [some true, some true, none, none, none, none, some true, some true, some true, some false, some false, some false, some false], [some true, some true, some true, some true, some true, some true, some true, some true, some true, some true, some false, some false, some false], [some true, some true, some true, some true, some true, some true, some true, some true, some true, some true, some true, some false, some false], [some true, some true, some true, some true, some true, some true, some true, some true, some true, some true, some true, some true, some false]] (by kernel_rfl) (fun _ => rfl) rfl rfl rfl rfl rfl (fun _ _ => ⟨⟨⟨⟨⟨⟨⟨⟨⟨⟨⟨⟨⟨trivial, rfl⟩, rfl⟩, rfl⟩, rfl⟩, rfl⟩, rfl⟩, rfl⟩, rfl⟩, rfl⟩, rfl⟩, rfl⟩, rfl⟩, rfl⟩) 0 [] (fun _ => by kernel_rfl) ?_ ?_
      ·refine ⟨rfl, ?_, rfl, ?_, rfl, ?_, rfl, ?_, rfl, ?_, rfl, ?_, rfl, ?_, rfl, ?_, rfl, ?_, rfl, ?_, rfl, ?_, rfl, ?_, rfl, ?_, trivial⟩
       ·intro g3
        refine TL.move rfl rfl (v := .bool first1) rfl ?_
        refine TL.done ?_
        exact TC.nrm () [] ⟨(by rw [c5]; rfl), trivial⟩ [] (by kernel_rfl)
       ·intro g3
        refine TL.move rfl rfl (v := .bool false) rfl ?_
        refine TL.done ?_
        exact TC.nrm () [] ⟨rfl, trivial⟩ [] (by kernel_rfl)
       ·intro b3_ b6_ b7_ b8_ b9_ g3
        refine TL.skip rfl rfl (by decide) ?_
        refine TL.done ?_
        exact TC.nrm () [] ⟨rfl, trivial⟩ [] (by kernel_rfl)
       ·intro b2_ b6_ b7_ b8_ b9_ g3
        refine TL.skip rfl rfl (by decide) ?_
        refine TL.done ?_
        exact TC.nrm () [] ⟨rfl, trivial⟩ [] (by kernel_rfl)
       ·intro b6_ b7_ b8_ b9_ g3
        refine TL.asL [] (by kernel_rfl) ?_
        refine TL.skip rfl rfl (by decide) ?_
        refine TL.done ?_
        exact TC.nrm () [] ⟨rfl, trivial⟩ [] (by kernel_rfl)
       ·intro b6_ b7_ b8_ b9_ g3
        refine TL.asL [] (by kernel_rfl) ?_
        refine TL.skip rfl rfl (by decide) ?_
        refine TL.done ?_
        exact TC.nrm () [] ⟨rfl, trivial⟩ [] (by kernel_rfl)
       ·intro b2_ b3_ b4_ b5_ b7_ g3
        refine TL.skip rfl rfl (by decide) ?_
        refine TL.done ?_
        exact TC.nrm () [] ⟨rfl, trivial⟩ [] (by kernel_rfl)
       ·intro b2_ b3_ b4_ b5_ b6_ g3
        refine TL.skip rfl rfl (by decide) ?_
        refine TL.done ?_
        exact TC.nrm () [] ⟨rfl, trivial⟩ [] (by kernel_rfl)
       ·intro b2_ b3_ b4_ b5_ g3
        refine TL.asL [] (by kernel_rfl) ?_
        refine TL.skip rfl rfl (by decide) ?_
        refine TL.done ?_
        exact TC.nrm () [] ⟨rfl, trivial⟩ [] (by kernel_rfl)
       ·intro b2_ b3_ b4_ b5_ g3
        refine TL.asL [] (by kernel_rfl) ?_
        refine TL.skip rfl rfl (by decide) ?_
        refine TL.done ?_
        exact TC.nrm () [] ⟨rfl, trivial⟩ [] (by kernel_rfl)
       ·intro g3
        refine TL.skip rfl rfl (by decide) ?_
        refine TL.done ?_
        exact TC.nrm () [] ⟨rfl, trivial⟩ [] (by kernel_rfl)
       ·intro g3
        refine TL.pick rfl rfl (b := false) rfl (r := .bool false) rfl ?_
        refine TL.done ?_
        exact TC.nrm () [] ⟨rfl, trivial⟩ [] (by kernel_rfl)
       ·intro g3
        refine TL.assign rfl rfl (v := .bool false) rfl ?_
        refine TL.done ?_
        exact TC.nrm () [] ⟨rfl, trivial⟩ [] (by kernel_rfl)
      ·intro g3
       refine TC.asL [] (by kernel_rfl) ?_
       refine TC.region ?_
       refine TL.move rfl rfl (v := .int .i64 k_1) rfl ?_
       refine TL.bin .i64 k_1 1 rfl rfl rfl rfl (v := .int .i64 (w64 (k_1 + 1))) rfl ?_
       refine TL.assign rfl rfl (v := .int .i64 (w64 (k_1 + 1))) rfl ?_
       refine TL.done ?_
       exact TC.next1 ((false, (w64 (k_1 + 1)))) (()) ⟨rfl, rfl, rfl, rfl, rfl, trivial⟩ [] rfl
    ·exact TC.brk1 ((first1, k_1)) (()) ⟨rfl, rfl, rfl, rfl, rfl, trivial⟩ [] rfl
   ·rintro ⟨first1, k_1⟩ _
    refine TC.seq ?_
    refine TC.region ?_
    refine TL.move rfl rfl (v := .bool first1) rfl ?_
    refine TL.done ?_
    refine TC.join1 (σ := Int) (γ := Unit) (Γ' := (fun count2 _ => [(0, SV.v s1), (3, .int .i64 count2), (4, .int .i64 i1)])) (L' := (fun count2 _ => [])) ?_ ?_
    ·refine TC.cond (b := first1) rfl (fun c6 => ?_) (fun c7 => ?_)
     ·refine TC.region ?_
      refine TL.move rfl rfl (v := .int .i64 count1) rfl ?_
      refine TL.bin .i64 count1 1 rfl rfl rfl rfl (v := .int .i64 (w64 (count1 + 1))) rfl ?_
      refine TL.assign rfl rfl (v := .int .i64 (w64 (count1 + 1))) rfl ?_
      refine TL.done ?_
      exact TC.nrm ((w64 (count1 + 1))) (()) ⟨rfl, rfl, rfl, trivial⟩ [] rfl
     ·refine TC.skip ?_
      exact TC.nrm (count1) (()) ⟨rfl, rfl, rfl, trivial⟩ [] rfl
    ·rintro count2 _
     refine TC.region ?_
     refine TL.move rfl rfl (v := .int .i64 i1) rfl ?_
     refine TL.bin .i64 i1 1 rfl rfl rfl rfl (v := .int .i64 (w64 (i1 + 1))) rfl ?_
     refine TL.assign rfl rfl (v := .int .i64 (w64 (i1 + 1))) rfl ?_
     refine TL.done ?_
     exact TC.next1 ((count2, (w64 (i1 + 1)))) (()) ⟨rfl, rfl, rfl, trivial⟩ [] rfl
  ·exact TC.brk1 ((count1, i1)) (()) ⟨rfl, rfl, rfl, trivial⟩ [] rfl
 ·rintro ⟨count1, i1⟩ _
  refine TC.seq ?_
  refine TC.region ?_
  refine TL.move rfl rfl (v := .int .i64 count1) rfl ?_
  refine TL.assign rfl rfl (v := .int .i64 count1) rfl ?_
  refine TL.done ?_
  exact TC.retF (Fin.body (fin1 (.inr rfl) rfl (.tmp rfl) [] rfl ⟨rfl, rfl⟩))

end Go.Proofs.Ytiiljfpbcanphaa.G

/- spec.l07Numbers, as a pure function. -/
set_option linter.unusedVariables false
namespace Go.Proofs.Ytiiljfpbcanphaa.G
open Go Go.Sx Go.Proofs

def spec_l07Numbers.b0 (n_1 : Int) : (List Int) × Int → Option (LB ((List Int) × Int)) := fun p => match p with | (out1, i1) => (bif (decide (i1 < n_1)) then small (out1.length + ([i1] : List Int).length) (some (.next ((out1 ++ ([i1] : List Int)), (w64 (i1 + 1))))) else some (.brk (out1, i1)))

def spec_l07Numbers.f (n_1 : Int) : Option (List Int) := (loop1 (spec_l07Numbers.b0 n_1) (([] : List Int), 0)).bind (fun p => match p with | (out1, i1) => some out1)

def spec_l07Numbers.R (r : List Int) (v : Value) (L : List Asn) : Prop := ∃ (s0 : SV), v = SV.v s0 ∧ L = [row Ei 2 s0 r]

set_option maxRecDepth 100000 in
set_option maxHeartbeats 4000000 in
theorem spec_l07Numbers.calls (w : World) (n_1 : Int) :
  ∀ r, spec_l07Numbers.f n_1 = some r → Calls Try.prog 174 #[.int .i64 n_1] w (Ret w (spec_l07Numbers.R r)) := by

 refine calls_T (n := 16) (Γ := [(0, .int .i64 n_1)]) (R := spec_l07Numbers.R) Try.func174 rfl rfl (Nat.le_of_ble_eq_true rfl) ⟨rfl, trivial⟩ ?_
 unfold spec_l07Numbers.f
 refine TC.seq ?_
 refine TC.region ?_
 refine TL.assign rfl rfl (v := SV.v ⟨none, 0, 0⟩) rfl ?_
 refine TL.done ?_
 refine TC.seq ?_
 refine TC.region ?_
 refine TL.bslice0 Ei Try.underlying22 Try.sizeOf2 rfl rfl fun s1 => ?_
 refine TL.assign rfl rfl (v := SV.v s1) rfl ?_
 refine TL.done ?_
 refine TC.seq ?_
 refine TC.seq ?_
 refine TC.region ?_
 refine TL.assign rfl rfl (v := .int .i64 0) rfl ?_
 refine TL.done ?_
 refine TC.loop1 (σ := (List Int) × Int) (γ := SV) (Γ' := (fun p q => match p, q with | (out1, i1), s2 => [(0, .int .i64 n_1), (3, SV.v s2), (4, .int .i64 i1)])) (L' := (fun p q => match p, q with | (out1, i1), s2 => [row Ei 2 s2 out1])) (Γb := (fun p q => match p, q with | (out1, i1), s2 => [(0, .int .i64 n_1), (3, SV.v s2), (4, .int .i64 i1)])) (Lb := (fun p q => match p, q with | (out1, i1), s2 => [row Ei 2 s2 out1])) ((([] : List Int), 0)) (s1) ⟨rfl, rfl, rfl, trivial⟩ [0] rfl ?_ ?_
 ·rintro ⟨out1, i1⟩ s2
  refine TC.seq ?_
  refine TC.seq ?_
  refine TC.region ?_
  refine TL.move rfl rfl (v := .int .i64 i1) rfl ?_
  refine TL.move rfl rfl (v := .int .i64 n_1) rfl ?_
  refine TL.bin .i64 i1 n_1 rfl rfl rfl rfl (v := .bool (decide (i1 < n_1))) rfl ?_
  refine TL.done ?_
  refine TC.cond (b := (decide (i1 < n_1))) rfl (fun c1 => ?_) (fun c2 => ?_)
  ·refine TC.skip ?_
   refine TC.seq ?_
   refine TC.block (NoEx.loop1 rfl) ?_
   refine TC.region ?_
   refine TL.move rfl rfl (v := SV.v s2) rfl ?_
   refine TL.move rfl rfl (v := .int .i64 i1) rfl ?_
   refine TL.blit Ei ([i1] : List Int) Try.underlying22 Try.sizeOf2 Try.zeroValue2 rfl rfl rfl [(0, .int .i64 i1)] rfl ⟨rfl, rfl, trivial⟩ rfl rfl fun s3 => ?_
   refine TL.small fun h1 => ?_
   refine TL.append 1 rfl (Rd.row 0 rfl) Try.underlying22 (info_of Try.type2) (zv := (Try.t2.zero.getD (.bool false))) rfl rfl rfl (by decide) h1 rfl rfl rfl rfl fun s4 => ?_
   refine TL.assign rfl rfl (v := SV.v s4) rfl ?_
   refine TL.done ?_
   refine TC.region ?_
   refine TL.move rfl rfl (v := .int .i64 i1) rfl ?_
   refine TL.bin .i64 i1 1 rfl rfl rfl rfl (v := .int .i64 (w64 (i1 + 1))) rfl ?_
   refine TL.assign rfl rfl (v := .int .i64 (w64 (i1 + 1))) rfl ?_
   refine TL.done ?_
   exact TC.next1 (((out1 ++ ([i1] : List Int)), (w64 (i1 + 1)))) (s4) ⟨rfl, rfl, rfl, trivial⟩ [1] rfl
  ·exact TC.brk1 ((out1, i1)) (s2) ⟨rfl, rfl, rfl, trivial⟩ [0] rfl
 ·rintro ⟨out1, i1⟩ s2
  refine TC.seq ?_
  refine TC.region ?_
  refine TL.move rfl rfl (v := SV.v s2) rfl ?_
  refine TL.assign rfl rfl (v := SV.v s2) rfl ?_
  refine TL.done ?_
  exact TC.retF (Fin.body (fin1 (.inr rfl) rfl (.tmp rfl) [0] rfl ⟨s2, rfl, rfl⟩))

end Go.Proofs.Ytiiljfpbcanphaa.G

/- spec.l07Join, as a pure function. -/
set_option linter.unusedVariables false
namespace Go.Proofs.Ytiiljfpbcanphaa.G
open Go Go.Sx Go.Proofs

def spec_l07Join.b0 (leaders1 : List Int) (k_1 : Int) (i1 : Int) : (List Int) × Int → Option (LB ((List Int) × Int)) := fun p => match p with | (out1, j1) => (bif (decide (j1 < (out1.length : Int))) then chk j1 out1.length (((bif ((gt out1 j1) == (gt leaders1 k_1)) then some (out1.set j1.toNat (gt leaders1 i1)) else some out1)).bind (fun out2 => some (.next (out2, (w64 (j1 + 1)))))) else some (.brk (out1, j1)))

def spec_l07Join.f (leaders1 : List Int) (i1 : Int) (k_1 : Int) : Option (List Int) := (G.spec_l01Own.f leaders1).bind (fun r_1 => chk i1 leaders1.length (chk k_1 leaders1.length ((loop1 (spec_l07Join.b0 leaders1 k_1 i1) (r_1, 0)).bind (fun p => match p with | (out1, j1) => some out1))))

def spec_l07Join.R (r : List Int) (v : Value) (L : List Asn) : Prop := ∃ (s0 : SV), v = SV.v s0 ∧ L = [row Ei 2 s0 r]

set_option maxRecDepth 100000 in
set_option maxHeartbeats 4000000 in
theorem spec_l07Join.calls (w : World) (s1 : SV) (leaders1 : List Int) (i1 : Int) (k_1 : Int) (h1 : Reads Ei (hp w) s1 leaders1) :
  ∀ r, spec_l07Join.f leaders1 i1 k_1 = some r → Calls Try.prog 175 #[SV.v s1, .int .i64 i1, .int .i64 k_1] w (Ret w (spec_l07Join.R r)) := by

 refine calls_T (n := 38) (Γ := [(0, SV.v s1), (1, .int .i64 i1), (2, .int .i64 k_1)]) (R := spec_l07Join.R) Try.func175 rfl rfl (Nat.le_of_ble_eq_true rfl) ⟨rfl, rfl, rfl, trivial⟩ ?_
 unfold spec_l07Join.f
 refine TC.seq ?_
 refine TC.region ?_
 refine TL.assign rfl rfl (v := SV.v ⟨none, 0, 0⟩) rfl ?_
 refine TL.done ?_
 refine TC.seq ?_
 refine TC.wk (Γ' := [(0, SV.v s1), (1, .int .i64 i1), (2, .int .i64 k_1), (6, SV.v ⟨none, 0, 0⟩)]) ⟨rfl, rfl, rfl, rfl, trivial⟩ ?_
 refine TC.bindE ?_
 rintro r_1 hr1
 refine TC.chk fun h2 => ?_
 refine TC.chk fun h3 => ?_
 refine TC.drawG [(0, SV.v s1), (1, .int .i64 i1), (2, .int .i64 k_1), (6, SV.v ⟨none, 0, 0⟩)] [] ⟨rfl, rfl, rfl, rfl, trivial⟩ trivial (fun l_ g1 => [(bif nb l_ 1 then row Ei 2 (gs (g1 8)) r_1 else emp)]) (fun g1 => [SV.v s1, SV.v (gs (g1 8)), SV.v s1, .int .i64 i1, ep s1 i1.toNat, .int .i64 (gt leaders1 i1), SV.v s1, .int .i64 k_1, ep s1 k_1.toNat, .int .i64 (gt leaders1 k_1), SV.v (gs (g1 8)), .int .i64 (gt leaders1 i1), .int .i64 (gt leaders1 k_1)]) [[], [0], [], [], [2, 3], [2, 3, 4], [], [], [6, 7], [6, 7, 8], [0, 1], [0, 1, 2, 3, 4, 5, 10], [0, 1, 2, 3, 4, 5, 6, 7, 8, 9, 10, 11]] [[some false, some false, none, none, none, none, none, none, none, none, some false, some false, some false], [some true, some false, none, none, none, none, none, none, none, none, some false, some false, some false], [none, none, some false, none, some false, some false, none, none, none, none, none, some false, some false], [none, none, none, some false, some false, some false, none, none, none, none, none, some false, some false], [none, none, some true, some true, some false, some false, none, none, none, none, none, some false, some false], [none, none, some true, some true, some true, some false, none, none, none, none, none, some false, some false], [none, none, none, none, none, none, some false, none, some false, some false, none, none, some false], [none, none, none, none, none, none, none, some false, some false, some false, none, none, some false], [none, none, none, none, none, none, some true, some true, some false, some false, none, none, some false], [none, none, none, none, none, none, some true, some true, some true, some false, none, none, some false], [some true, some true, none, none, none, none, none, none, none, none, some false, some false, some false], [some true, some true, some true, some true, some true, some true, none, none, none, none, some true, some false, some false], [some true, some true, some true, some true, some true, some true, some true, some true, some true, some true, some true, some true, some false]] (by kernel_rfl) (fun _ => rfl) rfl rfl rfl rfl rfl (fun _ _ => ⟨⟨⟨⟨⟨⟨⟨⟨⟨⟨⟨⟨⟨trivial, rfl⟩, rfl⟩, rfl⟩, rfl⟩, rfl⟩, rfl⟩, rfl⟩, rfl⟩, rfl⟩, rfl⟩, rfl⟩, rfl⟩, rfl⟩) 1 [0] (fun _ => by kernel_rfl) ?_ ?_
 ·refine ⟨rfl, ?_, rfl, ?_, rfl, ?_, rfl, ?_, rfl, ?_, rfl, ?_, rfl, ?_, rfl, ?_, rfl, ?_, rfl, ?_, rfl, ?_, rfl, ?_, rfl, ?_, trivial⟩
  ·intro b2_ b3_ b4_ b5_ b6_ b7_ b8_ b9_ g1
   refine TL.move rfl rfl (v := SV.v s1) rfl ?_
   refine TL.done ?_
   exact TC.nrm () [] ⟨rfl, trivial⟩ [0] (by kernel_rfl)
  ·intro b2_ b3_ b4_ b5_ b6_ b7_ b8_ b9_ g1
   refine TL.asL [emp] (by kernel_rfl) ?_
   refine TL.callH (R := G.spec_l01Own.R) hr1 Try.call165 rfl rfl rfl (fun w hS => G.spec_l01Own.calls w s1 leaders1 ((Rd.old h1) w hS)) ?_
   rintro _ _ ⟨s2, rfl, rfl⟩
   refine TL.done ?_
   exact TC.nrm () [[s2]] ⟨rfl, trivial⟩ [0] (by kernel_rfl)
  ·intro b0_ b1_ b3_ b6_ b7_ b8_ b9_ b10_ g1
   refine TL.move rfl rfl (v := SV.v s1) rfl ?_
   refine TL.done ?_
   exact TC.nrm () [] ⟨rfl, trivial⟩ [0] (by kernel_rfl)
  ·intro b0_ b1_ b2_ b6_ b7_ b8_ b9_ b10_ g1
   refine TL.move rfl rfl (v := .int .i64 i1) rfl ?_
   refine TL.done ?_
   exact TC.nrm () [] ⟨rfl, trivial⟩ [0] (by kernel_rfl)
  ·intro b0_ b1_ b6_ b7_ b8_ b9_ b10_ g1
   refine TL.asL [(bif b1_ then row Ei 2 (gs (g1 8)) r_1 else emp)] (by kernel_rfl) ?_
   refine TL.ixs i1 i1.toNat (Rd.old h1) h2 Try.underlying22 Try.sizeOf2 rfl rfl rfl rfl (by omega) ?_
   refine TL.done ?_
   exact TC.nrm () [] ⟨rfl, trivial⟩ [0] (by kernel_rfl)
  ·intro b0_ b1_ b6_ b7_ b8_ b9_ b10_ g1
   refine TL.asL [(bif b1_ then row Ei 2 (gs (g1 8)) r_1 else emp)] (by kernel_rfl) ?_
   refine TL.loadE (Rd.old h1) Try.isAgg2 i1.toNat 0 (gt_spec h2) (v := .int .i64 (gt leaders1 i1)) rfl (by simp only [show Ei.sz = 1 from rfl] <;> omega) rfl rfl rfl ?_
   refine TL.done ?_
   exact TC.nrm () [] ⟨rfl, trivial⟩ [0] (by kernel_rfl)
  ·intro b0_ b1_ b2_ b3_ b4_ b5_ b7_ b10_ b11_ g1
   refine TL.move rfl rfl (v := SV.v s1) rfl ?_
   refine TL.done ?_
   exact TC.nrm () [] ⟨rfl, trivial⟩ [0] (by kernel_rfl)
  ·intro b0_ b1_ b2_ b3_ b4_ b5_ b6_ b10_ b11_ g1
   refine TL.move rfl rfl (v := .int .i64 k_1) rfl ?_
   refine TL.done ?_
   exact TC.nrm () [] ⟨rfl, trivial⟩ [0] (by kernel_rfl)
  ·intro b0_ b1_ b2_ b3_ b4_ b5_ b10_ b11_ g1
   refine TL.asL [(bif b1_ then row Ei 2 (gs (g1 8)) r_1 else emp)] (by kernel_rfl) ?_
   refine TL.ixs k_1 k_1.toNat (Rd.old h1) h3 Try.underlying22 Try.sizeOf2 rfl rfl rfl rfl (by omega) ?_
   refine TL.done ?_
   exact TC.nrm () [] ⟨rfl, trivial⟩ [0] (by kernel_rfl)
  ·intro b0_ b1_ b2_ b3_ b4_ b5_ b10_ b11_ g1
   refine TL.asL [(bif b1_ then row Ei 2 (gs (g1 8)) r_1 else emp)] (by kernel_rfl) ?_
   refine TL.loadE (Rd.old h1) Try.isAgg2 k_1.toNat 0 (gt_spec h3) (v := .int .i64 (gt leaders1 k_1)) rfl (by simp only [show Ei.sz = 1 from rfl] <;> omega) rfl rfl rfl ?_
   refine TL.done ?_
   exact TC.nrm () [] ⟨rfl, trivial⟩ [0] (by kernel_rfl)
  ·intro b2_ b3_ b4_ b5_ b6_ b7_ b8_ b9_ g1
   refine TL.assign rfl rfl (v := SV.v (gs (g1 8))) rfl ?_
   refine TL.done ?_
   exact TC.nrm () [] ⟨rfl, trivial⟩ [0] (by kernel_rfl)
  ·intro b6_ b7_ b8_ b9_ g1
   refine TL.assign rfl rfl (v := .int .i64 (gt leaders1 i1)) rfl ?_
   refine TL.done ?_
   exact TC.nrm () [] ⟨rfl, trivial⟩ [0] (by kernel_rfl)
  ·intro g1
   refine TL.assign rfl rfl (v := .int .i64 (gt leaders1 k_1)) rfl ?_
   refine TL.done ?_
   exact TC.nrm () [] ⟨rfl, trivial⟩ [0] (by kernel_rfl)
 ·intro g1
  refine TC.asL [row Ei 2 (gs (g1 8)) r_1] (by kernel_rfl) ?_
  refine TC.seq ?_
  refine TC.seq ?_
  refine TC.region ?_
  refine TL.assign rfl rfl (v := .int .i64 0) rfl ?_
  refine TL.done ?_
  refine TC.loop1 (σ := (List Int) × Int) (γ := Unit) (Γ' := (fun p q => match p, q with | (out1, j1), _ => [(7, SV.v (gs (g1 8))), (8, .int .i64 (gt leaders1 i1)), (9, .int .i64 (gt leaders1 k_1)), (10, .int .i64 j1)])) (L' := (fun p q => match p, q with | (out1, j1), _ => [row Ei 2 (gs (g1 8)) out1])) (Γb := (fun p q => match p, q with | (out1, j1), _ => [(7, SV.v (gs (g1 8))), (8, .int .i64 (gt leaders1 i1)), (9, .int .i64 (gt leaders1 k_1)), (10, .int .i64 j1)])) (Lb := (fun p q => match p, q with | (out1, j1), _ => [row Ei 2 (gs (g1 8)) out1])) ((r_1, 0)) (()) ⟨rfl, rfl, rfl, rfl, trivial⟩ [0] rfl ?_ ?_
  ·rintro ⟨out1, j1⟩ _
   refine TC.seq ?_
   refine TC.seq ?_
   refine TC.region ?_
   refine TL.move rfl rfl (v := .int .i64 j1) rfl ?_
   refine TL.move rfl rfl (v := SV.v (gs (g1 8))) rfl ?_
   refine TL.len (Rd.row 0 rfl) Try.underlying22 rfl rfl rfl ?_
   refine TL.bin .i64 j1 (out1.length : Int) rfl rfl rfl rfl (v := .bool (decide (j1 < (out1.length : Int)))) rfl ?_
   refine TL.done ?_
   refine TC.cond (b := (decide (j1 < (out1.length : Int)))) rfl (fun c1 => ?_) (fun c2 => ?_)
   ·refine TC.skip ?_
    refine TC.seq ?_
    refine TC.block (NoEx.loop1 rfl) ?_
    refine TC.seq ?_
    refine TC.region ?_
    refine TL.move rfl rfl (v := SV.v (gs (g1 8))) rfl ?_
    refine TL.move rfl rfl (v := .int .i64 j1) rfl ?_
    refine TL.chk fun h4 => ?_
    refine TL.ixs j1 j1.toNat (Rd.row 0 rfl) h4 Try.underlying22 Try.sizeOf2 rfl rfl rfl rfl (by omega) ?_
    refine TL.loadE (Rd.row 0 rfl) Try.isAgg2 j1.toNat 0 (gt_spec h4) (v := .int .i64 (gt out1 j1)) rfl (by simp only [show Ei.sz = 1 from rfl] <;> omega) rfl rfl rfl ?_
    refine TL.move rfl rfl (v := .int .i64 (gt leaders1 k_1)) rfl ?_
    refine TL.bin .i64 (gt out1 j1) (gt leaders1 k_1) rfl rfl rfl rfl (v := .bool ((gt out1 j1) == (gt leaders1 k_1))) rfl ?_
    refine TL.done ?_
    refine TC.join1 (σ := (List Int)) (γ := Unit) (Γ' := (fun out2 _ => [(7, SV.v (gs (g1 8))), (8, .int .i64 (gt leaders1 i1)), (9, .int .i64 (gt leaders1 k_1)), (10, .int .i64 j1)])) (L' := (fun out2 _ => [row Ei 2 (gs (g1 8)) out2])) ?_ ?_
    ·refine TC.cond (b := ((gt out1 j1) == (gt leaders1 k_1))) rfl (fun c3 => ?_) (fun c4 => ?_)
     ·refine TC.region ?_
      refine TL.move rfl rfl (v := SV.v (gs (g1 8))) rfl ?_
      refine TL.move rfl rfl (v := .int .i64 j1) rfl ?_
      refine TL.move rfl rfl (v := .int .i64 (gt leaders1 i1)) rfl ?_
      refine TL.ixs j1 j1.toNat (Rd.row 0 rfl) h4 Try.underlying22 Try.sizeOf2 rfl rfl rfl rfl (by omega) ?_
      refine TL.stE 0 (j1.toNat) (gt leaders1 i1) (v := .int .i64 (gt leaders1 i1)) rfl Try.sizeOf2 rfl rfl rfl (by have h_ := h4; omega) (by simp only [show Ei.sz = 1 from rfl] <;> omega) rfl rfl rfl ?_
      refine TL.done ?_
      exact TC.nrm ((out1.set j1.toNat (gt leaders1 i1))) (()) ⟨rfl, rfl, rfl, rfl, trivial⟩ [0] rfl
     ·refine TC.skip ?_
      exact TC.nrm (out1) (()) ⟨rfl, rfl, rfl, rfl, trivial⟩ [0] rfl
    ·rintro out2 _
     refine TC.region ?_
     refine TL.move rfl rfl (v := .int .i64 j1) rfl ?_
     refine TL.bin .i64 j1 1 rfl rfl rfl rfl (v := .int .i64 (w64 (j1 + 1))) rfl ?_
     refine TL.assign rfl rfl (v := .int .i64 (w64 (j1 + 1))) rfl ?_
     refine TL.done ?_
     exact TC.next1 ((out2, (w64 (j1 + 1)))) (()) ⟨rfl, rfl, rfl, rfl, trivial⟩ [0] rfl
   ·exact TC.brk1 ((out1, j1)) (()) ⟨rfl, rfl, rfl, rfl, trivial⟩ [0] rfl
  ·rintro ⟨out1, j1⟩ _
   refine TC.seq ?_
   refine TC.region ?_
   refine TL.move rfl rfl (v := SV.v (gs (g1 8))) rfl ?_
   refine TL.assign rfl rfl (v := SV.v (gs (g1 8))) rfl ?_
   refine TL.done ?_
   exact TC.retF (Fin.body (fin1 (.inr rfl) rfl (.tmp rfl) [0] rfl ⟨(gs (g1 8)), rfl, rfl⟩))

end Go.Proofs.Ytiiljfpbcanphaa.G

/- spec.l07Pieces, as a pure function. -/
set_option linter.unusedVariables false
namespace Go.Proofs.Ytiiljfpbcanphaa.G
open Go Go.Sx Go.Proofs

def spec_l07Pieces.b0 (i1 : Int) (s1 : List (List Int)) : (List Int) × Int → Option (LB ((List Int) × Int)) := fun p => match p with | (leaders2, k_1) => (bif (decide (k_1 < i1)) then chk i1 s1.length (chk k_1 s1.length ((G.spec_l07Touch.f (gt s1 i1) (gt s1 k_1)).bind (fun p => match p with | (r_2, r_3) => ((bif r_2 then (G.spec_l07Join.f leaders2 i1 k_1).bind (fun r_4 => some r_4) else some leaders2)).bind (fun leaders3 => some (.next (leaders3, (w64 (k_1 + 1)))))))) else some (.brk (leaders2, k_1)))

def spec_l07Pieces.b1 (s1 : List (List Int)) : (List Int) × Int → Option (LB ((List Int) × Int)) := fun p => match p with | (leaders1, i1) => (bif (decide (i1 < (s1.length : Int))) then (loop1 (spec_l07Pieces.b0 i1 s1) (leaders1, 0)).bind (fun p => match p with | (leaders2, k_1) => some (.next (leaders2, (w64 (i1 + 1))))) else some (.brk (leaders1, i1)))

def spec_l07Pieces.f (s1 : List (List Int)) : Option (List Int) := (G.spec_l07Numbers.f (s1.length : Int)).bind (fun r_1 => (loop1 (spec_l07Pieces.b1 s1) (r_1, 0)).bind (fun p => match p with | (leaders1, i1) => some leaders1))

def spec_l07Pieces.R (r : List Int) (v : Value) (L : List Asn) : Prop := ∃ (s0 : SV), v = SV.v s0 ∧ L = [row Ei 2 s0 r]

set_option maxRecDepth 100000 in
set_option maxHeartbeats 4000000 in
theorem spec_l07Pieces.calls (w : World) (s2 : SV) (ss1 : List SV) (s1 : List (List Int)) (h1 : ReadsM Ei (hp w) s2 ss1 s1) :
  ∀ r, spec_l07Pieces.f s1 = some r → Calls Try.prog 134 #[SV.v s2] w (Ret w (spec_l07Pieces.R r)) := by

 refine calls_T (n := 40) (Γ := [(0, SV.v s2)]) (R := spec_l07Pieces.R) Try.func134 rfl rfl (Nat.le_of_ble_eq_true rfl) ⟨rfl, trivial⟩ ?_
 unfold spec_l07Pieces.f
 refine TC.seq ?_
 refine TC.region ?_
 refine TL.assign rfl rfl (v := SV.v ⟨none, 0, 0⟩) rfl ?_
 refine TL.done ?_
 refine TC.seq ?_
 refine TC.region ?_
 refine TL.move rfl rfl (v := SV.v s2) rfl ?_
 refine TL.lenM (RdM.old h1) Try.underlying32 rfl rfl rfl ?_
 refine TL.call (R := G.spec_l07Numbers.R) Try.call174 rfl rfl rfl (fun w hS => G.spec_l07Numbers.calls w (s1.length : Int)) ?_
 rintro r_1 _ _ ⟨s3, rfl, rfl⟩
 refine TL.assign rfl rfl (v := SV.v s3) rfl ?_
 refine TL.done ?_
 refine TC.seq ?_
 refine TC.seq ?_
 refine TC.region ?_
 refine TL.assign rfl rfl (v := .int .i64 0) rfl ?_
 refine TL.done ?_
 refine TC.loop1 (σ := (List Int) × Int) (γ := SV) (Γ' := (fun p q => match p, q with | (leaders1, i1), s4 => [(0, SV.v s2), (3, SV.v s4), (4, .int .i64 i1)])) (L' := (fun p q => match p, q with | (leaders1, i1), s4 => [row Ei 2 s4 leaders1])) (Γb := (fun p q => match p, q with | (leaders1, i1), s4 => [(0, SV.v s2), (3, SV.v s4), (4, .int .i64 i1)])) (Lb := (fun p q => match p, q with | (leaders1, i1), s4 => [row Ei 2 s4 leaders1])) ((r_1, 0)) (s3) ⟨rfl, rfl, rfl, trivial⟩ [0] rfl ?_ ?_
 ·rintro ⟨leaders1, i1⟩ s4
  refine TC.seq ?_
  refine TC.seq ?_
  refine TC.region ?_
  refine TL.move rfl rfl (v := .int .i64 i1) rfl ?_
  refine TL.move rfl rfl (v := SV.v s2) rfl ?_
  refine TL.lenM (RdM.old h1) Try.underlying32 rfl rfl rfl ?_
  refine TL.bin .i64 i1 (s1.length : Int) rfl rfl rfl rfl (v := .bool (decide (i1 < (s1.length : Int)))) rfl ?_
  refine TL.done ?_
  refine TC.cond (b := (decide (i1 < (s1.length : Int)))) rfl (fun c1 => ?_) (fun c2 => ?_)
  ·refine TC.skip ?_
   refine TC.seq ?_
   refine TC.block (NoEx.loop1 rfl) ?_
   refine TC.seq ?_
   refine TC.region ?_
   refine TL.assign rfl rfl (v := .int .i64 0) rfl ?_
   refine TL.done ?_
   refine TC.loop1 (σ := (List Int) × Int) (γ := SV) (Γ' := (fun p q => match p, q with | (leaders2, k_1), s5 => [(0, SV.v s2), (3, SV.v s5), (4, .int .i64 i1), (5, .int .i64 k_1)])) (L' := (fun p q => match p, q with | (leaders2, k_1), s5 => [row Ei 2 s5 leaders2])) (Γb := (fun p q => match p, q with | (leaders2, k_1), s5 => [(0, SV.v s2), (3, SV.v s5), (4, .int .i64 i1), (5, .int .i64 k_1)])) (Lb := (fun p q => match p, q with | (leaders2, k_1), s5 => [row Ei 2 s5 leaders2])) ((leaders1, 0)) (s4) ⟨rfl, rfl, rfl, rfl, trivial⟩ [0] rfl ?_ ?_
   ·rintro ⟨leaders2, k_1⟩ s5
    refine TC.seq ?_
    refine TC.seq ?_
    refine TC.region ?_
    refine TL.move rfl rfl (v := .int .i64 k_1) rfl ?_
    refine TL.move rfl rfl (v := .int .i64 i1) rfl ?_
    refine TL.bin .i64 k_1 i1 rfl rfl rfl rfl (v := .bool (decide (k_1 < i1))) rfl ?_
    refine TL.done ?_
    refine TC.cond (b := (decide (k_1 < i1))) rfl (fun c3 => ?_) (fun c4 => ?_)
    ·refine TC.skip ?_
     refine TC.seq ?_
     refine TC.block (NoEx.loop1 rfl) ?_
     refine TC.seq ?_
     refine TC.wk (Γ' := [(0, SV.v s2), (3, SV.v s5), (4, .int .i64 i1), (5, .int .i64 k_1), (17, .int .i64 k_1), (18, .int .i64 i1), (19, .bool (decide (k_1 < i1)))]) ⟨rfl, rfl, rfl, rfl, rfl, rfl, rfl, trivial⟩ ?_
     refine TC.chk fun h2 => ?_
     refine TC.chk fun h3 => ?_
     refine TC.bindE ?_
     rintro ⟨r_2, r_3⟩ hr1
     refine TC.drawG [(0, SV.v s2), (3, SV.v s5), (4, .int .i64 i1), (5, .int .i64 k_1), (17, .int .i64 k_1), (18, .int .i64 i1), (19, .bool (decide (k_1 < i1)))] [] ⟨rfl, rfl, rfl, rfl, rfl, rfl, rfl, trivial⟩ trivial (fun l_ g1 => [row Ei 2 s5 leaders2]) (fun g1 => [SV.v s2, .int .i64 i1, ep s2 i1.toNat, SV.v (gt ss1 i1), SV.v s2, .int .i64 k_1, ep s2 k_1.toNat, SV.v (gt ss1 k_1), .tuple #[.bool r_2, .bool r_3], .tuple #[.bool r_2, .bool r_3], .bool r_2, .bool r_3, .bool r_2, .bool r_3]) [[], [], [0, 1], [0, 1, 2], [], [], [4, 5], [4, 5, 6], [0, 1, 2, 3, 4, 5, 6, 7], [0, 1, 2, 3, 4, 5, 6, 7, 8], [0, 1, 2, 3, 4, 5, 6, 7, 8, 9], [0, 1, 2, 3, 4, 5, 6, 7, 8, 9], [0, 1, 2, 3, 4, 5, 6, 7, 8, 9, 10], [0, 1, 2, 3, 4, 5, 6, 7, 8, 9, 10, 11, 12]] [[some false, none, some false, some false, none, none, none, none, some false, some false, some false, some false, some false, some false], [none, some false, some false, some false, none, none, none, none, some false, some false, some false, some false, some false, some false], [some true, some true, some false, some false, none, none, none, none, some false, some false, some false, some false, some false, some false], [some true, some true, some true, some false, none, none, none, none, some false, some false, some false, some false, some false, some false], [none, none, none, none, some false, none, some false, some false, some false, some false, some false, some false, some false, some false], [none, none, none, none, none, some false, some false, some false, some false, some false, some false, some false, some false, some false], [none, none, none, none, some true, some true, some false, some false, some false, some false, some false, some false, some false, some false], [none, none, none, none, some true, some true, some true, some false, some false, some false, some false, some false, some false, some false], [some true, some true, some true, some true, some true, some true, some true, some true, some false, some false, some false, some false, some false, some false], [some true, some true, some true, some true, some true, some true, some true, some true, some true, some false, some false, some false, some false, some false], [some true, some true, some true, some true, some true, some true, some true, some true, some true, some true, some false, none, some false, some false], [some true, some true, some true, some true, some true, some true, some true, some true, some true, some true, none, some false, none, some false], [some true, some true, some true, some true, some true, some true, some true, some true, some true, some true, some true, none, some false, some false], [some true, some true, some true, some true, some true, some true, some true, some true, some true, some true, some true, some true, some true, some false]] (by kernel_rfl) (fun _ => rfl) rfl rfl rfl rfl rfl (fun _ _ => ⟨⟨⟨⟨⟨⟨⟨⟨⟨⟨⟨⟨⟨⟨trivial, rfl⟩, rfl⟩, rfl⟩, rfl⟩, rfl⟩, rfl⟩, rfl⟩, rfl⟩, rfl⟩, rfl⟩, rfl⟩, rfl⟩, rfl⟩, rfl⟩) 0 [0] (fun _ => by kernel_rfl) ?_ ?_
     ·refine ⟨rfl, ?_, rfl, ?_, rfl, ?_, rfl, ?_, rfl, ?_, rfl, ?_, rfl, ?_, rfl, ?_, rfl, ?_, rfl, ?_, rfl, ?_, rfl, ?_, rfl, ?_, rfl, ?_, trivial⟩
      ·intro b1_ b4_ b5_ b6_ b7_ g1
       refine TL.move rfl rfl (v := SV.v s2) rfl ?_
       refine TL.done ?_
       exact TC.nrm () [] ⟨rfl, trivial⟩ [0] (by kernel_rfl)
      ·intro b0_ b4_ b5_ b6_ b7_ g1
       refine TL.move rfl rfl (v := .int .i64 i1) rfl ?_
       refine TL.done ?_
       exact TC.nrm () [] ⟨rfl, trivial⟩ [0] (by kernel_rfl)
      ·intro b4_ b5_ b6_ b7_ g1
       refine TL.asL [row Ei 2 s5 leaders2] (by kernel_rfl) ?_
       refine TL.ixsM i1 i1.toNat (RdM.old h1) h2 Try.underlying32 Try.sizeOf22 rfl rfl rfl rfl (by omega) ?_
       refine TL.done ?_
       exact TC.nrm () [] ⟨rfl, trivial⟩ [0] (by kernel_rfl)
      ·intro b4_ b5_ b6_ b7_ g1
       refine TL.asL [row Ei 2 s5 leaders2] (by kernel_rfl) ?_
       refine TL.loadM2 (RdM.old h1) Try.isAgg22 i1 h2 (by omega) rfl rfl rfl ?_
       refine TL.done ?_
       exact TC.nrm () [] ⟨rfl, trivial⟩ [0] (by kernel_rfl)
      ·intro b0_ b1_ b2_ b3_ b5_ g1
       refine TL.move rfl rfl (v := SV.v s2) rfl ?_
       refine TL.done ?_
       exact TC.nrm () [] ⟨rfl, trivial⟩ [0] (by kernel_rfl)
      ·intro b0_ b1_ b2_ b3_ b4_ g1
       refine TL.move rfl rfl (v := .int .i64 k_1) rfl ?_
       refine TL.done ?_
       exact TC.nrm () [] ⟨rfl, trivial⟩ [0] (by kernel_rfl)
      ·intro b0_ b1_ b2_ b3_ g1
       refine TL.asL [row Ei 2 s5 leaders2] (by kernel_rfl) ?_
       refine TL.ixsM k_1 k_1.toNat (RdM.old h1) h3 Try.underlying32 Try.sizeOf22 rfl rfl rfl rfl (by omega) ?_
       refine TL.done ?_
       exact TC.nrm () [] ⟨rfl, trivial⟩ [0] (by kernel_rfl)
      ·intro b0_ b1_ b2_ b3_ g1
       refine TL.asL [row Ei 2 s5 leaders2] (by kernel_rfl) ?_
       refine TL.loadM2 (RdM.old h1) Try.isAgg22 k_1 h3 (by omega) rfl rfl rfl ?_
       refine TL.done ?_
       exact TC.nrm () [] ⟨rfl, trivial⟩ [0] (by kernel_rfl)
      ·intro g1
       refine TL.asL [row Ei 2 s5 leaders2] (by kernel_rfl) ?_
       refine TL.callH (R := G.spec_l07Touch.R) hr1 Try.call148 rfl rfl rfl (fun w hS => G.spec_l07Touch.calls w (gt ss1 i1) (gt s1 i1) (gt ss1 k_1) (gt s1 k_1) ((RdM.inn (RdM.old h1) h2) w hS) ((RdM.inn (RdM.old h1) h3) w hS)) ?_
       rintro _ _ ⟨rfl, rfl⟩
       refine TL.done ?_
       exact TC.nrm () [] ⟨rfl, trivial⟩ [0] (by kernel_rfl)
      ·intro g1
       refine TL.move rfl rfl (v := .tuple #[.bool r_2, .bool r_3]) rfl ?_
       refine TL.done ?_
       exact TC.nrm () [] ⟨rfl, trivial⟩ [0] (by kernel_rfl)
      ·intro b11_ g1
       refine TL.extract rfl rfl rfl (v := .bool r_2) rfl ?_
       refine TL.done ?_
       exact TC.nrm () [] ⟨rfl, trivial⟩ [0] (by kernel_rfl)
      ·intro b10_ b12_ g1
       refine TL.extract rfl rfl rfl (v := .bool r_3) rfl ?_
       refine TL.done ?_
       exact TC.nrm () [] ⟨rfl, trivial⟩ [0] (by kernel_rfl)
      ·intro b11_ g1
       refine TL.assign rfl rfl (v := .bool r_2) rfl ?_
       refine TL.done ?_
       exact TC.nrm () [] ⟨rfl, trivial⟩ [0] (by kernel_rfl)
      ·intro g1
       refine TL.assign rfl rfl (v := .bool r_3) rfl ?_
       refine TL.done ?_
       exact TC.nrm () [] ⟨rfl, trivial⟩ [0] (by kernel_rfl)
     ·intro g1
      refine TC.asL [row Ei 2 s5 leaders2] (by kernel_rfl) ?_
      refine TC.seq ?_
      refine TC.region ?_
      refine TL.move rfl rfl (v := .bool r_2) rfl ?_
      refine TL.done ?_
      refine TC.join1 (σ := (List Int)) (γ := SV) (Γ' := (fun leaders3 s6 => [(0, SV.v s2), (3, SV.v s6), (4, .int .i64 i1), (5, .int .i64 k_1)])) (L' := (fun leaders3 s6 => [row Ei 2 s6 leaders3])) ?_ ?_
      ·refine TC.cond (b := r_2) rfl (fun c5 => ?_) (fun c6 => ?_)
       ·refine TC.region ?_
        refine TL.move rfl rfl (v := SV.v s5) rfl ?_
        refine TL.move rfl rfl (v := .int .i64 i1) rfl ?_
        refine TL.move rfl rfl (v := .int .i64 k_1) rfl ?_
        refine TL.call (R := G.spec_l07Join.R) Try.call175 rfl rfl rfl (fun w hS => G.spec_l07Join.calls w s5 leaders2 i1 k_1 ((Rd.row 0 rfl) w hS)) ?_
        rintro r_4 _ _ ⟨s7, rfl, rfl⟩
        refine TL.assign rfl rfl (v := SV.v s7) rfl ?_
        refine TL.done ?_
        exact TC.nrm (r_4) (s7) ⟨rfl, rfl, rfl, rfl, trivial⟩ [0] rfl
       ·refine TC.skip ?_
        exact TC.nrm (leaders2) (s5) ⟨rfl, rfl, rfl, rfl, trivial⟩ [0] rfl
      ·rintro leaders3 s6
       refine TC.region ?_
       refine TL.move rfl rfl (v := .int .i64 k_1) rfl ?_
       refine TL.bin .i64 k_1 1 rfl rfl rfl rfl (v := .int .i64 (w64 (k_1 + 1))) rfl ?_
       refine TL.assign rfl rfl (v := .int .i64 (w64 (k_1 + 1))) rfl ?_
       refine TL.done ?_
       exact TC.next1 ((leaders3, (w64 (k_1 + 1)))) (s6) ⟨rfl, rfl, rfl, rfl, trivial⟩ [0] rfl
    ·exact TC.brk1 ((leaders2, k_1)) (s5) ⟨rfl, rfl, rfl, rfl, trivial⟩ [0] rfl
   ·rintro ⟨leaders2, k_1⟩ s5
    refine TC.region ?_
    refine TL.move rfl rfl (v := .int .i64 i1) rfl ?_
    refine TL.bin .i64 i1 1 rfl rfl rfl rfl (v := .int .i64 (w64 (i1 + 1))) rfl ?_
    refine TL.assign rfl rfl (v := .int .i64 (w64 (i1 + 1))) rfl ?_
    refine TL.done ?_
    exact TC.next1 ((leaders2, (w64 (i1 + 1)))) (s5) ⟨rfl, rfl, rfl, trivial⟩ [0] rfl
  ·exact TC.brk1 ((leaders1, i1)) (s4) ⟨rfl, rfl, rfl, trivial⟩ [0] rfl
 ·rintro ⟨leaders1, i1⟩ s4
  refine TC.seq ?_
  refine TC.region ?_
  refine TL.move rfl rfl (v := SV.v s4) rfl ?_
  refine TL.assign rfl rfl (v := SV.v s4) rfl ?_
  refine TL.done ?_
  exact TC.retF (Fin.body (fin1 (.inr rfl) rfl (.tmp rfl) [0] rfl ⟨s4, rfl, rfl⟩))

end Go.Proofs.Ytiiljfpbcanphaa.G

/- spec.l07End, as a pure function. -/
set_option linter.unusedVariables false
namespace Go.Proofs.Ytiiljfpbcanphaa.G
open Go Go.Sx Go.Proofs

def spec_l07End.f (side1 : Int) (end_1 : Bool) : Option Int := ((bif (decide (side1 < 0)) then some ((w64 (0 - side1)), (!end_1)) else some (side1, end_1))).bind (fun p => match p with | (side2, end_2) => (bif end_2 then some (w64 ((w64 (2 * side2)) - 1)) else some (w64 ((w64 (2 * side2)) - 2))))

def spec_l07End.R (r : Int) (v : Value) (L : List Asn) : Prop := v = .int .i64 r ∧ L = []

set_option maxRecDepth 100000 in
set_option maxHeartbeats 4000000 in
theorem spec_l07End.calls (w : World) (side1 : Int) (end_1 : Bool) :
  ∀ r, spec_l07End.f side1 end_1 = some r → Calls Try.prog 176 #[.int .i64 side1, .bool end_1] w (Ret w (spec_l07End.R r)) := by

 refine calls_T (n := 18) (Γ := [(0, .int .i64 side1), (1, .bool end_1)]) (R := spec_l07End.R) Try.func176 rfl rfl (Nat.le_of_ble_eq_true rfl) ⟨rfl, rfl, trivial⟩ ?_
 unfold spec_l07End.f
 refine TC.seq ?_
 refine TC.region ?_
 refine TL.assign rfl rfl (v := .int .i64 0) rfl ?_
 refine TL.done ?_
 refine TC.seq ?_
 refine TC.seq ?_
 refine TC.region ?_
 refine TL.move rfl rfl (v := .int .i64 side1) rfl ?_
 refine TL.bin .i64 side1 0 rfl rfl rfl rfl (v := .bool (decide (side1 < 0))) rfl ?_
 refine TL.done ?_
 refine TC.join1 (σ := Int × Bool) (γ := Unit) (Γ' := (fun p q => match p, q with | (side2, end_2), _ => [(0, .int .i64 side2), (1, .bool end_2)])) (L' := (fun p q => match p, q with | (side2, end_2), _ => [])) ?_ ?_
 ·refine TC.cond (b := (decide (side1 < 0))) rfl (fun c1 => ?_) (fun c2 => ?_)
  ·refine TC.seq ?_
   refine TC.region ?_
   refine TL.move rfl rfl (v := .int .i64 side1) rfl ?_
   refine TL.neg .i64 side1 rfl rfl rfl ?_
   refine TL.assign rfl rfl (v := .int .i64 (w64 (0 - side1))) rfl ?_
   refine TL.done ?_
   refine TC.region ?_
   refine TL.move rfl rfl (v := .bool end_1) rfl ?_
   refine TL.not end_1 rfl rfl rfl ?_
   refine TL.assign rfl rfl (v := .bool (!end_1)) rfl ?_
   refine TL.done ?_
   exact TC.nrm (((w64 (0 - side1)), (!end_1))) (()) ⟨rfl, rfl, trivial⟩ [] rfl
  ·refine TC.skip ?_
   exact TC.nrm ((side1, end_1)) (()) ⟨rfl, rfl, trivial⟩ [] rfl
 ·rintro ⟨side2, end_2⟩ _
  refine TC.seq ?_
  refine TC.seq ?_
  refine TC.region ?_
  refine TL.move rfl rfl (v := .bool end_2) rfl ?_
  refine TL.done ?_
  refine TC.cond (b := end_2) rfl (fun c3 => ?_) (fun c4 => ?_)
  ·refine TC.seq ?_
   refine TC.region ?_
   refine TL.move rfl rfl (v := .int .i64 side2) rfl ?_
   refine TL.bin .i64 2 side2 rfl rfl rfl rfl (v := .int .i64 (w64 (2 * side2))) rfl ?_
   refine TL.bin .i64 (w64 (2 * side2)) 1 rfl rfl rfl rfl (v := .int .i64 (w64 ((w64 (2 * side2)) - 1))) rfl ?_
   refine TL.assign rfl rfl (v := .int .i64 (w64 ((w64 (2 * side2)) - 1))) rfl ?_
   refine TL.done ?_
   exact TC.retF (Fin.body (fin1 (.inr rfl) rfl (.tmp rfl) [] rfl ⟨rfl, rfl⟩))
  ·refine TC.skip ?_
   refine TC.seq ?_
   refine TC.region ?_
   refine TL.move rfl rfl (v := .int .i64 side2) rfl ?_
   refine TL.bin .i64 2 side2 rfl rfl rfl rfl (v := .int .i64 (w64 (2 * side2))) rfl ?_
   refine TL.bin .i64 (w64 (2 * side2)) 2 rfl rfl rfl rfl (v := .int .i64 (w64 ((w64 (2 * side2)) - 2))) rfl ?_
   refine TL.assign rfl rfl (v := .int .i64 (w64 ((w64 (2 * side2)) - 2))) rfl ?_
   refine TL.done ?_
   exact TC.retF (Fin.body (fin1 (.inr rfl) rfl (.tmp rfl) [] rfl ⟨rfl, rfl⟩))

end Go.Proofs.Ytiiljfpbcanphaa.G

/- spec.l07Vertices, as a pure function. -/
set_option linter.unusedVariables false
namespace Go.Proofs.Ytiiljfpbcanphaa.G
open Go Go.Sx Go.Proofs

def spec_l07Vertices.b0 (i1 : Int) (s1 : List (List Int)) : (List Int) × Int → Option (LB ((List Int) × Int)) := fun p => match p with | (leaders2, k_1) => (bif (decide (k_1 < 3)) then chk i1 s1.length (chk k_1 ((gt s1 i1).length) ((G.spec_l07End.f (gt (gt s1 i1) k_1) true).bind (fun r_2 => chk (Int.tmod (w64 (k_1 + 1)) 3) ((gt s1 i1).length) ((G.spec_l07End.f (gt (gt s1 i1) (Int.tmod (w64 (k_1 + 1)) 3)) false).bind (fun r_3 => (G.spec_l07Join.f leaders2 r_2 r_3).bind (fun r_4 => some (.next (r_4, (w64 (k_1 + 1)))))))))) else some (.brk (leaders2, k_1)))

def spec_l07Vertices.b1 (s1 : List (List Int)) : (List Int) × Int → Option (LB ((List Int) × Int)) := fun p => match p with | (leaders1, i1) => (bif (decide (i1 < (s1.length : Int))) then (loop1 (spec_l07Vertices.b0 i1 s1) (leaders1, 0)).bind (fun p => match p with | (leaders2, k_1) => some (.next (leaders2, (w64 (i1 + 1))))) else some (.brk (leaders1, i1)))

def spec_l07Vertices.f (s1 : List (List Int)) : Option Int := (G.spec_l07Numbers.f (w64 ((s1.length : Int) * 3))).bind (fun r_1 => (loop1 (spec_l07Vertices.b1 s1) (r_1, 0)).bind (fun p => match p with | (leaders1, i1) => (G.spec_l07Different.f leaders1).bind (fun r_5 => some r_5)))

def spec_l07Vertices.R (r : Int) (v : Value) (L : List Asn) : Prop := v = .int .i64 r ∧ L = []

set_option maxRecDepth 100000 in
set_option maxHeartbeats 4000000 in
theorem spec_l07Vertices.calls (w : World) (s2 : SV) (ss1 : List SV) (s1 : List (List Int)) (h1 : ReadsM Ei (hp w) s2 ss1 s1) :
  ∀ r, spec_l07Vertices.f s1 = some r → Calls Try.prog 137 #[SV.v s2] w (Ret w (spec_l07Vertices.R r)) := by

 refine calls_T (n := 42) (Γ := [(0, SV.v s2)]) (R := spec_l07Vertices.R) Try.func137 rfl rfl (Nat.le_of_ble_eq_true rfl) ⟨rfl, trivial⟩ ?_
 unfold spec_l07Vertices.f
 refine TC.seq ?_
 refine TC.region ?_
 refine TL.assign rfl rfl (v := .int .i64 0) rfl ?_
 refine TL.done ?_
 refine TC.seq ?_
 refine TC.region ?_
 refine TL.move rfl rfl (v := SV.v s2) rfl ?_
 refine TL.lenM (RdM.old h1) Try.underlying32 rfl rfl rfl ?_
 refine TL.bin .i64 (s1.length : Int) 3 rfl rfl rfl rfl (v := .int .i64 (w64 ((s1.length : Int) * 3))) rfl ?_
 refine TL.call (R := G.spec_l07Numbers.R) Try.call174 rfl rfl rfl (fun w hS => G.spec_l07Numbers.calls w (w64 ((s1.length : Int) * 3))) ?_
 rintro r_1 _ _ ⟨s3, rfl, rfl⟩
 refine TL.assign rfl rfl (v := SV.v s3) rfl ?_
 refine TL.done ?_
 refine TC.seq ?_
 refine TC.seq ?_
 refine TC.region ?_
 refine TL.assign rfl rfl (v := .int .i64 0) rfl ?_
 refine TL.done ?_
 refine TC.loop1 (σ := (List Int) × Int) (γ := SV) (Γ' := (fun p q => match p, q with | (leaders1, i1), s4 => [(0, SV.v s2), (3, SV.v s4), (4, .int .i64 i1)])) (L' := (fun p q => match p, q with | (leaders1, i1), s4 => [row Ei 2 s4 leaders1])) (Γb := (fun p q => match p, q with | (leaders1, i1), s4 => [(0, SV.v s2), (3, SV.v s4), (4, .int .i64 i1)])) (Lb := (fun p q => match p, q with | (leaders1, i1), s4 => [row Ei 2 s4 leaders1])) ((r_1, 0)) (s3) ⟨rfl, rfl, rfl, trivial⟩ [0] rfl ?_ ?_
 ·rintro ⟨leaders1, i1⟩ s4
  refine TC.seq ?_
  refine TC.seq ?_
  refine TC.region ?_
  refine TL.move rfl rfl (v := .int .i64 i1) rfl ?_
  refine TL.move rfl rfl (v := SV.v s2) rfl ?_
  refine TL.lenM (RdM.old h1) Try.underlying32 rfl rfl rfl ?_
  refine TL.bin .i64 i1 (s1.length : Int) rfl rfl rfl rfl (v := .bool (decide (i1 < (s1.length : Int)))) rfl ?_
  refine TL.done ?_
  refine TC.cond (b := (decide (i1 < (s1.length : Int)))) rfl (fun c1 => ?_) (fun c2 => ?_)
  ·refine TC.skip ?_
   refine TC.seq ?_
   refine TC.block (NoEx.loop1 rfl) ?_
   refine TC.seq ?_
   refine TC.region ?_
   refine TL.assign rfl rfl (v := .int .i64 0) rfl ?_
   refine TL.done ?_
   refine TC.loop1 (σ := (List Int) × Int) (γ := SV) (Γ' := (fun p q => match p, q with | (leaders2, k_1), s5 => [(0, SV.v s2), (3, SV.v s5), (4, .int .i64 i1), (5, .int .i64 k_1)])) (L' := (fun p q => match p, q with | (leaders2, k_1), s5 => [row Ei 2 s5 leaders2])) (Γb := (fun p q => match p, q with | (leaders2, k_1), s5 => [(0, SV.v s2), (3, SV.v s5), (4, .int .i64 i1), (5, .int .i64 k_1)])) (Lb := (fun p q => match p, q with | (leaders2, k_1), s5 => [row Ei 2 s5 leaders2])) ((leaders1, 0)) (s4) ⟨rfl, rfl, rfl, rfl, trivial⟩ [0] rfl ?_ ?_
   ·rintro ⟨leaders2, k_1⟩ s5
    refine TC.seq ?_
    refine TC.seq ?_
    refine TC.region ?_
    refine TL.move rfl rfl (v := .int .i64 k_1) rfl ?_
    refine TL.bin .i64 k_1 3 rfl rfl rfl rfl (v := .bool (decide (k_1 < 3))) rfl ?_
    refine TL.done ?_
    refine TC.cond (b := (decide (k_1 < 3))) rfl (fun c3 => ?_) (fun c4 => ?_)
    ·refine TC.skip ?_
     refine TC.seq ?_
     refine TC.block (NoEx.loop1 rfl) ?_
     refine TC.wk (Γ' := [(0, SV.v s2), (4, .int .i64 i1), (5, .int .i64 k_1), (16, .int .i64 k_1), (17, .bool (decide (k_1 < 3))), (3, SV.v s5)]) ⟨rfl, rfl, rfl, rfl, rfl, rfl, trivial⟩ ?_
     refine TC.chk fun h2 => ?_
     refine TC.chk fun h3 => ?_
     refine TC.bindE ?_
     rintro r_2 hr1
     refine TC.chk fun h4 => ?_
     refine TC.bindE ?_
     rintro r_3 hr2
     refine TC.bindE ?_
     rintro r_4 hr3
     refine TC.drawG [(0, SV.v s2), (4, .int .i64 i1), (5, .int .i64 k_1), (16, .int .i64 k_1), (17, .bool (decide (k_1 < 3)))] [(3, SV.v s5, 20)] ⟨rfl, rfl, rfl, rfl, rfl, trivial⟩ ⟨rfl, trivial⟩ (fun l_ g1 => [row Ei 2 s5 leaders2, (bif nb l_ 19 then row Ei 2 (gs (g1 152)) r_4 else emp)]) (fun g1 => [SV.v s5, SV.v s2, .int .i64 i1, ep s2 i1.toNat, SV.v (gt ss1 i1), .int .i64 k_1, ep (gt ss1 i1) k_1.toNat, .int .i64 (gt (gt s1 i1) k_1), .int .i64 r_2, SV.v s2, .int .i64 i1, ep s2 i1.toNat, SV.v (gt ss1 i1), .int .i64 k_1, .int .i64 (w64 (k_1 + 1)), .int .i64 (Int.tmod (w64 (k_1 + 1)) 3), ep (gt ss1 i1) ((Int.tmod (w64 (k_1 + 1)) 3).toNat), .int .i64 (gt (gt s1 i1) (Int.tmod (w64 (k_1 + 1)) 3)), .int .i64 r_3, SV.v (gs (g1 152)), SV.v (gs (g1 152))]) [[], [], [], [1, 2], [1, 2, 3], [], [1, 2, 3, 4, 5], [1, 2, 3, 4, 5, 6], [1, 2, 3, 4, 5, 6, 7], [], [], [9, 10], [9, 10, 11], [], [13], [13, 14], [9, 10, 11, 12, 13, 14, 15], [9, 10, 11, 12, 13, 14, 15, 16], [1, 2, 3, 4, 5, 6, 7, 8, 9, 10, 11, 12, 13, 14, 15, 16, 17], [0, 1, 2, 3, 4, 5, 6, 7, 8, 9, 10, 11, 12, 13, 14, 15, 16, 17, 18], [0, 1, 2, 3, 4, 5, 6, 7, 8, 9, 10, 11, 12, 13, 14, 15, 16, 17, 18, 19]] [[some false, none, none, none, none, none, none, none, none, none, none, none, none, none, none, none, none, none, none, some false, some false], [none, some false, none, some false, some false, none, some false, some false, some false, none, none, none, none, none, none, none, none, none, some false, some false, some false], [none, none, some false, some false, some false, none, some false, some false, some false, none, none, none, none, none, none, none, none, none, some false, some false, some false], [none, some true, some true, some false, some false, none, some false, some false, some false, none, none, none, none, none, none, none, none, none, some false, some false, some false], [none, some true, some true, some true, some false, none, some false, some false, some false, none, none, none, none, none, none, none, none, none, some false, some false, some false], [none, none, none, none, none, some false, some false, some false, some false, none, none, none, none, none, none, none, none, none, some false, some false, some false], [none, some true, some true, some true, some true, some true, some false, some false, some false, none, none, none, none, none, none, none, none, none, some false, some false, some false], [none, some true, some true, some true, some true, some true, some true, some false, some false, none, none, none, none, none, none, none, none, none, some false, some false, some false], [none, some true, some true, some true, some true, some true, some true, some true, some false, none, none, none, none, none, none, none, none, none, some false, some false, some false], [none, none, none, none, none, none, none, none, none, some false, none, some false, some false, none, none, none, some false, some false, some false, some false, some false], [none, none, none, none, none, none, none, none, none, none, some false, some false, some false, none, none, none, some false, some false, some false, some false, some false], [none, none, none, none, none, none, none, none, none, some true, some true, some false, some false, none, none, none, some false, some false, some false, some false, some false], [none, none, none, none, none, none, none, none, none, some true, some true, some true, some false, none, none, none, some false, some false, some false, some false, some false], [none, none, none, none, none, none, none, none, none, none, none, none, none, some false, some false, some false, some false, some false, some false, some false, some false], [none, none, none, none, none, none, none, none, none, none, none, none, none, some true, some false, some false, some false, some false, some false, some false, some false], [none, none, none, none, none, none, none, none, none, none, none, none, none, some true, some true, some false, some false, some false, some false, some false, some false], [none, none, none, none, none, none, none, none, none, some true, some true, some true, some true, some true, some true, some true, some false, some false, some false, some false, some false], [none, none, none, none, none, none, none, none, none, some true, some true, some true, some true, some true, some true, some true, some true, some false, some false, some false, some false], [none, some true, some true, some true, some true, some true, some true, some true, some true, some true, some true, some true, some true, some true, some true, some true, some true, some true, some false, some false, some false], [some true, some true, some true, some true, some true, some true, some true, some true, some true, some true, some true, some true, some true, some true, some true, some true, some true, some true, some true, some false, some false], [some true, some true, some true, some true, some true, some true, some true, some true, some true, some true, some true, some true, some true, some true, some true, some true, some true, some true, some true, some true, some false]] (by kernel_rfl) (fun _ => rfl) rfl rfl rfl rfl rfl (fun _ _ => ⟨⟨⟨⟨⟨⟨⟨⟨⟨⟨⟨⟨⟨⟨⟨⟨⟨⟨⟨⟨⟨trivial, rfl⟩, rfl⟩, rfl⟩, rfl⟩, rfl⟩, rfl⟩, rfl⟩, rfl⟩, rfl⟩, rfl⟩, rfl⟩, rfl⟩, rfl⟩, rfl⟩, rfl⟩, rfl⟩, rfl⟩, rfl⟩, rfl⟩, rfl⟩, rfl⟩) 1 [1, 0] (fun _ => by kernel_rfl) ?_ ?_
     ·refine ⟨rfl, ?_, rfl, ?_, rfl, ?_, rfl, ?_, rfl, ?_, rfl, ?_, rfl, ?_, rfl, ?_, rfl, ?_, rfl, ?_, rfl, ?_, rfl, ?_, rfl, ?_, rfl, ?_, rfl, ?_, rfl, ?_, rfl, ?_, rfl, ?_, rfl, ?_, rfl, ?_, rfl, ?_, trivial⟩
      ·intro b1_ b2_ b3_ b4_ b5_ b6_ b7_ b8_ b9_ b10_ b11_ b12_ b13_ b14_ b15_ b16_ b17_ b18_ g1
       refine TL.move rfl rfl (v := SV.v s5) rfl ?_
       refine TL.done ?_
       exact TC.nrm () [] ⟨rfl, trivial⟩ [0, 0] (by kernel_rfl)
      ·intro b0_ b2_ b5_ b9_ b10_ b11_ b12_ b13_ b14_ b15_ b16_ b17_ g1
       refine TL.move rfl rfl (v := SV.v s2) rfl ?_
       refine TL.done ?_
       exact TC.nrm () [] ⟨rfl, trivial⟩ [0, 0] (by kernel_rfl)
      ·intro b0_ b1_ b5_ b9_ b10_ b11_ b12_ b13_ b14_ b15_ b16_ b17_ g1
       refine TL.move rfl rfl (v := .int .i64 i1) rfl ?_
       refine TL.done ?_
       exact TC.nrm () [] ⟨rfl, trivial⟩ [0, 0] (by kernel_rfl)
      ·intro b0_ b5_ b9_ b10_ b11_ b12_ b13_ b14_ b15_ b16_ b17_ g1
       refine TL.asL [row Ei 2 s5 leaders2, emp] (by kernel_rfl) ?_
       refine TL.ixsM i1 i1.toNat (RdM.old h1) h2 Try.underlying32 Try.sizeOf22 rfl rfl rfl rfl (by omega) ?_
       refine TL.done ?_
       exact TC.nrm () [] ⟨rfl, trivial⟩ [0, 0] (by kernel_rfl)
      ·intro b0_ b5_ b9_ b10_ b11_ b12_ b13_ b14_ b15_ b16_ b17_ g1
       refine TL.asL [row Ei 2 s5 leaders2, emp] (by kernel_rfl) ?_
       refine TL.loadM2 (RdM.old h1) Try.isAgg22 i1 h2 (by omega) rfl rfl rfl ?_
       refine TL.done ?_
       exact TC.nrm () [] ⟨rfl, trivial⟩ [0, 0] (by kernel_rfl)
      ·intro b0_ b1_ b2_ b3_ b4_ b9_ b10_ b11_ b12_ b13_ b14_ b15_ b16_ b17_ g1
       refine TL.move rfl rfl (v := .int .i64 k_1) rfl ?_
       refine TL.done ?_
       exact TC.nrm () [] ⟨rfl, trivial⟩ [0, 0] (by kernel_rfl)
      ·intro b0_ b9_ b10_ b11_ b12_ b13_ b14_ b15_ b16_ b17_ g1
       refine TL.asL [row Ei 2 s5 leaders2, emp] (by kernel_rfl) ?_
       refine TL.ixs k_1 k_1.toNat (RdM.inn (RdM.old h1) h2) h3 Try.underlying22 Try.sizeOf2 rfl rfl rfl rfl (by omega) ?_
       refine TL.done ?_
       exact TC.nrm () [] ⟨rfl, trivial⟩ [0, 0] (by kernel_rfl)
      ·intro b0_ b9_ b10_ b11_ b12_ b13_ b14_ b15_ b16_ b17_ g1
       refine TL.asL [row Ei 2 s5 leaders2, emp] (by kernel_rfl) ?_
       refine TL.loadE (RdM.inn (RdM.old h1) h2) Try.isAgg2 k_1.toNat 0 (gt_spec h3) (v := .int .i64 (gt (gt s1 i1) k_1)) rfl (by simp only [show Ei.sz = 1 from rfl] <;> omega) rfl rfl rfl ?_
       refine TL.done ?_
       exact TC.nrm () [] ⟨rfl, trivial⟩ [0, 0] (by kernel_rfl)
      ·intro b0_ b9_ b10_ b11_ b12_ b13_ b14_ b15_ b16_ b17_ g1
       refine TL.asL [row Ei 2 s5 leaders2, emp] (by kernel_rfl) ?_
       refine TL.callH (R := G.spec_l07End.R) hr1 Try.call176 rfl rfl rfl (fun w hS => G.spec_l07End.calls w (gt (gt s1 i1) k_1) true) ?_
       rintro _ _ ⟨rfl, rfl⟩
       refine TL.done ?_
       exact TC.nrm () [] ⟨rfl, trivial⟩ [0, 0] (by kernel_rfl)
      ·intro b0_ b1_ b2_ b3_ b4_ b5_ b6_ b7_ b8_ b10_ b13_ b14_ b15_ g1
       refine TL.move rfl rfl (v := SV.v s2) rfl ?_
       refine TL.done ?_
       exact TC.nrm () [] ⟨rfl, trivial⟩ [0, 0] (by kernel_rfl)
      ·intro b0_ b1_ b2_ b3_ b4_ b5_ b6_ b7_ b8_ b9_ b13_ b14_ b15_ g1
       refine TL.move rfl rfl (v := .int .i64 i1) rfl ?_
       refine TL.done ?_
       exact TC.nrm () [] ⟨rfl, trivial⟩ [0, 0] (by kernel_rfl)
      ·intro b0_ b1_ b2_ b3_ b4_ b5_ b6_ b7_ b8_ b13_ b14_ b15_ g1
       refine TL.asL [row Ei 2 s5 leaders2, emp] (by kernel_rfl) ?_
       refine TL.ixsM i1 i1.toNat (RdM.old h1) h2 Try.underlying32 Try.sizeOf22 rfl rfl rfl rfl (by omega) ?_
       refine TL.done ?_
       exact TC.nrm () [] ⟨rfl, trivial⟩ [0, 0] (by kernel_rfl)
      ·intro b0_ b1_ b2_ b3_ b4_ b5_ b6_ b7_ b8_ b13_ b14_ b15_ g1
       refine TL.asL [row Ei 2 s5 leaders2, emp] (by kernel_rfl) ?_
       refine TL.loadM2 (RdM.old h1) Try.isAgg22 i1 h2 (by omega) rfl rfl rfl ?_
       refine TL.done ?_
       exact TC.nrm () [] ⟨rfl, trivial⟩ [0, 0] (by kernel_rfl)
      ·intro b0_ b1_ b2_ b3_ b4_ b5_ b6_ b7_ b8_ b9_ b10_ b11_ b12_ g1
       refine TL.move rfl rfl (v := .int .i64 k_1) rfl ?_
       refine TL.done ?_
       exact TC.nrm () [] ⟨rfl, trivial⟩ [0, 0] (by kernel_rfl)
      ·intro b0_ b1_ b2_ b3_ b4_ b5_ b6_ b7_ b8_ b9_ b10_ b11_ b12_ g1
       refine TL.bin .i64 k_1 1 rfl rfl rfl rfl (v := .int .i64 (w64 (k_1 + 1))) rfl ?_
       refine TL.done ?_
       exact TC.nrm () [] ⟨rfl, trivial⟩ [0, 0] (by kernel_rfl)
      ·intro b0_ b1_ b2_ b3_ b4_ b5_ b6_ b7_ b8_ b9_ b10_ b11_ b12_ g1
       refine TL.rem .i64 (w64 (k_1 + 1)) 3 (by decide) rfl rfl rfl rfl ?_
       refine TL.done ?_
       exact TC.nrm () [] ⟨rfl, trivial⟩ [0, 0] (by kernel_rfl)
      ·intro b0_ b1_ b2_ b3_ b4_ b5_ b6_ b7_ b8_ g1
       refine TL.asL [row Ei 2 s5 leaders2, emp] (by kernel_rfl) ?_
       refine TL.ixs (Int.tmod (w64 (k_1 + 1)) 3) ((Int.tmod (w64 (k_1 + 1)) 3).toNat) (RdM.inn (RdM.old h1) h2) h4 Try.underlying22 Try.sizeOf2 rfl rfl rfl rfl (by omega) ?_
       refine TL.done ?_
       exact TC.nrm () [] ⟨rfl, trivial⟩ [0, 0] (by kernel_rfl)
      ·intro b0_ b1_ b2_ b3_ b4_ b5_ b6_ b7_ b8_ g1
       refine TL.asL [row Ei 2 s5 leaders2, emp] (by kernel_rfl) ?_
       refine TL.loadE (RdM.inn (RdM.old h1) h2) Try.isAgg2 (Int.tmod (w64 (k_1 + 1)) 3).toNat 0 (gt_spec h4) (v := .int .i64 (gt (gt s1 i1) (Int.tmod (w64 (k_1 + 1)) 3))) rfl (by simp only [show Ei.sz = 1 from rfl] <;> omega) rfl rfl rfl ?_
       refine TL.done ?_
       exact TC.nrm () [] ⟨rfl, trivial⟩ [0, 0] (by kernel_rfl)
      ·intro b0_ g1
       refine TL.asL [row Ei 2 s5 leaders2, emp] (by kernel_rfl) ?_
       refine TL.callH (R := G.spec_l07End.R) hr2 Try.call176 rfl rfl rfl (fun w hS => G.spec_l07End.calls w (gt (gt s1 i1) (Int.tmod (w64 (k_1 + 1)) 3)) false) ?_
       rintro _ _ ⟨rfl, rfl⟩
       refine TL.done ?_
       exact TC.nrm () [] ⟨rfl, trivial⟩ [0, 0] (by kernel_rfl)
      ·intro g1
       refine TL.asL [row Ei 2 s5 leaders2, emp] (by kernel_rfl) ?_
       refine TL.callH (R := G.spec_l07Join.R) hr3 Try.call175 rfl rfl rfl (fun w hS => G.spec_l07Join.calls w s5 leaders2 r_2 r_3 ((Rd.row 0 rfl) w hS)) ?_
       rintro _ _ ⟨s6, rfl, rfl⟩
       refine TL.done ?_
       exact TC.nrm () [[s6]] ⟨rfl, trivial⟩ [1, 0] (by kernel_rfl)
      ·intro g1
       refine TL.assign rfl rfl (v := SV.v (gs (g1 152))) rfl ?_
       refine TL.done ?_
       exact TC.nrm () [] ⟨rfl, trivial⟩ [0, 0] (by kernel_rfl)
     ·intro g1
      refine TC.asL [row Ei 2 s5 leaders2, row Ei 2 (gs (g1 152)) r_4] (by kernel_rfl) ?_
      refine TC.region ?_
      refine TL.move rfl rfl (v := .int .i64 k_1) rfl ?_
      refine TL.bin .i64 k_1 1 rfl rfl rfl rfl (v := .int .i64 (w64 (k_1 + 1))) rfl ?_
      refine TL.assign rfl rfl (v := .int .i64 (w64 (k_1 + 1))) rfl ?_
      refine TL.done ?_
      exact TC.next1 ((r_4, (w64 (k_1 + 1)))) ((gs (g1 152))) ⟨rfl, rfl, rfl, rfl, trivial⟩ [1] rfl
    ·exact TC.brk1 ((leaders2, k_1)) (s5) ⟨rfl, rfl, rfl, rfl, trivial⟩ [0] rfl
   ·rintro ⟨leaders2, k_1⟩ s5
    refine TC.region ?_
    refine TL.move rfl rfl (v := .int .i64 i1) rfl ?_
    refine TL.bin .i64 i1 1 rfl rfl rfl rfl (v := .int .i64 (w64 (i1 + 1))) rfl ?_
    refine TL.assign rfl rfl (v := .int .i64 (w64 (i1 + 1))) rfl ?_
    refine TL.done ?_
    exact TC.next1 ((leaders2, (w64 (i1 + 1)))) (s5) ⟨rfl, rfl, rfl, trivial⟩ [0] rfl
  ·exact TC.brk1 ((leaders1, i1)) (s4) ⟨rfl, rfl, rfl, trivial⟩ [0] rfl
 ·rintro ⟨leaders1, i1⟩ s4
  refine TC.seq ?_
  refine TC.region ?_
  refine TL.move rfl rfl (v := SV.v s4) rfl ?_
  refine TL.call (R := G.spec_l07Different.R) Try.call133 rfl rfl rfl (fun w hS => G.spec_l07Different.calls w s4 leaders1 ((Rd.row 0 rfl) w hS)) ?_
  rintro r_5 _ _ ⟨rfl, rfl⟩
  refine TL.assign rfl rfl (v := .int .i64 r_5) rfl ?_
  refine TL.done ?_
  exact TC.retF (Fin.body (fin1 (.inr rfl) rfl (.tmp rfl) [] rfl ⟨rfl, rfl⟩))

end Go.Proofs.Ytiiljfpbcanphaa.G

/- spec.l07Euler, as a pure function. -/
set_option linter.unusedVariables false
namespace Go.Proofs.Ytiiljfpbcanphaa.G
open Go Go.Sx Go.Proofs

def spec_l07Euler.f (s1 : List (List Int)) : Option Int := (G.spec_l07Vertices.f s1).bind (fun r_1 => some (w64 (r_1 - (w64 (Int.tdiv (s1.length : Int) 2)))))

def spec_l07Euler.R (r : Int) (v : Value) (L : List Asn) : Prop := v = .int .i64 r ∧ L = []

set_option maxRecDepth 100000 in
set_option maxHeartbeats 4000000 in
theorem spec_l07Euler.calls (w : World) (s2 : SV) (ss1 : List SV) (s1 : List (List Int)) (h1 : ReadsM Ei (hp w) s2 ss1 s1) :
  ∀ r, spec_l07Euler.f s1 = some r → Calls Try.prog 135 #[SV.v s2] w (Ret w (spec_l07Euler.R r)) := by

 refine calls_T (n := 9) (Γ := [(0, SV.v s2)]) (R := spec_l07Euler.R) Try.func135 rfl rfl (Nat.le_of_ble_eq_true rfl) ⟨rfl, trivial⟩ ?_
 unfold spec_l07Euler.f
 refine TC.seq ?_
 refine TC.region ?_
 refine TL.assign rfl rfl (v := .int .i64 0) rfl ?_
 refine TL.done ?_
 refine TC.seq ?_
 refine TC.region ?_
 refine TL.move rfl rfl (v := SV.v s2) rfl ?_
 refine TL.call (R := G.spec_l07Vertices.R) Try.call137 rfl rfl rfl (fun w hS => G.spec_l07Vertices.calls w s2 ss1 s1 ((RdM.old h1) w hS)) ?_
 rintro r_1 _ _ ⟨rfl, rfl⟩
 refine TL.move rfl rfl (v := SV.v s2) rfl ?_
 refine TL.lenM (RdM.old h1) Try.underlying32 rfl rfl rfl ?_
 refine TL.quo .i64 (s1.length : Int) 2 (by decide) rfl rfl rfl rfl ?_
 refine TL.bin .i64 r_1 (w64 (Int.tdiv (s1.length : Int) 2)) rfl rfl rfl rfl (v := .int .i64 (w64 (r_1 - (w64 (Int.tdiv (s1.length : Int) 2))))) rfl ?_
 refine TL.assign rfl rfl (v := .int .i64 (w64 (r_1 - (w64 (Int.tdiv (s1.length : Int) 2))))) rfl ?_
 refine TL.done ?_
 exact TC.retF (Fin.body (fin1 (.inr rfl) rfl (.tmp rfl) [] rfl ⟨rfl, rfl⟩))

end Go.Proofs.Ytiiljfpbcanphaa.G

/- spec.GenusOf, as a pure function. -/
set_option linter.unusedVariables false
namespace Go.Proofs.Ytiiljfpbcanphaa.G
open Go Go.Sx Go.Proofs

def spec_GenusOf.f (s1 : List (List Int)) : Option (Int × Int) := (G.spec_l07Is.f s1).bind (fun r_1 => (bif (!r_1) then some (0, 1) else (G.spec_l07Oriented.f s1).bind (fun r_2 => (bif (!r_2) then some true else (G.spec_l07Pieces.f s1).bind (fun r_3 => (G.spec_l07Different.f r_3).bind (fun r_4 => some (decide (r_4 > 1))))).bind (fun b_1 => (bif b_1 then some (0, 5) else (G.spec_l07Euler.f s1).bind (fun r_5 => some ((w64 (1 - (w64 (Int.tdiv r_5 2)))), 0)))))))

def spec_GenusOf.R (r : Int × Int) (v : Value) (L : List Asn) : Prop := v = .tuple #[.int .i64 r.1, .int .i64 r.2] ∧ L = []

set_option maxRecDepth 100000 in
set_option maxHeartbeats 4000000 in
theorem spec_GenusOf.calls (w : World) (s2 : SV) (ss1 : List SV) (s1 : List (List Int)) (h1 : ReadsM Ei (hp w) s2 ss1 s1) :
  ∀ r, spec_GenusOf.f s1 = some r → Calls Try.prog 55 #[SV.v s2] w (Ret w (spec_GenusOf.R r)) := by

 refine calls_T (n := 22) (Γ := [(0, SV.v s2)]) (R := spec_GenusOf.R) Try.func55 rfl rfl (Nat.le_of_ble_eq_true rfl) ⟨rfl, trivial⟩ ?_
 unfold spec_GenusOf.f
 refine TC.seq ?_
 refine TC.region ?_
 refine TL.assign rfl rfl (v := .int .i64 0) rfl ?_
 refine TL.assign rfl rfl (v := .int .i64 0) rfl ?_
 refine TL.done ?_
 refine TC.seq ?_
 refine TC.block NoEx.body ?_
 refine TC.seq ?_
 refine TC.region ?_
 refine TL.move rfl rfl (v := SV.v s2) rfl ?_
 refine TL.call (R := G.spec_l07Is.R) Try.call100 rfl rfl rfl (fun w hS => G.spec_l07Is.calls w s2 ss1 s1 ((RdM.old h1) w hS)) ?_
 rintro r_1 _ _ ⟨rfl, rfl⟩
 refine TL.not r_1 rfl rfl rfl ?_
 refine TL.assign rfl rfl (v := .bool (!r_1)) rfl ?_
 refine TL.done ?_
 refine TC.cond (b := (!r_1)) rfl (fun c1 => ?_) (fun c2 => ?_)
 ·refine TC.seq ?_
  refine TC.region ?_
  refine TL.assign rfl rfl (v := .int .i64 0) rfl ?_
  refine TL.assign rfl rfl (v := .int .i64 1) rfl ?_
  refine TL.done ?_
  exact TC.retF (Fin.body (fin2 (.inr rfl) rfl (.tmp rfl) (.tmp rfl) [] rfl ⟨rfl, rfl⟩))
 ·refine TC.seq ?_
  refine TC.region ?_
  refine TL.move rfl rfl (v := SV.v s2) rfl ?_
  refine TL.call (R := G.spec_l07Oriented.R) Try.call121 rfl rfl rfl (fun w hS => G.spec_l07Oriented.calls w s2 ss1 s1 ((RdM.old h1) w hS)) ?_
  rintro r_2 _ _ ⟨rfl, rfl⟩
  refine TL.not r_2 rfl rfl rfl ?_
  refine TL.move rfl rfl (v := .bool (!r_2)) rfl ?_
  refine TL.cutJ (σ := Bool) (γ := Unit) (Γ' := fun b_1 _ => [(17, .bool b_1), (0, SV.v s2), (2, .int .i64 0), (3, .int .i64 0), (5, SV.v s2), (6, .bool r_1), (7, .bool (!r_1)), (4, .bool (!r_1)), (9, SV.v s2), (10, .bool r_2), (11, .bool (!r_2)), (12, .bool (!r_2))]) (L' := fun _ _ => []) 5 ?_ ?_
  ·refine TL.ifb (t := 12) (b := (!r_2)) rfl (fun c3 => ?_) (fun c4 => ?_)
   ·refine TL.skip rfl rfl (by decide) ?_
    refine TL.skip rfl rfl (by decide) ?_
    refine TL.skip rfl rfl (by decide) ?_
    refine TL.skip rfl rfl (by decide) ?_
    refine TL.pick rfl rfl (b := true) rfl (r := .bool true) rfl ?_
    refine TL.done ?_
    exact TC.nrm (true) () ⟨rfl, rfl, rfl, rfl, rfl, rfl, rfl, rfl, rfl, rfl, rfl, (by rw [c3]; rfl), trivial⟩ [] (by kernel_rfl)
   ·refine TL.move rfl rfl (v := SV.v s2) rfl ?_
    refine TL.call (R := G.spec_l07Pieces.R) Try.call134 rfl rfl rfl (fun w hS => G.spec_l07Pieces.calls w s2 ss1 s1 ((RdM.old h1) w hS)) ?_
    rintro r_3 _ _ ⟨s3, rfl, rfl⟩
    refine TL.call (R := G.spec_l07Different.R) Try.call133 rfl rfl rfl (fun w hS => G.spec_l07Different.calls w s3 r_3 ((Rd.row 0 rfl) w hS)) ?_
    rintro r_4 _ _ ⟨rfl, rfl⟩
    refine TL.bin .i64 r_4 1 rfl rfl rfl rfl (v := .bool (decide (r_4 > 1))) rfl ?_
    refine TL.pick rfl rfl (b := false) rfl (r := .bool (decide (r_4 > 1))) rfl ?_
    refine TL.done ?_
    exact TC.nrm ((decide (r_4 > 1))) () ⟨rfl, rfl, rfl, rfl, rfl, rfl, rfl, rfl, rfl, rfl, rfl, (by rw [c4]; rfl), trivial⟩ [] (by kernel_rfl)
  ·rintro b_1 _
   refine TL.assign rfl rfl (v := .bool b_1) rfl ?_
   refine TL.done ?_
   refine TC.cond (b := b_1) rfl (fun c5 => ?_) (fun c6 => ?_)
   ·refine TC.seq ?_
    refine TC.region ?_
    refine TL.assign rfl rfl (v := .int .i64 0) rfl ?_
    refine TL.assign rfl rfl (v := .int .i64 5) rfl ?_
    refine TL.done ?_
    exact TC.retF (Fin.body (fin2 (.inr rfl) rfl (.tmp rfl) (.tmp rfl) [] rfl ⟨rfl, rfl⟩))
   ·refine TC.skip ?_
    refine TC.seq ?_
    refine TC.region ?_
    refine TL.move rfl rfl (v := SV.v s2) rfl ?_
    refine TL.call (R := G.spec_l07Euler.R) Try.call135 rfl rfl rfl (fun w hS => G.spec_l07Euler.calls w s2 ss1 s1 ((RdM.old h1) w hS)) ?_
    rintro r_5 _ _ ⟨rfl, rfl⟩
    refine TL.quo .i64 r_5 2 (by decide) rfl rfl rfl rfl ?_
    refine TL.bin .i64 1 (w64 (Int.tdiv r_5 2)) rfl rfl rfl rfl (v := .int .i64 (w64 (1 - (w64 (Int.tdiv r_5 2))))) rfl ?_
    refine TL.assign rfl rfl (v := .int .i64 (w64 (1 - (w64 (Int.tdiv r_5 2))))) rfl ?_
    refine TL.assign rfl rfl (v := .int .i64 0) rfl ?_
    refine TL.done ?_
    exact TC.retF (Fin.body (fin2 (.inr rfl) rfl (.tmp rfl) (.tmp rfl) [] rfl ⟨rfl, rfl⟩))

end Go.Proofs.Ytiiljfpbcanphaa.G

/- spec.DrawCountSurfacePieces, as a pure function. -/
set_option linter.unusedVariables false
namespace Go.Proofs.Ytiiljfpbcanphaa.G
open Go Go.Sx Go.Proofs

def spec_DrawCountSurfacePieces.f (code1 : List UInt8) : Option (List (List Int)) := (G.spec_l01From.f code1).bind (fun p => match p with | (r_1, r_2) => (G.spec_l07Spoil.f code1 r_1 r_2).bind (fun p => match p with | (r_3, y1, y2) => some r_3))

def spec_DrawCountSurfacePieces.R (r : List (List Int)) (v : Value) (L : List Asn) : Prop := ∃ (s0 : SV) (ss0 : List SV), v = SV.v s0 ∧ L = [mat Ei 2 22 s0 ss0 r]

set_option maxRecDepth 100000 in
set_option maxHeartbeats 4000000 in
theorem spec_DrawCountSurfacePieces.calls (w : World) (s1 : SV) (code1 : List UInt8) (h1 : Reads Eu (hp w) s1 code1) :
  ∀ r, spec_DrawCountSurfacePieces.f code1 = some r → Calls Try.prog 56 #[SV.v s1] w (Ret w (spec_DrawCountSurfacePieces.R r)) := by

 refine calls_T (n := 6) (Γ := [(0, SV.v s1)]) (R := spec_DrawCountSurfacePieces.R) Try.func56 rfl rfl (Nat.le_of_ble_eq_true rfl) ⟨rfl, trivial⟩ ?_
 unfold spec_DrawCountSurfacePieces.f
 refine TC.seq ?_
 refine TC.region ?_
 refine TL.assign rfl rfl (v := SV.v ⟨none, 0, 0⟩) rfl ?_
 refine TL.done ?_
 refine TC.seq ?_
 refine TC.region ?_
 refine TL.move rfl rfl (v := SV.v s1) rfl ?_
 refine TL.call (R := G.spec_l01From.R s1) Try.call115 rfl rfl rfl (fun w hS => G.spec_l01From.calls w s1 code1 ((Rd.old h1) w hS)) ?_
 rintro ⟨r_1, r_2⟩ _ _ ⟨b_1, rfl, rfl⟩
 refine TL.callX (R := G.spec_l07Spoil.R b_1 s1) [0] [box b_1 143 [.one (SV.v s1), .one (.int .i64 r_1), .one (.int .u64 r_2)]] [] rfl Try.call116 rfl rfl rfl (fun w I_ hle hB hS => G.spec_l07Spoil.calls _ I_ w b_1 s1 code1 r_1 r_2 hS (h1.mono hle)) ?_
 rintro ⟨r_3, y1, y2⟩ _ _ ⟨s2, ss1, rfl, rfl⟩
 refine TL.assign rfl rfl (v := SV.v s2) rfl ?_
 refine TL.done ?_
 exact TC.retF (Fin.body (fin1 (.inr rfl) rfl (.tmp rfl) [0] rfl ⟨s2, ss1, rfl, rfl⟩))

end Go.Proofs.Ytiiljfpbcanphaa.G

/- impl.CountSurfacePieces, as a pure function. -/
set_option linter.unusedVariables false
namespace Go.Proofs.Ytiiljfpbcanphaa.G
open Go Go.Sx Go.Proofs

def impl_CountSurfacePieces.f (s1 : List (List Int)) : Option (Int × Int) := (G.impl_ofSurface.f s1 G.impl_pieces.f).bind (fun p => match p with | (r_1, r_2) => some (r_1, r_2))

def impl_CountSurfacePieces.R (r : Int × Int) (v : Value) (L : List Asn) : Prop := v = .tuple #[.int .i64 r.1, .int .i64 r.2] ∧ L = []

set_option maxRecDepth 100000 in
set_option maxHeartbeats 4000000 in
theorem impl_CountSurfacePieces.calls (w : World) (s2 : SV) (ss1 : List SV) (s1 : List (List Int)) (h1 : ReadsM Ei (hp w) s2 ss1 s1) :
  ∀ r, impl_CountSurfacePieces.f s1 = some r → Calls Try.prog 57 #[SV.v s2] w (Ret w (impl_CountSurfacePieces.R r)) := by

 refine calls_T (n := 8) (Γ := [(0, SV.v s2)]) (R := impl_CountSurfacePieces.R) Try.func57 rfl rfl (Nat.le_of_ble_eq_true rfl) ⟨rfl, trivial⟩ ?_
 unfold impl_CountSurfacePieces.f
 refine TC.seq ?_
 refine TC.region ?_
 refine TL.assign rfl rfl (v := .int .i64 0) rfl ?_
 refine TL.assign rfl rfl (v := .int .i64 0) rfl ?_
 refine TL.done ?_
 refine TC.seq ?_
 refine TC.region ?_
 refine TL.move rfl rfl (v := SV.v s2) rfl ?_
 refine TL.call (R := G.impl_ofSurface.R) Try.call127 rfl rfl rfl (fun w hS => G.impl_ofSurface.calls w s2 ss1 s1 132 [] [] G.impl_pieces.f ((RdM.old h1) w hS) Try.call132 (fun w_ hle_ s1_ ss1_ x0_ h0_ r_ hr_ => G.impl_pieces.calls w_ s1_ ss1_ x0_ h0_ r_ hr_)) ?_
 rintro ⟨r_1, r_2⟩ _ _ ⟨rfl, rfl⟩
 refine TL.extract rfl rfl rfl (v := .int .i64 r_1) rfl ?_
 refine TL.extract rfl rfl rfl (v := .int .i64 r_2) rfl ?_
 refine TL.assign rfl rfl (v := .int .i64 r_1) rfl ?_
 refine TL.assign rfl rfl (v := .int .i64 r_2) rfl ?_
 refine TL.done ?_
 exact TC.retF (Fin.body (fin2 (.inr rfl) rfl (.tmp rfl) (.tmp rfl) [] rfl ⟨rfl, rfl⟩))

end Go.Proofs.Ytiiljfpbcanphaa.G
