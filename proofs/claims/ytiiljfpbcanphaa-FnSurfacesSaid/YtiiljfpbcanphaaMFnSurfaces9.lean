/- Functions of the program, as pure functions. -/
import Derived.Test.YtiiljfpbcanphaaMFnSurfaces8
import Derived.Test.YtiiljfpbcanphaaProg
/- laws.FnSurfaces, as a pure function. -/
set_option linter.unusedVariables false
namespace Go.Proofs.Ytiiljfpbcanphaa.G
open Go Go.Sx Go.Proofs

def laws_FnSurfaces.f (x1 : List UInt8) : Option Bool := (G.laws_big.f x1).bind (fun r_1 => (bif r_1 then some true else (G.spec_DrawFlipEdge.f x1).bind (fun p => match p with | (r_2, r_3) => (G.impl_FlipEdge.f r_2 r_3).bind (fun p => match p with | (r_4, r_5) => (G.spec_FlipEdge.f r_2 r_3).bind (fun p => match p with | (r_6, r_7) => (bif (r_5 != r_7) then some true else (G.laws_rows5.f r_4 r_6).bind (fun r_8 => some (!r_8))).bind (fun b_1 => (bif b_1 then some true else (G.impl_IsSurface.f r_2).bind (fun r_9 => (G.spec_IsSurface.f r_2).bind (fun r_10 => some (r_9 != r_10)))).bind (fun b_2 => (bif b_2 then some false else ((bif (r_5 == 0) then (G.impl_EulerNumber.f r_2).bind (fun p => match p with | (r_11, r_12) => (G.impl_EulerNumber.f r_4).bind (fun p => match p with | (r_13, r_14) => (G.impl_IsOriented.f r_4).bind (fun p => match p with | (r_15, r_16) => (bif (((((r_12 != 0) || (r_14 != 0)) || (r_16 != 0)) || (r_11 != r_13)) || (!r_15)) then some (.inr (false)) else some (.inl ()))))) else some (.inl ()))).bind (jn (fun _ => (G.spec_DrawSplitTriangle.f x1).bind (fun p => match p with | (r_17, r_18) => (G.impl_SplitTriangle.f r_17 r_18).bind (fun p => match p with | (r_19, r_20) => (G.spec_SplitTriangle.f r_17 r_18).bind (fun p => match p with | (r_21, r_22) => (bif (r_20 != r_22) then some true else (G.laws_rows5.f r_19 r_21).bind (fun r_23 => some (!r_23))).bind (fun b_3 => (bif b_3 then some false else ((bif (r_20 == 0) then (G.impl_EulerNumber.f r_17).bind (fun p => match p with | (r_24, r_25) => (G.impl_EulerNumber.f r_19).bind (fun p => match p with | (r_26, r_27) => (G.impl_IsOriented.f r_17).bind (fun p => match p with | (r_28, r_29) => (G.impl_IsOriented.f r_19).bind (fun p => match p with | (r_30, r_31) => (G.impl_CountVertices.f r_17).bind (fun p => match p with | (r_32, r_33) => (G.impl_CountVertices.f r_19).bind (fun p => match p with | (r_34, r_35) => (bif (((((((((r_25 != 0) || (r_27 != 0)) || (r_29 != 0)) || (r_31 != 0)) || (r_33 != 0)) || (r_35 != 0)) || (r_24 != r_26)) || (r_28 != r_30)) || ((w64 (r_32 + 1)) != r_34)) then some (.inr (false)) else some (.inl ())))))))) else some (.inl ()))).bind (jn (fun _ => (G.spec_DrawOrientSurface.f x1).bind (fun r_36 => (G.impl_OrientSurface.f r_36).bind (fun p => match p with | (r_37, r_38) => (G.spec_OrientSurface.f r_36).bind (fun p => match p with | (r_39, r_40) => (bif (r_38 != r_40) then some true else (G.laws_rows5.f r_37 r_39).bind (fun r_41 => some (!r_41))).bind (fun b_4 => (bif b_4 then some false else ((bif (r_38 == 0) then (G.impl_IsOriented.f r_37).bind (fun p => match p with | (r_42, r_43) => (G.impl_OrientSurface.f r_37).bind (fun p => match p with | (r_44, r_45) => (bif (((r_43 != 0) || (r_45 != 0)) || (!r_42)) then some true else (G.laws_rows5.f r_44 r_37).bind (fun r_46 => some (!r_46))).bind (fun b_5 => (bif b_5 then some (.inr (false)) else some (.inl ()))))) else some (.inl ()))).bind (jn (fun _ => (G.spec_DrawGenusOf.f x1).bind (fun r_47 => (G.impl_GenusOf.f r_47).bind (fun p => match p with | (r_48, r_49) => (G.spec_GenusOf.f r_47).bind (fun p => match p with | (r_50, r_51) => (G.spec_DrawCountSurfacePieces.f x1).bind (fun r_52 => (G.impl_CountSurfacePieces.f r_52).bind (fun p => match p with | (r_53, r_54) => (G.spec_CountSurfacePieces.f r_52).bind (fun p => match p with | (r_55, r_56) => (G.spec_DrawNamedSurface.f x1).bind (fun r_57 => (G.impl_NamedSurface.f r_57).bind (fun p => match p with | (r_58, r_59) => (G.spec_NamedSurface.f r_57).bind (fun p => match p with | (r_60, r_61) => (G.spec_DrawEulerNumber.f x1).bind (fun r_62 => (G.impl_EulerNumber.f r_62).bind (fun p => match p with | (r_63, r_64) => (G.spec_EulerNumber.f r_62).bind (fun p => match p with | (r_65, r_66) => (G.spec_DrawCountVertices.f x1).bind (fun r_67 => (G.impl_CountVertices.f r_67).bind (fun p => match p with | (r_68, r_69) => (G.spec_CountVertices.f r_67).bind (fun p => match p with | (r_70, r_71) => (G.spec_DrawIsOriented.f x1).bind (fun r_72 => (G.impl_IsOriented.f r_72).bind (fun p => match p with | (r_73, r_74) => (G.spec_IsOriented.f r_72).bind (fun p => match p with | (r_75, r_76) => (bif (((((r_49 == r_51) && (r_48 == r_50)) && (r_54 == r_56)) && (r_53 == r_55)) && (r_59 == r_61)) then (G.laws_rows5.f r_58 r_60).bind (fun r_77 => some r_77) else some false).bind (fun b_6 => some ((((((b_6 && (r_64 == r_66)) && (r_63 == r_65)) && (r_69 == r_71)) && (r_68 == r_70)) && (r_74 == r_76)) && (r_73 == r_75)))))))))))))))))))))))))))))))))))))))))))))

def laws_FnSurfaces.R (r : Bool) (v : Value) (L : List Asn) : Prop := v = .bool r ∧ L = []

set_option maxRecDepth 100000 in
set_option maxHeartbeats 4000000 in
theorem laws_FnSurfaces.calls (w : World) (s1 : SV) (x1 : List UInt8) (h1 : Reads Eu (hp w) s1 x1) :
  ∀ r, laws_FnSurfaces.f x1 = some r → Calls Try.prog 11 #[SV.v s1] w (Ret w (laws_FnSurfaces.R r)) := by

 refine calls_T (n := 418) (Γ := [(0, SV.v s1)]) (R := laws_FnSurfaces.R) Try.func11 rfl rfl (Nat.le_of_ble_eq_true rfl) ⟨rfl, trivial⟩ ?_
 unfold laws_FnSurfaces.f
 refine TC.seq ?_
 refine TC.region ?_
 refine TL.assign rfl rfl (v := .bool false) rfl ?_
 refine TL.done ?_
 refine TC.seq ?_
 refine TC.seq ?_
 refine TC.region ?_
 refine TL.move rfl rfl (v := SV.v s1) rfl ?_
 refine TL.call (R := G.laws_big.R) Try.call39 rfl rfl rfl (fun w hS => G.laws_big.calls w s1 x1 ((Rd.old h1) w hS)) ?_
 rintro r_1 _ _ ⟨rfl, rfl⟩
 refine TL.done ?_
 refine TC.cond (b := r_1) rfl (fun c1 => ?_) (fun c2 => ?_)
 ·refine TC.seq ?_
  refine TC.region ?_
  refine TL.assign rfl rfl (v := .bool true) rfl ?_
  refine TL.done ?_
  exact TC.retF (Fin.body (fin1 (.inr rfl) rfl (.tmp rfl) [] rfl ⟨rfl, rfl⟩))
 ·refine TC.skip ?_
  refine TC.seq ?_
  refine TC.region ?_
  refine TL.move rfl rfl (v := SV.v s1) rfl ?_
  refine TL.call (R := G.spec_DrawFlipEdge.R) Try.call40 rfl rfl rfl (fun w hS => G.spec_DrawFlipEdge.calls w s1 x1 ((Rd.old h1) w hS)) ?_
  rintro ⟨r_2, r_3⟩ _ _ ⟨s2, ss1, rfl, rfl⟩
  refine TL.move rfl rfl (v := .tuple #[SV.v s2, .int .i64 r_3]) rfl ?_
  refine TL.extract rfl rfl rfl (v := SV.v s2) rfl ?_
  refine TL.extract rfl rfl rfl (v := .int .i64 r_3) rfl ?_
  refine TL.assign rfl rfl (v := SV.v s2) rfl ?_
  refine TL.assign rfl rfl (v := .int .i64 r_3) rfl ?_
  refine TL.done ?_
  refine TC.seq ?_
  refine TC.region ?_
  refine TL.move rfl rfl (v := SV.v s2) rfl ?_
  refine TL.move rfl rfl (v := .int .i64 r_3) rfl ?_
  refine TL.call (R := G.impl_FlipEdge.R) Try.call41 rfl rfl rfl (fun w hS => G.impl_FlipEdge.calls w s2 ss1 r_2 r_3 ((RdM.mat 0 rfl) w hS)) ?_
  rintro ⟨r_4, r_5⟩ _ _ ⟨s3, ss2, rfl, rfl⟩
  refine TL.move rfl rfl (v := .tuple #[SV.v s3, .int .i64 r_5]) rfl ?_
  refine TL.extract rfl rfl rfl (v := SV.v s3) rfl ?_
  refine TL.extract rfl rfl rfl (v := .int .i64 r_5) rfl ?_
  refine TL.assign rfl rfl (v := SV.v s3) rfl ?_
  refine TL.assign rfl rfl (v := .int .i64 r_5) rfl ?_
  refine TL.done ?_
  refine TC.seq ?_
  refine TC.region ?_
  refine TL.move rfl rfl (v := SV.v s2) rfl ?_
  refine TL.move rfl rfl (v := .int .i64 r_3) rfl ?_
  refine TL.call (R := G.spec_FlipEdge.R) Try.call42 rfl rfl rfl (fun w hS => G.spec_FlipEdge.calls w s2 ss1 r_2 r_3 ((RdM.mat 1 rfl) w hS)) ?_
  rintro ⟨r_6, r_7⟩ _ _ ⟨s4, ss3, rfl, rfl⟩
  refine TL.move rfl rfl (v := .tuple #[SV.v s4, .int .i64 r_7]) rfl ?_
  refine TL.extract rfl rfl rfl (v := SV.v s4) rfl ?_
  refine TL.extract rfl rfl rfl (v := .int .i64 r_7) rfl ?_
  refine TL.assign rfl rfl (v := SV.v s4) rfl ?_
  refine TL.assign rfl rfl (v := .int .i64 r_7) rfl ?_
  refine TL.done ?_
  refine TC.seq ?_
  refine TC.seq ?_
  refine TC.region ?_
  refine TL.move rfl rfl (v := .int .i64 r_5) rfl ?_
  refine TL.move rfl rfl (v := .int .i64 r_7) rfl ?_
  refine TL.bin .i64 r_5 r_7 rfl rfl rfl rfl (v := .bool (r_5 != r_7)) rfl ?_
  refine TL.move rfl rfl (v := .bool (r_5 != r_7)) rfl ?_
  refine TL.cutJ (σ := Bool) (γ := Unit) (Γ' := fun b_1 _ => [(99, .bool b_1), (0, SV.v s1), (2, .bool false), (72, SV.v s1), (73, .bool r_1), (75, SV.v s1), (76, .tuple #[SV.v s2, .int .i64 r_3]), (74, .tuple #[SV.v s2, .int .i64 r_3]), (77, SV.v s2), (78, .int .i64 r_3), (3, SV.v s2), (4, .int .i64 r_3), (80, SV.v s2), (81, .int .i64 r_3), (82, .tuple #[SV.v s3, .int .i64 r_5]), (79, .tuple #[SV.v s3, .int .i64 r_5]), (83, SV.v s3), (84, .int .i64 r_5), (5, SV.v s3), (6, .int .i64 r_5), (86, SV.v s2), (87, .int .i64 r_3), (88, .tuple #[SV.v s4, .int .i64 r_7]), (85, .tuple #[SV.v s4, .int .i64 r_7]), (89, SV.v s4), (90, .int .i64 r_7), (7, SV.v s4), (8, .int .i64 r_7), (91, .int .i64 r_5), (92, .int .i64 r_7), (93, .bool (r_5 != r_7)), (94, .bool (r_5 != r_7))]) (L' := fun _ _ => [mat Ei 2 22 s4 ss3 r_6, mat Ei 2 22 s3 ss2 r_4, mat Ei 2 22 s2 ss1 r_2]) 5 ?_ ?_
  ·refine TL.ifb (t := 94) (b := (r_5 != r_7)) rfl (fun c3 => ?_) (fun c4 => ?_)
   ·refine TL.skip rfl rfl (by decide) ?_
    refine TL.skip rfl rfl (by decide) ?_
    refine TL.skip rfl rfl (by decide) ?_
    refine TL.skip rfl rfl (by decide) ?_
    refine TL.pick rfl rfl (b := true) rfl (r := .bool true) rfl ?_
    refine TL.done ?_
    exact TC.nrm (true) () ⟨rfl, rfl, rfl, rfl, rfl, rfl, rfl, rfl, rfl, rfl, rfl, rfl, rfl, rfl, rfl, rfl, rfl, rfl, rfl, rfl, rfl, rfl, rfl, rfl, rfl, rfl, rfl, rfl, rfl, rfl, rfl, (by rw [c3]; rfl), trivial⟩ [0, 0, 0] (by kernel_rfl)
   ·refine TL.move rfl rfl (v := SV.v s3) rfl ?_
    refine TL.move rfl rfl (v := SV.v s4) rfl ?_
    refine TL.call (R := G.laws_rows5.R) Try.call43 rfl rfl rfl (fun w hS => G.laws_rows5.calls w s3 ss2 r_4 s4 ss3 r_6 ((RdM.mat 1 rfl) w hS) ((RdM.mat 0 rfl) w hS)) ?_
    rintro r_8 _ _ ⟨rfl, rfl⟩
    refine TL.not r_8 rfl rfl rfl ?_
    refine TL.pick rfl rfl (b := false) rfl (r := .bool (!r_8)) rfl ?_
    refine TL.done ?_
    exact TC.nrm ((!r_8)) () ⟨rfl, rfl, rfl, rfl, rfl, rfl, rfl, rfl, rfl, rfl, rfl, rfl, rfl, rfl, rfl, rfl, rfl, rfl, rfl, rfl, rfl, rfl, rfl, rfl, rfl, rfl, rfl, rfl, rfl, rfl, rfl, (by rw [c4]; rfl), trivial⟩ [0, 0, 0] (by kernel_rfl)
  ·rintro b_1 _
   refine TL.move rfl rfl (v := .bool b_1) rfl ?_
   refine TL.cutJ (σ := Bool) (γ := Unit) (Γ' := fun b_2 _ => [(106, .bool b_2), (0, SV.v s1), (2, .bool false), (72, SV.v s1), (73, .bool r_1), (75, SV.v s1), (76, .tuple #[SV.v s2, .int .i64 r_3]), (74, .tuple #[SV.v s2, .int .i64 r_3]), (77, SV.v s2), (78, .int .i64 r_3), (3, SV.v s2), (4, .int .i64 r_3), (80, SV.v s2), (81, .int .i64 r_3), (82, .tuple #[SV.v s3, .int .i64 r_5]), (79, .tuple #[SV.v s3, .int .i64 r_5]), (83, SV.v s3), (84, .int .i64 r_5), (5, SV.v s3), (6, .int .i64 r_5), (86, SV.v s2), (87, .int .i64 r_3), (88, .tuple #[SV.v s4, .int .i64 r_7]), (85, .tuple #[SV.v s4, .int .i64 r_7]), (89, SV.v s4), (90, .int .i64 r_7), (7, SV.v s4), (8, .int .i64 r_7), (91, .int .i64 r_5), (92, .int .i64 r_7), (93, .bool (r_5 != r_7)), (94, .bool (r_5 != r_7)), (99, .bool b_1), (100, .bool b_1)]) (L' := fun _ _ => [mat Ei 2 22 s4 ss3 r_6, mat Ei 2 22 s3 ss2 r_4, mat Ei 2 22 s2 ss1 r_2]) 6 ?_ ?_
   ·refine TL.ifb (t := 100) (b := b_1) rfl (fun c5 => ?_) (fun c6 => ?_)
    ·refine TL.skip rfl rfl (by decide) ?_
     refine TL.skip rfl rfl (by decide) ?_
     refine TL.skip rfl rfl (by decide) ?_
     refine TL.skip rfl rfl (by decide) ?_
     refine TL.skip rfl rfl (by decide) ?_
     refine TL.pick rfl rfl (b := true) rfl (r := .bool true) rfl ?_
     refine TL.done ?_
     exact TC.nrm (true) () ⟨rfl, rfl, rfl, rfl, rfl, rfl, rfl, rfl, rfl, rfl, rfl, rfl, rfl, rfl, rfl, rfl, rfl, rfl, rfl, rfl, rfl, rfl, rfl, rfl, rfl, rfl, rfl, rfl, rfl, rfl, rfl, rfl, rfl, (by rw [c5]; rfl), trivial⟩ [0, 0, 0] (by kernel_rfl)
    ·refine TL.move rfl rfl (v := SV.v s2) rfl ?_
     refine TL.call (R := G.impl_IsSurface.R) Try.call44 rfl rfl rfl (fun w hS => G.impl_IsSurface.calls w s2 ss1 r_2 ((RdM.mat 2 rfl) w hS)) ?_
     rintro r_9 _ _ ⟨rfl, rfl⟩
     refine TL.move rfl rfl (v := SV.v s2) rfl ?_
     refine TL.call (R := G.spec_IsSurface.R) Try.call45 rfl rfl rfl (fun w hS => G.spec_IsSurface.calls w s2 ss1 r_2 ((RdM.mat 2 rfl) w hS)) ?_
     rintro r_10 _ _ ⟨rfl, rfl⟩
     refine TL.boolNe r_9 r_10 Try.underlying4 rfl rfl rfl rfl ?_
     refine TL.pick rfl rfl (b := false) rfl (r := .bool (r_9 != r_10)) rfl ?_
     refine TL.done ?_
     exact TC.nrm ((r_9 != r_10)) () ⟨rfl, rfl, rfl, rfl, rfl, rfl, rfl, rfl, rfl, rfl, rfl, rfl, rfl, rfl, rfl, rfl, rfl, rfl, rfl, rfl, rfl, rfl, rfl, rfl, rfl, rfl, rfl, rfl, rfl, rfl, rfl, rfl, rfl, (by rw [c6]; rfl), trivial⟩ [0, 0, 0] (by kernel_rfl)
   ·rintro b_2 _
    refine TL.done ?_
    refine TC.cond (b := b_2) rfl (fun c7 => ?_) (fun c8 => ?_)
    ·refine TC.seq ?_
     refine TC.region ?_
     refine TL.assign rfl rfl (v := .bool false) rfl ?_
     refine TL.done ?_
     exact TC.retF (Fin.body (fin1 (.inr rfl) rfl (.tmp rfl) [] rfl ⟨rfl, rfl⟩))
    ·refine TC.skip ?_
     refine TC.seq ?_
     refine TC.seq ?_
     refine TC.region ?_
     refine TL.move rfl rfl (v := .int .i64 r_5) rfl ?_
     refine TL.bin .i64 r_5 0 rfl rfl rfl rfl (v := .bool (r_5 == 0)) rfl ?_
     refine TL.done ?_
     refine TC.join (σ := Unit) (γ := Unit) (Γ' := (fun _ _ => [(0, SV.v s1)])) (L' := (fun _ _ => [])) ?_ ?_
     ·refine TC.cond (b := (r_5 == 0)) rfl (fun c9 => ?_) (fun c10 => ?_)
      ·refine TC.seq ?_
       refine TC.region ?_
       refine TL.move rfl rfl (v := SV.v s2) rfl ?_
       refine TL.call (R := G.impl_EulerNumber.R) Try.call46 rfl rfl rfl (fun w hS => G.impl_EulerNumber.calls w s2 ss1 r_2 ((RdM.mat 2 rfl) w hS)) ?_
       rintro ⟨r_11, r_12⟩ _ _ ⟨rfl, rfl⟩
       refine TL.move rfl rfl (v := .tuple #[.int .i64 r_11, .int .i64 r_12]) rfl ?_
       refine TL.extract rfl rfl rfl (v := .int .i64 r_11) rfl ?_
       refine TL.extract rfl rfl rfl (v := .int .i64 r_12) rfl ?_
       refine TL.assign rfl rfl (v := .int .i64 r_11) rfl ?_
       refine TL.assign rfl rfl (v := .int .i64 r_12) rfl ?_
       refine TL.done ?_
       refine TC.seq ?_
       refine TC.region ?_
       refine TL.move rfl rfl (v := SV.v s3) rfl ?_
       refine TL.call (R := G.impl_EulerNumber.R) Try.call46 rfl rfl rfl (fun w hS => G.impl_EulerNumber.calls w s3 ss2 r_4 ((RdM.mat 1 rfl) w hS)) ?_
       rintro ⟨r_13, r_14⟩ _ _ ⟨rfl, rfl⟩
       refine TL.move rfl rfl (v := .tuple #[.int .i64 r_13, .int .i64 r_14]) rfl ?_
       refine TL.extract rfl rfl rfl (v := .int .i64 r_13) rfl ?_
       refine TL.extract rfl rfl rfl (v := .int .i64 r_14) rfl ?_
       refine TL.assign rfl rfl (v := .int .i64 r_13) rfl ?_
       refine TL.assign rfl rfl (v := .int .i64 r_14) rfl ?_
       refine TL.done ?_
       refine TC.seq ?_
       refine TC.region ?_
       refine TL.move rfl rfl (v := SV.v s3) rfl ?_
       refine TL.call (R := G.impl_IsOriented.R) Try.call47 rfl rfl rfl (fun w hS => G.impl_IsOriented.calls w s3 ss2 r_4 ((RdM.mat 1 rfl) w hS)) ?_
       rintro ⟨r_15, r_16⟩ _ _ ⟨rfl, rfl⟩
       refine TL.move rfl rfl (v := .tuple #[.bool r_15, .int .i64 r_16]) rfl ?_
       refine TL.extract rfl rfl rfl (v := .bool r_15) rfl ?_
       refine TL.extract rfl rfl rfl (v := .int .i64 r_16) rfl ?_
       refine TL.assign rfl rfl (v := .bool r_15) rfl ?_
       refine TL.assign rfl rfl (v := .int .i64 r_16) rfl ?_
       refine TL.done ?_
       refine TC.seq ?_
       refine TC.region ?_
       refine TL.move rfl rfl (v := .int .i64 r_12) rfl ?_
       refine TL.bin .i64 r_12 0 rfl rfl rfl rfl (v := .bool (r_12 != 0)) rfl ?_
       refine TL.move rfl rfl (v := .bool (r_12 != 0)) rfl ?_
       refine TL.cutU 3 [(129, .bool ((r_12 != 0) || (r_14 != 0))), (0, SV.v s1), (2, .bool false), (72, SV.v s1), (73, .bool r_1), (75, SV.v s1), (76, .tuple #[SV.v s2, .int .i64 r_3]), (74, .tuple #[SV.v s2, .int .i64 r_3]), (77, SV.v s2), (78, .int .i64 r_3), (3, SV.v s2), (4, .int .i64 r_3), (80, SV.v s2), (81, .int .i64 r_3), (82, .tuple #[SV.v s3, .int .i64 r_5]), (79, .tuple #[SV.v s3, .int .i64 r_5]), (83, SV.v s3), (84, .int .i64 r_5), (5, SV.v s3), (6, .int .i64 r_5), (86, SV.v s2), (87, .int .i64 r_3), (88, .tuple #[SV.v s4, .int .i64 r_7]), (85, .tuple #[SV.v s4, .int .i64 r_7]), (89, SV.v s4), (90, .int .i64 r_7), (7, SV.v s4), (8, .int .i64 r_7), (91, .int .i64 r_5), (92, .int .i64 r_7), (93, .bool (r_5 != r_7)), (94, .bool (r_5 != r_7)), (99, .bool b_1), (100, .bool b_1), (106, .bool b_2), (107, .int .i64 r_5), (108, .bool (r_5 == 0)), (110, SV.v s2), (111, .tuple #[.int .i64 r_11, .int .i64 r_12]), (109, .tuple #[.int .i64 r_11, .int .i64 r_12]), (112, .int .i64 r_11), (113, .int .i64 r_12), (9, .int .i64 r_11), (10, .int .i64 r_12), (115, SV.v s3), (116, .tuple #[.int .i64 r_13, .int .i64 r_14]), (114, .tuple #[.int .i64 r_13, .int .i64 r_14]), (117, .int .i64 r_13), (118, .int .i64 r_14), (11, .int .i64 r_13), (12, .int .i64 r_14), (120, SV.v s3), (121, .tuple #[.bool r_15, .int .i64 r_16]), (119, .tuple #[.bool r_15, .int .i64 r_16]), (122, .bool r_15), (123, .int .i64 r_16), (13, .bool r_15), (14, .int .i64 r_16), (124, .int .i64 r_12), (125, .bool (r_12 != 0)), (126, .bool (r_12 != 0))] [mat Ei 2 22 s4 ss3 r_6, mat Ei 2 22 s3 ss2 r_4, mat Ei 2 22 s2 ss1 r_2] ?_ ?_
       ·refine TL.cases (t := 126) (b := (r_12 != 0)) rfl (fun c11 => ?_) (fun c12 => ?_)
        ·refine TL.skip rfl rfl (by decide) ?_
         refine TL.skip rfl rfl (by decide) ?_
         refine TL.pick rfl rfl (b := true) rfl (r := .bool true) rfl ?_
         refine TL.done ?_
         exact TC.nrm () () ⟨(by rw [c11]; rfl), rfl, rfl, rfl, rfl, rfl, rfl, rfl, rfl, rfl, rfl, rfl, rfl, rfl, rfl, rfl, rfl, rfl, rfl, rfl, rfl, rfl, rfl, rfl, rfl, rfl, rfl, rfl, rfl, rfl, rfl, rfl, rfl, rfl, rfl, rfl, rfl, rfl, rfl, rfl, rfl, rfl, rfl, rfl, rfl, rfl, rfl, rfl, rfl, rfl, rfl, rfl, rfl, rfl, rfl, rfl, rfl, rfl, rfl, rfl, (by rw [c11]; rfl), trivial⟩ [0, 0, 0] (by kernel_rfl)
        ·refine TL.move rfl rfl (v := .int .i64 r_14) rfl ?_
         refine TL.bin .i64 r_14 0 rfl rfl rfl rfl (v := .bool (r_14 != 0)) rfl ?_
         refine TL.pick rfl rfl (b := false) rfl (r := .bool (r_14 != 0)) rfl ?_
         refine TL.done ?_
         exact TC.nrm () () ⟨(by rw [c12]; rfl), rfl, rfl, rfl, rfl, rfl, rfl, rfl, rfl, rfl, rfl, rfl, rfl, rfl, rfl, rfl, rfl, rfl, rfl, rfl, rfl, rfl, rfl, rfl, rfl, rfl, rfl, rfl, rfl, rfl, rfl, rfl, rfl, rfl, rfl, rfl, rfl, rfl, rfl, rfl, rfl, rfl, rfl, rfl, rfl, rfl, rfl, rfl, rfl, rfl, rfl, rfl, rfl, rfl, rfl, rfl, rfl, rfl, rfl, rfl, (by rw [c12]; rfl), trivial⟩ [0, 0, 0] (by kernel_rfl)
       ·refine TL.move rfl rfl (v := .bool ((r_12 != 0) || (r_14 != 0))) rfl ?_
        refine TL.cutU 3 [(133, .bool (((r_12 != 0) || (r_14 != 0)) || (r_16 != 0))), (0, SV.v s1), (2, .bool false), (72, SV.v s1), (73, .bool r_1), (75, SV.v s1), (76, .tuple #[SV.v s2, .int .i64 r_3]), (74, .tuple #[SV.v s2, .int .i64 r_3]), (77, SV.v s2), (78, .int .i64 r_3), (3, SV.v s2), (4, .int .i64 r_3), (80, SV.v s2), (81, .int .i64 r_3), (82, .tuple #[SV.v s3, .int .i64 r_5]), (79, .tuple #[SV.v s3, .int .i64 r_5]), (83, SV.v s3), (84, .int .i64 r_5), (5, SV.v s3), (6, .int .i64 r_5), (86, SV.v s2), (87, .int .i64 r_3), (88, .tuple #[SV.v s4, .int .i64 r_7]), (85, .tuple #[SV.v s4, .int .i64 r_7]), (89, SV.v s4), (90, .int .i64 r_7), (7, SV.v s4), (8, .int .i64 r_7), (91, .int .i64 r_5), (92, .int .i64 r_7), (93, .bool (r_5 != r_7)), (94, .bool (r_5 != r_7)), (99, .bool b_1), (100, .bool b_1), (106, .bool b_2), (107, .int .i64 r_5), (108, .bool (r_5 == 0)), (110, SV.v s2), (111, .tuple #[.int .i64 r_11, .int .i64 r_12]), (109, .tuple #[.int .i64 r_11, .int .i64 r_12]), (112, .int .i64 r_11), (113, .int .i64 r_12), (9, .int .i64 r_11), (10, .int .i64 r_12), (115, SV.v s3), (116, .tuple #[.int .i64 r_13, .int .i64 r_14]), (114, .tuple #[.int .i64 r_13, .int .i64 r_14]), (117, .int .i64 r_13), (118, .int .i64 r_14), (11, .int .i64 r_13), (12, .int .i64 r_14), (120, SV.v s3), (121, .tuple #[.bool r_15, .int .i64 r_16]), (119, .tuple #[.bool r_15, .int .i64 r_16]), (122, .bool r_15), (123, .int .i64 r_16), (13, .bool r_15), (14, .int .i64 r_16), (124, .int .i64 r_12), (125, .bool (r_12 != 0)), (126, .bool (r_12 != 0)), (129, .bool ((r_12 != 0) || (r_14 != 0))), (130, .bool ((r_12 != 0) || (r_14 != 0)))] [mat Ei 2 22 s4 ss3 r_6, mat Ei 2 22 s3 ss2 r_4, mat Ei 2 22 s2 ss1 r_2] ?_ ?_
        ·refine TL.cases (t := 130) (b := ((r_12 != 0) || (r_14 != 0))) rfl (fun c13 => ?_) (fun c14 => ?_)
         ·refine TL.skip rfl rfl (by decide) ?_
          refine TL.skip rfl rfl (by decide) ?_
          refine TL.pick rfl rfl (b := true) rfl (r := .bool true) rfl ?_
          refine TL.done ?_
          exact TC.nrm () () ⟨(by rw [c13]; rfl), rfl, rfl, rfl, rfl, rfl, rfl, rfl, rfl, rfl, rfl, rfl, rfl, rfl, rfl, rfl, rfl, rfl, rfl, rfl, rfl, rfl, rfl, rfl, rfl, rfl, rfl, rfl, rfl, rfl, rfl, rfl, rfl, rfl, rfl, rfl, rfl, rfl, rfl, rfl, rfl, rfl, rfl, rfl, rfl, rfl, rfl, rfl, rfl, rfl, rfl, rfl, rfl, rfl, rfl, rfl, rfl, rfl, rfl, rfl, rfl, rfl, (by rw [c13]; rfl), trivial⟩ [0, 0, 0] (by kernel_rfl)
         ·refine TL.move rfl rfl (v := .int .i64 r_16) rfl ?_
          refine TL.bin .i64 r_16 0 rfl rfl rfl rfl (v := .bool (r_16 != 0)) rfl ?_
          refine TL.pick rfl rfl (b := false) rfl (r := .bool (r_16 != 0)) rfl ?_
          refine TL.done ?_
          exact TC.nrm () () ⟨(by rw [c14]; rfl), rfl, rfl, rfl, rfl, rfl, rfl, rfl, rfl, rfl, rfl, rfl, rfl, rfl, rfl, rfl, rfl, rfl, rfl, rfl, rfl, rfl, rfl, rfl, rfl, rfl, rfl, rfl, rfl, rfl, rfl, rfl, rfl, rfl, rfl, rfl, rfl, rfl, rfl, rfl, rfl, rfl, rfl, rfl, rfl, rfl, rfl, rfl, rfl, rfl, rfl, rfl, rfl, rfl, rfl, rfl, rfl, rfl, rfl, rfl, rfl, rfl, (by rw [c14]; rfl), trivial⟩ [0, 0, 0] (by kernel_rfl)
        ·refine TL.move rfl rfl (v := .bool (((r_12 != 0) || (r_14 != 0)) || (r_16 != 0))) rfl ?_
         refine TL.cutU 4 [(138, .bool ((((r_12 != 0) || (r_14 != 0)) || (r_16 != 0)) || (r_11 != r_13))), (0, SV.v s1), (2, .bool false), (72, SV.v s1), (73, .bool r_1), (75, SV.v s1), (76, .tuple #[SV.v s2, .int .i64 r_3]), (74, .tuple #[SV.v s2, .int .i64 r_3]), (77, SV.v s2), (78, .int .i64 r_3), (3, SV.v s2), (4, .int .i64 r_3), (80, SV.v s2), (81, .int .i64 r_3), (82, .tuple #[SV.v s3, .int .i64 r_5]), (79, .tuple #[SV.v s3, .int .i64 r_5]), (83, SV.v s3), (84, .int .i64 r_5), (5, SV.v s3), (6, .int .i64 r_5), (86, SV.v s2), (87, .int .i64 r_3), (88, .tuple #[SV.v s4, .int .i64 r_7]), (85, .tuple #[SV.v s4, .int .i64 r_7]), (89, SV.v s4), (90, .int .i64 r_7), (7, SV.v s4), (8, .int .i64 r_7), (91, .int .i64 r_5), (92, .int .i64 r_7), (93, .bool (r_5 != r_7)), (94, .bool (r_5 != r_7)), (99, .bool b_1), (100, .bool b_1), (106, .bool b_2), (107, .int .i64 r_5), (108, .bool (r_5 == 0)), (110, SV.v s2), (111, .tuple #[.int .i64 r_11, .int .i64 r_12]), (109, .tuple #[.int .i64 r_11, .int .i64 r_12]), (112, .int .i64 r_11), (113, .int .i64 r_12), (9, .int .i64 r_11), (10, .int .i64 r_12), (115, SV.v s3), (116, .tuple #[.int .i64 r_13, .int .i64 r_14]), (114, .tuple #[.int .i64 r_13, .int .i64 r_14]), (117, .int .i64 r_13), (118, .int .i64 r_14), (11, .int .i64 r_13), (12, .int .i64 r_14), (120, SV.v s3), (121, .tuple #[.bool r_15, .int .i64 r_16]), (119, .tuple #[.bool r_15, .int .i64 r_16]), (122, .bool r_15), (123, .int .i64 r_16), (13, .bool r_15), (14, .int .i64 r_16), (124, .int .i64 r_12), (125, .bool (r_12 != 0)), (126, .bool (r_12 != 0)), (129, .bool ((r_12 != 0) || (r_14 != 0))), (130, .bool ((r_12 != 0) || (r_14 != 0))), (133, .bool (((r_12 != 0) || (r_14 != 0)) || (r_16 != 0))), (134, .bool (((r_12 != 0) || (r_14 != 0)) || (r_16 != 0)))] [mat Ei 2 22 s4 ss3 r_6, mat Ei 2 22 s3 ss2 r_4, mat Ei 2 22 s2 ss1 r_2] ?_ ?_
         ·refine TL.cases (t := 134) (b := (((r_12 != 0) || (r_14 != 0)) || (r_16 != 0))) rfl (fun c15 => ?_) (fun c16 => ?_)
          ·refine TL.skip rfl rfl (by decide) ?_
           refine TL.skip rfl rfl (by decide) ?_
           refine TL.skip rfl rfl (by decide) ?_
           refine TL.pick rfl rfl (b := true) rfl (r := .bool true) rfl ?_
           refine TL.done ?_
           exact TC.nrm () () ⟨(by rw [c15]; rfl), rfl, rfl, rfl, rfl, rfl, rfl, rfl, rfl, rfl, rfl, rfl, rfl, rfl, rfl, rfl, rfl, rfl, rfl, rfl, rfl, rfl, rfl, rfl, rfl, rfl, rfl, rfl, rfl, rfl, rfl, rfl, rfl, rfl, rfl, rfl, rfl, rfl, rfl, rfl, rfl, rfl, rfl, rfl, rfl, rfl, rfl, rfl, rfl, rfl, rfl, rfl, rfl, rfl, rfl, rfl, rfl, rfl, rfl, rfl, rfl, rfl, rfl, rfl, (by rw [c15]; rfl), trivial⟩ [0, 0, 0] (by kernel_rfl)
          ·refine TL.move rfl rfl (v := .int .i64 r_11) rfl ?_
           refine TL.move rfl rfl (v := .int .i64 r_13) rfl ?_
           refine TL.bin .i64 r_11 r_13 rfl rfl rfl rfl (v := .bool (r_11 != r_13)) rfl ?_
           refine TL.pick rfl rfl (b := false) rfl (r := .bool (r_11 != r_13)) rfl ?_
           refine TL.done ?_
           exact TC.nrm () () ⟨(by rw [c16]; rfl), rfl, rfl, rfl, rfl, rfl, rfl, rfl, rfl, rfl, rfl, rfl, rfl, rfl, rfl, rfl, rfl, rfl, rfl, rfl, rfl, rfl, rfl, rfl, rfl, rfl, rfl, rfl, rfl, rfl, rfl, rfl, rfl, rfl, rfl, rfl, rfl, rfl, rfl, rfl, rfl, rfl, rfl, rfl, rfl, rfl, rfl, rfl, rfl, rfl, rfl, rfl, rfl, rfl, rfl, rfl, rfl, rfl, rfl, rfl, rfl, rfl, rfl, rfl, (by rw [c16]; rfl), trivial⟩ [0, 0, 0] (by kernel_rfl)
         ·refine TL.move rfl rfl (v := .bool ((((r_12 != 0) || (r_14 != 0)) || (r_16 != 0)) || (r_11 != r_13))) rfl ?_
          refine TL.cutU 3 [(142, .bool (((((r_12 != 0) || (r_14 != 0)) || (r_16 != 0)) || (r_11 != r_13)) || (!r_15))), (0, SV.v s1), (2, .bool false), (72, SV.v s1), (73, .bool r_1), (75, SV.v s1), (76, .tuple #[SV.v s2, .int .i64 r_3]), (74, .tuple #[SV.v s2, .int .i64 r_3]), (77, SV.v s2), (78, .int .i64 r_3), (3, SV.v s2), (4, .int .i64 r_3), (80, SV.v s2), (81, .int .i64 r_3), (82, .tuple #[SV.v s3, .int .i64 r_5]), (79, .tuple #[SV.v s3, .int .i64 r_5]), (83, SV.v s3), (84, .int .i64 r_5), (5, SV.v s3), (6, .int .i64 r_5), (86, SV.v s2), (87, .int .i64 r_3), (88, .tuple #[SV.v s4, .int .i64 r_7]), (85, .tuple #[SV.v s4, .int .i64 r_7]), (89, SV.v s4), (90, .int .i64 r_7), (7, SV.v s4), (8, .int .i64 r_7), (91, .int .i64 r_5), (92, .int .i64 r_7), (93, .bool (r_5 != r_7)), (94, .bool (r_5 != r_7)), (99, .bool b_1), (100, .bool b_1), (106, .bool b_2), (107, .int .i64 r_5), (108, .bool (r_5 == 0)), (110, SV.v s2), (111, .tuple #[.int .i64 r_11, .int .i64 r_12]), (109, .tuple #[.int .i64 r_11, .int .i64 r_12]), (112, .int .i64 r_11), (113, .int .i64 r_12), (9, .int .i64 r_11), (10, .int .i64 r_12), (115, SV.v s3), (116, .tuple #[.int .i64 r_13, .int .i64 r_14]), (114, .tuple #[.int .i64 r_13, .int .i64 r_14]), (117, .int .i64 r_13), (118, .int .i64 r_14), (11, .int .i64 r_13), (12, .int .i64 r_14), (120, SV.v s3), (121, .tuple #[.bool r_15, .int .i64 r_16]), (119, .tuple #[.bool r_15, .int .i64 r_16]), (122, .bool r_15), (123, .int .i64 r_16), (13, .bool r_15), (14, .int .i64 r_16), (124, .int .i64 r_12), (125, .bool (r_12 != 0)), (126, .bool (r_12 != 0)), (129, .bool ((r_12 != 0) || (r_14 != 0))), (130, .bool ((r_12 != 0) || (r_14 != 0))), (133, .bool (((r_12 != 0) || (r_14 != 0)) || (r_16 != 0))), (134, .bool (((r_12 != 0) || (r_14 != 0)) || (r_16 != 0))), (138, .bool ((((r_12 != 0) || (r_14 != 0)) || (r_16 != 0)) || (r_11 != r_13))), (139, .bool ((((r_12 != 0) || (r_14 != 0)) || (r_16 != 0)) || (r_11 != r_13)))] [mat Ei 2 22 s4 ss3 r_6, mat Ei 2 22 s3 ss2 r_4, mat Ei 2 22 s2 ss1 r_2] ?_ ?_
          ·refine TL.cases (t := 139) (b := ((((r_12 != 0) || (r_14 != 0)) || (r_16 != 0)) || (r_11 != r_13))) rfl (fun c17 => ?_) (fun c18 => ?_)
           ·refine TL.skip rfl rfl (by decide) ?_
            refine TL.skip rfl rfl (by decide) ?_
            refine TL.pick rfl rfl (b := true) rfl (r := .bool true) rfl ?_
            refine TL.done ?_
            exact TC.nrm () () ⟨(by rw [c17]; rfl), rfl, rfl, rfl, rfl, rfl, rfl, rfl, rfl, rfl, rfl, rfl, rfl, rfl, rfl, rfl, rfl, rfl, rfl, rfl, rfl, rfl, rfl, rfl, rfl, rfl, rfl, rfl, rfl, rfl, rfl, rfl, rfl, rfl, rfl, rfl, rfl, rfl, rfl, rfl, rfl, rfl, rfl, rfl, rfl, rfl, rfl, rfl, rfl, rfl, rfl, rfl, rfl, rfl, rfl, rfl, rfl, rfl, rfl, rfl, rfl, rfl, rfl, rfl, rfl, rfl, (by rw [c17]; rfl), trivial⟩ [0, 0, 0] (by kernel_rfl)
           ·refine TL.move rfl rfl (v := .bool r_15) rfl ?_
            refine TL.not r_15 rfl rfl rfl ?_
            refine TL.pick rfl rfl (b := false) rfl (r := .bool (!r_15)) rfl ?_
            refine TL.done ?_
            exact TC.nrm () () ⟨(by rw [c18]; rfl), rfl, rfl, rfl, rfl, rfl, rfl, rfl, rfl, rfl, rfl, rfl, rfl, rfl, rfl, rfl, rfl, rfl, rfl, rfl, rfl, rfl, rfl, rfl, rfl, rfl, rfl, rfl, rfl, rfl, rfl, rfl, rfl, rfl, rfl, rfl, rfl, rfl, rfl, rfl, rfl, rfl, rfl, rfl, rfl, rfl, rfl, rfl, rfl, rfl, rfl, rfl, rfl, rfl, rfl, rfl, rfl, rfl, rfl, rfl, rfl, rfl, rfl, rfl, rfl, rfl, (by rw [c18]; rfl), trivial⟩ [0, 0, 0] (by kernel_rfl)
          ·refine TL.done ?_
           refine TC.cond (b := (((((r_12 != 0) || (r_14 != 0)) || (r_16 != 0)) || (r_11 != r_13)) || (!r_15))) rfl (fun c19 => ?_) (fun c20 => ?_)
           ·refine TC.seq ?_
            refine TC.region ?_
            refine TL.assign rfl rfl (v := .bool false) rfl ?_
            refine TL.done ?_
            exact TC.retF (Fin.join (by simp) (Fin.body (fin1 (.inr rfl) rfl (.tmp rfl) [] rfl ⟨rfl, rfl⟩)))
           ·refine TC.skip ?_
            exact TC.inl (()) (()) ⟨rfl, trivial⟩ [] rfl
      ·refine TC.skip ?_
       exact TC.inl (()) (()) ⟨rfl, trivial⟩ [] rfl
     ·rintro _ _
      refine TC.seq ?_
      refine TC.region ?_
      refine TL.move rfl rfl (v := SV.v s1) rfl ?_
      refine TL.call (R := G.spec_DrawSplitTriangle.R) Try.call48 rfl rfl rfl (fun w hS => G.spec_DrawSplitTriangle.calls w s1 x1 ((Rd.old h1) w hS)) ?_
      rintro ⟨r_17, r_18⟩ _ _ ⟨s5, ss4, rfl, rfl⟩
      refine TL.move rfl rfl (v := .tuple #[SV.v s5, .int .i64 r_18]) rfl ?_
      refine TL.extract rfl rfl rfl (v := SV.v s5) rfl ?_
      refine TL.extract rfl rfl rfl (v := .int .i64 r_18) rfl ?_
      refine TL.assign rfl rfl (v := SV.v s5) rfl ?_
      refine TL.assign rfl rfl (v := .int .i64 r_18) rfl ?_
      refine TL.done ?_
      refine TC.seq ?_
      refine TC.region ?_
      refine TL.move rfl rfl (v := SV.v s5) rfl ?_
      refine TL.move rfl rfl (v := .int .i64 r_18) rfl ?_
      refine TL.call (R := G.impl_SplitTriangle.R) Try.call49 rfl rfl rfl (fun w hS => G.impl_SplitTriangle.calls w s5 ss4 r_17 r_18 ((RdM.mat 0 rfl) w hS)) ?_
      rintro ⟨r_19, r_20⟩ _ _ ⟨s6, ss5, rfl, rfl⟩
      refine TL.move rfl rfl (v := .tuple #[SV.v s6, .int .i64 r_20]) rfl ?_
      refine TL.extract rfl rfl rfl (v := SV.v s6) rfl ?_
      refine TL.extract rfl rfl rfl (v := .int .i64 r_20) rfl ?_
      refine TL.assign rfl rfl (v := SV.v s6) rfl ?_
      refine TL.assign rfl rfl (v := .int .i64 r_20) rfl ?_
      refine TL.done ?_
      refine TC.seq ?_
      refine TC.region ?_
      refine TL.move rfl rfl (v := SV.v s5) rfl ?_
      refine TL.move rfl rfl (v := .int .i64 r_18) rfl ?_
      refine TL.call (R := G.spec_SplitTriangle.R) Try.call50 rfl rfl rfl (fun w hS => G.spec_SplitTriangle.calls w s5 ss4 r_17 r_18 ((RdM.mat 1 rfl) w hS)) ?_
      rintro ⟨r_21, r_22⟩ _ _ ⟨s7, ss6, rfl, rfl⟩
      refine TL.move rfl rfl (v := .tuple #[SV.v s7, .int .i64 r_22]) rfl ?_
      refine TL.extract rfl rfl rfl (v := SV.v s7) rfl ?_
      refine TL.extract rfl rfl rfl (v := .int .i64 r_22) rfl ?_
      refine TL.assign rfl rfl (v := SV.v s7) rfl ?_
      refine TL.assign rfl rfl (v := .int .i64 r_22) rfl ?_
      refine TL.done ?_
      refine TC.seq ?_
      refine TC.seq ?_
      refine TC.region ?_
      refine TL.move rfl rfl (v := .int .i64 r_20) rfl ?_
      refine TL.move rfl rfl (v := .int .i64 r_22) rfl ?_
      refine TL.bin .i64 r_20 r_22 rfl rfl rfl rfl (v := .bool (r_20 != r_22)) rfl ?_
      refine TL.move rfl rfl (v := .bool (r_20 != r_22)) rfl ?_
      refine TL.cutJ (σ := Bool) (γ := Unit) (Γ' := fun b_3 _ => [(168, .bool b_3), (0, SV.v s1), (144, SV.v s1), (145, .tuple #[SV.v s5, .int .i64 r_18]), (143, .tuple #[SV.v s5, .int .i64 r_18]), (146, SV.v s5), (147, .int .i64 r_18), (15, SV.v s5), (16, .int .i64 r_18), (149, SV.v s5), (150, .int .i64 r_18), (151, .tuple #[SV.v s6, .int .i64 r_20]), (148, .tuple #[SV.v s6, .int .i64 r_20]), (152, SV.v s6), (153, .int .i64 r_20), (17, SV.v s6), (18, .int .i64 r_20), (155, SV.v s5), (156, .int .i64 r_18), (157, .tuple #[SV.v s7, .int .i64 r_22]), (154, .tuple #[SV.v s7, .int .i64 r_22]), (158, SV.v s7), (159, .int .i64 r_22), (19, SV.v s7), (20, .int .i64 r_22), (160, .int .i64 r_20), (161, .int .i64 r_22), (162, .bool (r_20 != r_22)), (163, .bool (r_20 != r_22))]) (L' := fun _ _ => [mat Ei 2 22 s7 ss6 r_21, mat Ei 2 22 s6 ss5 r_19, mat Ei 2 22 s5 ss4 r_17]) 5 ?_ ?_
      ·refine TL.ifb (t := 163) (b := (r_20 != r_22)) rfl (fun c21 => ?_) (fun c22 => ?_)
       ·refine TL.skip rfl rfl (by decide) ?_
        refine TL.skip rfl rfl (by decide) ?_
        refine TL.skip rfl rfl (by decide) ?_
        refine TL.skip rfl rfl (by decide) ?_
        refine TL.pick rfl rfl (b := true) rfl (r := .bool true) rfl ?_
        refine TL.done ?_
        exact TC.nrm (true) () ⟨rfl, rfl, rfl, rfl, rfl, rfl, rfl, rfl, rfl, rfl, rfl, rfl, rfl, rfl, rfl, rfl, rfl, rfl, rfl, rfl, rfl, rfl, rfl, rfl, rfl, rfl, rfl, rfl, (by rw [c21]; rfl), trivial⟩ [0, 0, 0] (by kernel_rfl)
       ·refine TL.move rfl rfl (v := SV.v s6) rfl ?_
        refine TL.move rfl rfl (v := SV.v s7) rfl ?_
        refine TL.call (R := G.laws_rows5.R) Try.call43 rfl rfl rfl (fun w hS => G.laws_rows5.calls w s6 ss5 r_19 s7 ss6 r_21 ((RdM.mat 1 rfl) w hS) ((RdM.mat 0 rfl) w hS)) ?_
        rintro r_23 _ _ ⟨rfl, rfl⟩
        refine TL.not r_23 rfl rfl rfl ?_
        refine TL.pick rfl rfl (b := false) rfl (r := .bool (!r_23)) rfl ?_
        refine TL.done ?_
        exact TC.nrm ((!r_23)) () ⟨rfl, rfl, rfl, rfl, rfl, rfl, rfl, rfl, rfl, rfl, rfl, rfl, rfl, rfl, rfl, rfl, rfl, rfl, rfl, rfl, rfl, rfl, rfl, rfl, rfl, rfl, rfl, rfl, (by rw [c22]; rfl), trivial⟩ [0, 0, 0] (by kernel_rfl)
      ·rintro b_3 _
       refine TL.done ?_
       refine TC.cond (b := b_3) rfl (fun c23 => ?_) (fun c24 => ?_)
       ·refine TC.seq ?_
        refine TC.region ?_
        refine TL.assign rfl rfl (v := .bool false) rfl ?_
        refine TL.done ?_
        exact TC.retF (Fin.body (fin1 (.inr rfl) rfl (.tmp rfl) [] rfl ⟨rfl, rfl⟩))
       ·refine TC.skip ?_
        refine TC.seq ?_
        refine TC.seq ?_
        refine TC.region ?_
        refine TL.move rfl rfl (v := .int .i64 r_20) rfl ?_
        refine TL.bin .i64 r_20 0 rfl rfl rfl rfl (v := .bool (r_20 == 0)) rfl ?_
        refine TL.done ?_
        refine TC.join (σ := Unit) (γ := Unit) (Γ' := (fun _ _ => [(0, SV.v s1)])) (L' := (fun _ _ => [])) ?_ ?_
        ·refine TC.cond (b := (r_20 == 0)) rfl (fun c25 => ?_) (fun c26 => ?_)
         ·refine TC.seq ?_
          refine TC.region ?_
          refine TL.move rfl rfl (v := SV.v s5) rfl ?_
          refine TL.call (R := G.impl_EulerNumber.R) Try.call46 rfl rfl rfl (fun w hS => G.impl_EulerNumber.calls w s5 ss4 r_17 ((RdM.mat 2 rfl) w hS)) ?_
          rintro ⟨r_24, r_25⟩ _ _ ⟨rfl, rfl⟩
          refine TL.move rfl rfl (v := .tuple #[.int .i64 r_24, .int .i64 r_25]) rfl ?_
          refine TL.extract rfl rfl rfl (v := .int .i64 r_24) rfl ?_
          refine TL.extract rfl rfl rfl (v := .int .i64 r_25) rfl ?_
          refine TL.assign rfl rfl (v := .int .i64 r_24) rfl ?_
          refine TL.assign rfl rfl (v := .int .i64 r_25) rfl ?_
          refine TL.done ?_
          refine TC.seq ?_
          refine TC.region ?_
          refine TL.move rfl rfl (v := SV.v s6) rfl ?_
          refine TL.call (R := G.impl_EulerNumber.R) Try.call46 rfl rfl rfl (fun w hS => G.impl_EulerNumber.calls w s6 ss5 r_19 ((RdM.mat 1 rfl) w hS)) ?_
          rintro ⟨r_26, r_27⟩ _ _ ⟨rfl, rfl⟩
          refine TL.move rfl rfl (v := .tuple #[.int .i64 r_26, .int .i64 r_27]) rfl ?_
          refine TL.extract rfl rfl rfl (v := .int .i64 r_26) rfl ?_
          refine TL.extract rfl rfl rfl (v := .int .i64 r_27) rfl ?_
          refine TL.assign rfl rfl (v := .int .i64 r_26) rfl ?_
          refine TL.assign rfl rfl (v := .int .i64 r_27) rfl ?_
          refine TL.done ?_
          refine TC.seq ?_
          refine TC.region ?_
          refine TL.move rfl rfl (v := SV.v s5) rfl ?_
          refine TL.call (R := G.impl_IsOriented.R) Try.call47 rfl rfl rfl (fun w hS => G.impl_IsOriented.calls w s5 ss4 r_17 ((RdM.mat 2 rfl) w hS)) ?_
          rintro ⟨r_28, r_29⟩ _ _ ⟨rfl, rfl⟩
          refine TL.move rfl rfl (v := .tuple #[.bool r_28, .int .i64 r_29]) rfl ?_
          refine TL.extract rfl rfl rfl (v := .bool r_28) rfl ?_
          refine TL.extract rfl rfl rfl (v := .int .i64 r_29) rfl ?_
          refine TL.assign rfl rfl (v := .bool r_28) rfl ?_
          refine TL.assign rfl rfl (v := .int .i64 r_29) rfl ?_
          refine TL.done ?_
          refine TC.seq ?_
          refine TC.region ?_
          refine TL.move rfl rfl (v := SV.v s6) rfl ?_
          refine TL.call (R := G.impl_IsOriented.R) Try.call47 rfl rfl rfl (fun w hS => G.impl_IsOriented.calls w s6 ss5 r_19 ((RdM.mat 1 rfl) w hS)) ?_
          rintro ⟨r_30, r_31⟩ _ _ ⟨rfl, rfl⟩
          refine TL.move rfl rfl (v := .tuple #[.bool r_30, .int .i64 r_31]) rfl ?_
          refine TL.extract rfl rfl rfl (v := .bool r_30) rfl ?_
          refine TL.extract rfl rfl rfl (v := .int .i64 r_31) rfl ?_
          refine TL.assign rfl rfl (v := .bool r_30) rfl ?_
          refine TL.assign rfl rfl (v := .int .i64 r_31) rfl ?_
          refine TL.done ?_
          refine TC.seq ?_
          refine TC.region ?_
          refine TL.move rfl rfl (v := SV.v s5) rfl ?_
          refine TL.call (R := G.impl_CountVertices.R) Try.call51 rfl rfl rfl (fun w hS => G.impl_CountVertices.calls w s5 ss4 r_17 ((RdM.mat 2 rfl) w hS)) ?_
          rintro ⟨r_32, r_33⟩ _ _ ⟨rfl, rfl⟩
          refine TL.move rfl rfl (v := .tuple #[.int .i64 r_32, .int .i64 r_33]) rfl ?_
          refine TL.extract rfl rfl rfl (v := .int .i64 r_32) rfl ?_
          refine TL.extract rfl rfl rfl (v := .int .i64 r_33) rfl ?_
          refine TL.assign rfl rfl (v := .int .i64 r_32) rfl ?_
          refine TL.assign rfl rfl (v := .int .i64 r_33) rfl ?_
          refine TL.done ?_
          refine TC.seq ?_
          refine TC.region ?_
          refine TL.move rfl rfl (v := SV.v s6) rfl ?_
          refine TL.call (R := G.impl_CountVertices.R) Try.call51 rfl rfl rfl (fun w hS => G.impl_CountVertices.calls w s6 ss5 r_19 ((RdM.mat 1 rfl) w hS)) ?_
          rintro ⟨r_34, r_35⟩ _ _ ⟨rfl, rfl⟩
          refine TL.move rfl rfl (v := .tuple #[.int .i64 r_34, .int .i64 r_35]) rfl ?_
          refine TL.extract rfl rfl rfl (v := .int .i64 r_34) rfl ?_
          refine TL.extract rfl rfl rfl (v := .int .i64 r_35) rfl ?_
          refine TL.assign rfl rfl (v := .int .i64 r_34) rfl ?_
          refine TL.assign rfl rfl (v := .int .i64 r_35) rfl ?_
          refine TL.done ?_
          refine TC.seq ?_
          refine TC.region ?_
          refine TL.move rfl rfl (v := .int .i64 r_25) rfl ?_
          refine TL.bin .i64 r_25 0 rfl rfl rfl rfl (v := .bool (r_25 != 0)) rfl ?_
          refine TL.move rfl rfl (v := .bool (r_25 != 0)) rfl ?_
          refine TL.cutU 3 [(206, .bool ((r_25 != 0) || (r_27 != 0))), (0, SV.v s1), (144, SV.v s1), (145, .tuple #[SV.v s5, .int .i64 r_18]), (143, .tuple #[SV.v s5, .int .i64 r_18]), (146, SV.v s5), (147, .int .i64 r_18), (15, SV.v s5), (16, .int .i64 r_18), (149, SV.v s5), (150, .int .i64 r_18), (151, .tuple #[SV.v s6, .int .i64 r_20]), (148, .tuple #[SV.v s6, .int .i64 r_20]), (152, SV.v s6), (153, .int .i64 r_20), (17, SV.v s6), (18, .int .i64 r_20), (155, SV.v s5), (156, .int .i64 r_18), (157, .tuple #[SV.v s7, .int .i64 r_22]), (154, .tuple #[SV.v s7, .int .i64 r_22]), (158, SV.v s7), (159, .int .i64 r_22), (19, SV.v s7), (20, .int .i64 r_22), (160, .int .i64 r_20), (161, .int .i64 r_22), (162, .bool (r_20 != r_22)), (163, .bool (r_20 != r_22)), (168, .bool b_3), (169, .int .i64 r_20), (170, .bool (r_20 == 0)), (172, SV.v s5), (173, .tuple #[.int .i64 r_24, .int .i64 r_25]), (171, .tuple #[.int .i64 r_24, .int .i64 r_25]), (174, .int .i64 r_24), (175, .int .i64 r_25), (21, .int .i64 r_24), (22, .int .i64 r_25), (177, SV.v s6), (178, .tuple #[.int .i64 r_26, .int .i64 r_27]), (176, .tuple #[.int .i64 r_26, .int .i64 r_27]), (179, .int .i64 r_26), (180, .int .i64 r_27), (23, .int .i64 r_26), (24, .int .i64 r_27), (182, SV.v s5), (183, .tuple #[.bool r_28, .int .i64 r_29]), (181, .tuple #[.bool r_28, .int .i64 r_29]), (184, .bool r_28), (185, .int .i64 r_29), (25, .bool r_28), (26, .int .i64 r_29), (187, SV.v s6), (188, .tuple #[.bool r_30, .int .i64 r_31]), (186, .tuple #[.bool r_30, .int .i64 r_31]), (189, .bool r_30), (190, .int .i64 r_31), (27, .bool r_30), (28, .int .i64 r_31), (192, SV.v s5), (193, .tuple #[.int .i64 r_32, .int .i64 r_33]), (191, .tuple #[.int .i64 r_32, .int .i64 r_33]), (194, .int .i64 r_32), (195, .int .i64 r_33), (29, .int .i64 r_32), (30, .int .i64 r_33), (197, SV.v s6), (198, .tuple #[.int .i64 r_34, .int .i64 r_35]), (196, .tuple #[.int .i64 r_34, .int .i64 r_35]), (199, .int .i64 r_34), (200, .int .i64 r_35), (31, .int .i64 r_34), (32, .int .i64 r_35), (201, .int .i64 r_25), (202, .bool (r_25 != 0)), (203, .bool (r_25 != 0))] [mat Ei 2 22 s7 ss6 r_21, mat Ei 2 22 s6 ss5 r_19, mat Ei 2 22 s5 ss4 r_17] ?_ ?_
          ·refine TL.cases (t := 203) (b := (r_25 != 0)) rfl (fun c27 => ?_) (fun c28 => ?_)
           ·refine TL.skip rfl rfl (by decide) ?_
            refine TL.skip rfl rfl (by decide) ?_
            refine TL.pick rfl rfl (b := true) rfl (r := .bool true) rfl ?_
            refine TL.done ?_
            exact TC.nrm () () ⟨(by rw [c27]; rfl), rfl, rfl, rfl, rfl, rfl, rfl, rfl, rfl, rfl, rfl, rfl, rfl, rfl, rfl, rfl, rfl, rfl, rfl, rfl, rfl, rfl, rfl, rfl, rfl, rfl, rfl, rfl, rfl, rfl, rfl, rfl, rfl, rfl, rfl, rfl, rfl, rfl, rfl, rfl, rfl, rfl, rfl, rfl, rfl, rfl, rfl, rfl, rfl, rfl, rfl, rfl, rfl, rfl, rfl, rfl, rfl, rfl, rfl, rfl, rfl, rfl, rfl, rfl, rfl, rfl, rfl, rfl, rfl, rfl, rfl, rfl, rfl, rfl, rfl, rfl, (by rw [c27]; rfl), trivial⟩ [0, 0, 0] (by kernel_rfl)
           ·refine TL.move rfl rfl (v := .int .i64 r_27) rfl ?_
            refine TL.bin .i64 r_27 0 rfl rfl rfl rfl (v := .bool (r_27 != 0)) rfl ?_
            refine TL.pick rfl rfl (b := false) rfl (r := .bool (r_27 != 0)) rfl ?_
            refine TL.done ?_
            exact TC.nrm () () ⟨(by rw [c28]; rfl), rfl, rfl, rfl, rfl, rfl, rfl, rfl, rfl, rfl, rfl, rfl, rfl, rfl, rfl, rfl, rfl, rfl, rfl, rfl, rfl, rfl, rfl, rfl, rfl, rfl, rfl, rfl, rfl, rfl, rfl, rfl, rfl, rfl, rfl, rfl, rfl, rfl, rfl, rfl, rfl, rfl, rfl, rfl, rfl, rfl, rfl, rfl, rfl, rfl, rfl, rfl, rfl, rfl, rfl, rfl, rfl, rfl, rfl, rfl, rfl, rfl, rfl, rfl, rfl, rfl, rfl, rfl, rfl, rfl, rfl, rfl, rfl, rfl, rfl, rfl, (by rw [c28]; rfl), trivial⟩ [0, 0, 0] (by kernel_rfl)
          ·refine TL.move rfl rfl (v := .bool ((r_25 != 0) || (r_27 != 0))) rfl ?_
           refine TL.cutU 3 [(210, .bool (((r_25 != 0) || (r_27 != 0)) || (r_29 != 0))), (0, SV.v s1), (144, SV.v s1), (145, .tuple #[SV.v s5, .int .i64 r_18]), (143, .tuple #[SV.v s5, .int .i64 r_18]), (146, SV.v s5), (147, .int .i64 r_18), (15, SV.v s5), (16, .int .i64 r_18), (149, SV.v s5), (150, .int .i64 r_18), (151, .tuple #[SV.v s6, .int .i64 r_20]), (148, .tuple #[SV.v s6, .int .i64 r_20]), (152, SV.v s6), (153, .int .i64 r_20), (17, SV.v s6), (18, .int .i64 r_20), (155, SV.v s5), (156, .int .i64 r_18), (157, .tuple #[SV.v s7, .int .i64 r_22]), (154, .tuple #[SV.v s7, .int .i64 r_22]), (158, SV.v s7), (159, .int .i64 r_22), (19, SV.v s7), (20, .int .i64 r_22), (160, .int .i64 r_20), (161, .int .i64 r_22), (162, .bool (r_20 != r_22)), (163, .bool (r_20 != r_22)), (168, .bool b_3), (169, .int .i64 r_20), (170, .bool (r_20 == 0)), (172, SV.v s5), (173, .tuple #[.int .i64 r_24, .int .i64 r_25]), (171, .tuple #[.int .i64 r_24, .int .i64 r_25]), (174, .int .i64 r_24), (175, .int .i64 r_25), (21, .int .i64 r_24), (22, .int .i64 r_25), (177, SV.v s6), (178, .tuple #[.int .i64 r_26, .int .i64 r_27]), (176, .tuple #[.int .i64 r_26, .int .i64 r_27]), (179, .int .i64 r_26), (180, .int .i64 r_27), (23, .int .i64 r_26), (24, .int .i64 r_27), (182, SV.v s5), (183, .tuple #[.bool r_28, .int .i64 r_29]), (181, .tuple #[.bool r_28, .int .i64 r_29]), (184, .bool r_28), (185, .int .i64 r_29), (25, .bool r_28), (26, .int .i64 r_29), (187, SV.v s6), (188, .tuple #[.bool r_30, .int .i64 r_31]), (186, .tuple #[.bool r_30, .int .i64 r_31]), (189, .bool r_30), (190, .int .i64 r_31), (27, .bool r_30), (28, .int .i64 r_31), (192, SV.v s5), (193, .tuple #[.int .i64 r_32, .int .i64 r_33]), (191, .tuple #[.int .i64 r_32, .int .i64 r_33]), (194, .int .i64 r_32), (195, .int .i64 r_33), (29, .int .i64 r_32), (30, .int .i64 r_33), (197, SV.v s6), (198, .tuple #[.int .i64 r_34, .int .i64 r_35]), (196, .tuple #[.int .i64 r_34, .int .i64 r_35]), (199, .int .i64 r_34), (200, .int .i64 r_35), (31, .int .i64 r_34), (32, .int .i64 r_35), (201, .int .i64 r_25), (202, .bool (r_25 != 0)), (203, .bool (r_25 != 0)), (206, .bool ((r_25 != 0) || (r_27 != 0))), (207, .bool ((r_25 != 0) || (r_27 != 0)))] [mat Ei 2 22 s7 ss6 r_21, mat Ei 2 22 s6 ss5 r_19, mat Ei 2 22 s5 ss4 r_17] ?_ ?_
           ·refine TL.cases (t := 207) (b := ((r_25 != 0) || (r_27 != 0))) rfl (fun c29 => ?_) (fun c30 => ?_)
            ·refine TL.skip rfl rfl (by decide) ?_
             refine TL.skip rfl rfl (by decide) ?_
             refine TL.pick rfl rfl (b := true) rfl (r := .bool true) rfl ?_
             refine TL.done ?_
             exact TC.nrm () () ⟨(by rw [c29]; rfl), rfl, rfl, rfl, rfl, rfl, rfl, rfl, rfl, rfl, rfl, rfl, rfl, rfl, rfl, rfl, rfl, rfl, rfl, rfl, rfl, rfl, rfl, rfl, rfl, rfl, rfl, rfl, rfl, rfl, rfl, rfl, rfl, rfl, rfl, rfl, rfl, rfl, rfl, rfl, rfl, rfl, rfl, rfl, rfl, rfl, rfl, rfl, rfl, rfl, rfl, rfl, rfl, rfl, rfl, rfl, rfl, rfl, rfl, rfl, rfl, rfl, rfl, rfl, rfl, rfl, rfl, rfl, rfl, rfl, rfl, rfl, rfl, rfl, rfl, rfl, rfl, rfl, (by rw [c29]; rfl), trivial⟩ [0, 0, 0] (by kernel_rfl)
            ·refine TL.move rfl rfl (v := .int .i64 r_29) rfl ?_
             refine TL.bin .i64 r_29 0 rfl rfl rfl rfl (v := .bool (r_29 != 0)) rfl ?_
             refine TL.pick rfl rfl (b := false) rfl (r := .bool (r_29 != 0)) rfl ?_
             refine TL.done ?_
             exact TC.nrm () () ⟨(by rw [c30]; rfl), rfl, rfl, rfl, rfl, rfl, rfl, rfl, rfl, rfl, rfl, rfl, rfl, rfl, rfl, rfl, rfl, rfl, rfl, rfl, rfl, rfl, rfl, rfl, rfl, rfl, rfl, rfl, rfl, rfl, rfl, rfl, rfl, rfl, rfl, rfl, rfl, rfl, rfl, rfl, rfl, rfl, rfl, rfl, rfl, rfl, rfl, rfl, rfl, rfl, rfl, rfl, rfl, rfl, rfl, rfl, rfl, rfl, rfl, rfl, rfl, rfl, rfl, rfl, rfl, rfl, rfl, rfl, rfl, rfl, rfl, rfl, rfl, rfl, rfl, rfl, rfl, rfl, (by rw [c30]; rfl), trivial⟩ [0, 0, 0] (by kernel_rfl)
           ·refine TL.move rfl rfl (v := .bool (((r_25 != 0) || (r_27 != 0)) || (r_29 != 0))) rfl ?_
            refine TL.cutU 3 [(214, .bool ((((r_25 != 0) || (r_27 != 0)) || (r_29 != 0)) || (r_31 != 0))), (0, SV.v s1), (144, SV.v s1), (145, .tuple #[SV.v s5, .int .i64 r_18]), (143, .tuple #[SV.v s5, .int .i64 r_18]), (146, SV.v s5), (147, .int .i64 r_18), (15, SV.v s5), (16, .int .i64 r_18), (149, SV.v s5), (150, .int .i64 r_18), (151, .tuple #[SV.v s6, .int .i64 r_20]), (148, .tuple #[SV.v s6, .int .i64 r_20]), (152, SV.v s6), (153, .int .i64 r_20), (17, SV.v s6), (18, .int .i64 r_20), (155, SV.v s5), (156, .int .i64 r_18), (157, .tuple #[SV.v s7, .int .i64 r_22]), (154, .tuple #[SV.v s7, .int .i64 r_22]), (158, SV.v s7), (159, .int .i64 r_22), (19, SV.v s7), (20, .int .i64 r_22), (160, .int .i64 r_20), (161, .int .i64 r_22), (162, .bool (r_20 != r_22)), (163, .bool (r_20 != r_22)), (168, .bool b_3), (169, .int .i64 r_20), (170, .bool (r_20 == 0)), (172, SV.v s5), (173, .tuple #[.int .i64 r_24, .int .i64 r_25]), (171, .tuple #[.int .i64 r_24, .int .i64 r_25]), (174, .int .i64 r_24), (175, .int .i64 r_25), (21, .int .i64 r_24), (22, .int .i64 r_25), (177, SV.v s6), (178, .tuple #[.int .i64 r_26, .int .i64 r_27]), (176, .tuple #[.int .i64 r_26, .int .i64 r_27]), (179, .int .i64 r_26), (180, .int .i64 r_27), (23, .int .i64 r_26), (24, .int .i64 r_27), (182, SV.v s5), (183, .tuple #[.bool r_28, .int .i64 r_29]), (181, .tuple #[.bool r_28, .int .i64 r_29]), (184, .bool r_28), (185, .int .i64 r_29), (25, .bool r_28), (26, .int .i64 r_29), (187, SV.v s6), (188, .tuple #[.bool r_30, .int .i64 r_31]), (186, .tuple #[.bool r_30, .int .i64 r_31]), (189, .bool r_30), (190, .int .i64 r_31), (27, .bool r_30), (28, .int .i64 r_31), (192, SV.v s5), (193, .tuple #[.int .i64 r_32, .int .i64 r_33]), (191, .tuple #[.int .i64 r_32, .int .i64 r_33]), (194, .int .i64 r_32), (195, .int .i64 r_33), (29, .int .i64 r_32), (30, .int .i64 r_33), (197, SV.v s6), (198, .tuple #[.int .i64 r_34, .int .i64 r_35]), (196, .tuple #[.int .i64 r_34, .int .i64 r_35]), (199, .int .i64 r_34), (200, .int .i64 r_35), (31, .int .i64 r_34), (32, .int .i64 r_35), (201, .int .i64 r_25), (202, .bool (r_25 != 0)), (203, .bool (r_25 != 0)), (206, .bool ((r_25 != 0) || (r_27 != 0))), (207, .bool ((r_25 != 0) || (r_27 != 0))), (210, .bool (((r_25 != 0) || (r_27 != 0)) || (r_29 != 0))), (211, .bool (((r_25 != 0) || (r_27 != 0)) || (r_29 != 0)))] [mat Ei 2 22 s7 ss6 r_21, mat Ei 2 22 s6 ss5 r_19, mat Ei 2 22 s5 ss4 r_17] ?_ ?_
            ·refine TL.cases (t := 211) (b := (((r_25 != 0) || (r_27 != 0)) || (r_29 != 0))) rfl (fun c31 => ?_) (fun c32 => ?_)
             ·refine TL.skip rfl rfl (by decide) ?_
              refine TL.skip rfl rfl (by decide) ?_
              refine TL.pick rfl rfl (b := true) rfl (r := .bool true) rfl ?_
              refine TL.done ?_
              exact TC.nrm () () ⟨(by rw [c31]; rfl), rfl, rfl, rfl, rfl, rfl, rfl, rfl, rfl, rfl, rfl, rfl, rfl, rfl, rfl, rfl, rfl, rfl, rfl, rfl, rfl, rfl, rfl, rfl, rfl, rfl, rfl, rfl, rfl, rfl, rfl, rfl, rfl, rfl, rfl, rfl, rfl, rfl, rfl, rfl, rfl, rfl, rfl, rfl, rfl, rfl, rfl, rfl, rfl, rfl, rfl, rfl, rfl, rfl, rfl, rfl, rfl, rfl, rfl, rfl, rfl, rfl, rfl, rfl, rfl, rfl, rfl, rfl, rfl, rfl, rfl, rfl, rfl, rfl, rfl, rfl, rfl, rfl, rfl, rfl, (by rw [c31]; rfl), trivial⟩ [0, 0, 0] (by kernel_rfl)
             ·refine TL.move rfl rfl (v := .int .i64 r_31) rfl ?_
              refine TL.bin .i64 r_31 0 rfl rfl rfl rfl (v := .bool (r_31 != 0)) rfl ?_
              refine TL.pick rfl rfl (b := false) rfl (r := .bool (r_31 != 0)) rfl ?_
              refine TL.done ?_
              exact TC.nrm () () ⟨(by rw [c32]; rfl), rfl, rfl, rfl, rfl, rfl, rfl, rfl, rfl, rfl, rfl, rfl, rfl, rfl, rfl, rfl, rfl, rfl, rfl, rfl, rfl, rfl, rfl, rfl, rfl, rfl, rfl, rfl, rfl, rfl, rfl, rfl, rfl, rfl, rfl, rfl, rfl, rfl, rfl, rfl, rfl, rfl, rfl, rfl, rfl, rfl, rfl, rfl, rfl, rfl, rfl, rfl, rfl, rfl, rfl, rfl, rfl, rfl, rfl, rfl, rfl, rfl, rfl, rfl, rfl, rfl, rfl, rfl, rfl, rfl, rfl, rfl, rfl, rfl, rfl, rfl, rfl, rfl, rfl, rfl, (by rw [c32]; rfl), trivial⟩ [0, 0, 0] (by kernel_rfl)
            ·refine TL.move rfl rfl (v := .bool ((((r_25 != 0) || (r_27 != 0)) || (r_29 != 0)) || (r_31 != 0))) rfl ?_
             refine TL.cutU 3 [(218, .bool (((((r_25 != 0) || (r_27 != 0)) || (r_29 != 0)) || (r_31 != 0)) || (r_33 != 0))), (0, SV.v s1), (144, SV.v s1), (145, .tuple #[SV.v s5, .int .i64 r_18]), (143, .tuple #[SV.v s5, .int .i64 r_18]), (146, SV.v s5), (147, .int .i64 r_18), (15, SV.v s5), (16, .int .i64 r_18), (149, SV.v s5), (150, .int .i64 r_18), (151, .tuple #[SV.v s6, .int .i64 r_20]), (148, .tuple #[SV.v s6, .int .i64 r_20]), (152, SV.v s6), (153, .int .i64 r_20), (17, SV.v s6), (18, .int .i64 r_20), (155, SV.v s5), (156, .int .i64 r_18), (157, .tuple #[SV.v s7, .int .i64 r_22]), (154, .tuple #[SV.v s7, .int .i64 r_22]), (158, SV.v s7), (159, .int .i64 r_22), (19, SV.v s7), (20, .int .i64 r_22), (160, .int .i64 r_20), (161, .int .i64 r_22), (162, .bool (r_20 != r_22)), (163, .bool (r_20 != r_22)), (168, .bool b_3), (169, .int .i64 r_20), (170, .bool (r_20 == 0)), (172, SV.v s5), (173, .tuple #[.int .i64 r_24, .int .i64 r_25]), (171, .tuple #[.int .i64 r_24, .int .i64 r_25]), (174, .int .i64 r_24), (175, .int .i64 r_25), (21, .int .i64 r_24), (22, .int .i64 r_25), (177, SV.v s6), (178, .tuple #[.int .i64 r_26, .int .i64 r_27]), (176, .tuple #[.int .i64 r_26, .int .i64 r_27]), (179, .int .i64 r_26), (180, .int .i64 r_27), (23, .int .i64 r_26), (24, .int .i64 r_27), (182, SV.v s5), (183, .tuple #[.bool r_28, .int .i64 r_29]), (181, .tuple #[.bool r_28, .int .i64 r_29]), (184, .bool r_28), (185, .int .i64 r_29), (25, .bool r_28), (26, .int .i64 r_29), (187, SV.v s6), (188, .tuple #[.bool r_30, .int .i64 r_31]), (186, .tuple #[.bool r_30, .int .i64 r_31]), (189, .bool r_30), (190, .int .i64 r_31), (27, .bool r_30), (28, .int .i64 r_31), (192, SV.v s5), (193, .tuple #[.int .i64 r_32, .int .i64 r_33]), (191, .tuple #[.int .i64 r_32, .int .i64 r_33]), (194, .int .i64 r_32), (195, .int .i64 r_33), (29, .int .i64 r_32), (30, .int .i64 r_33), (197, SV.v s6), (198, .tuple #[.int .i64 r_34, .int .i64 r_35]), (196, .tuple #[.int .i64 r_34, .int .i64 r_35]), (199, .int .i64 r_34), (200, .int .i64 r_35), (31, .int .i64 r_34), (32, .int .i64 r_35), (201, .int .i64 r_25), (202, .bool (r_25 != 0)), (203, .bool (r_25 != 0)), (206, .bool ((r_25 != 0) || (r_27 != 0))), (207, .bool ((r_25 != 0) || (r_27 != 0))), (210, .bool (((r_25 != 0) || (r_27 != 0)) || (r_29 != 0))), (211, .bool (((r_25 != 0) || (r_27 != 0)) || (r_29 != 0))), (214, .bool ((((r_25 != 0) || (r_27 != 0)) || (r_29 != 0)) || (r_31 != 0))), (215, .bool ((((r_25 != 0) || (r_27 != 0)) || (r_29 != 0)) || (r_31 != 0)))] [mat Ei 2 22 s7 ss6 r_21, mat Ei 2 22 s6 ss5 r_19, mat Ei 2 22 s5 ss4 r_17] ?_ ?_
             ·refine TL.cases (t := 215) (b := ((((r_25 != 0) || (r_27 != 0)) || (r_29 != 0)) || (r_31 != 0))) rfl (fun c33 => ?_) (fun c34 => ?_)
              ·refine TL.skip rfl rfl (by decide) ?_
               refine TL.skip rfl rfl (by decide) ?_
               refine TL.pick rfl rfl (b := true) rfl (r := .bool true) rfl ?_
               refine TL.done ?_
               exact TC.nrm () () ⟨(by rw [c33]; rfl), rfl, rfl, rfl, rfl, rfl, rfl, rfl, rfl, rfl, rfl, rfl, rfl, rfl, rfl, rfl, rfl, rfl, rfl, rfl, rfl, rfl, rfl, rfl, rfl, rfl, rfl, rfl, rfl, rfl, rfl, rfl, rfl, rfl, rfl, rfl, rfl, rfl, rfl, rfl, rfl, rfl, rfl, rfl, rfl, rfl, rfl, rfl, rfl, rfl, rfl, rfl, rfl, rfl, rfl, rfl, rfl, rfl, rfl, rfl, rfl, rfl, rfl, rfl, rfl, rfl, rfl, rfl, rfl, rfl, rfl, rfl, rfl, rfl, rfl, rfl, rfl, rfl, rfl, rfl, rfl, rfl, (by rw [c33]; rfl), trivial⟩ [0, 0, 0] (by kernel_rfl)
              ·refine TL.move rfl rfl (v := .int .i64 r_33) rfl ?_
               refine TL.bin .i64 r_33 0 rfl rfl rfl rfl (v := .bool (r_33 != 0)) rfl ?_
               refine TL.pick rfl rfl (b := false) rfl (r := .bool (r_33 != 0)) rfl ?_
               refine TL.done ?_
               exact TC.nrm () () ⟨(by rw [c34]; rfl), rfl, rfl, rfl, rfl, rfl, rfl, rfl, rfl, rfl, rfl, rfl, rfl, rfl, rfl, rfl, rfl, rfl, rfl, rfl, rfl, rfl, rfl, rfl, rfl, rfl, rfl, rfl, rfl, rfl, rfl, rfl, rfl, rfl, rfl, rfl, rfl, rfl, rfl, rfl, rfl, rfl, rfl, rfl, rfl, rfl, rfl, rfl, rfl, rfl, rfl, rfl, rfl, rfl, rfl, rfl, rfl, rfl, rfl, rfl, rfl, rfl, rfl, rfl, rfl, rfl, rfl, rfl, rfl, rfl, rfl, rfl, rfl, rfl, rfl, rfl, rfl, rfl, rfl, rfl, rfl, rfl, (by rw [c34]; rfl), trivial⟩ [0, 0, 0] (by kernel_rfl)
             ·refine TL.move rfl rfl (v := .bool (((((r_25 != 0) || (r_27 != 0)) || (r_29 != 0)) || (r_31 != 0)) || (r_33 != 0))) rfl ?_
              refine TL.cutU 3 [(222, .bool ((((((r_25 != 0) || (r_27 != 0)) || (r_29 != 0)) || (r_31 != 0)) || (r_33 != 0)) || (r_35 != 0))), (0, SV.v s1), (144, SV.v s1), (145, .tuple #[SV.v s5, .int .i64 r_18]), (143, .tuple #[SV.v s5, .int .i64 r_18]), (146, SV.v s5), (147, .int .i64 r_18), (15, SV.v s5), (16, .int .i64 r_18), (149, SV.v s5), (150, .int .i64 r_18), (151, .tuple #[SV.v s6, .int .i64 r_20]), (148, .tuple #[SV.v s6, .int .i64 r_20]), (152, SV.v s6), (153, .int .i64 r_20), (17, SV.v s6), (18, .int .i64 r_20), (155, SV.v s5), (156, .int .i64 r_18), (157, .tuple #[SV.v s7, .int .i64 r_22]), (154, .tuple #[SV.v s7, .int .i64 r_22]), (158, SV.v s7), (159, .int .i64 r_22), (19, SV.v s7), (20, .int .i64 r_22), (160, .int .i64 r_20), (161, .int .i64 r_22), (162, .bool (r_20 != r_22)), (163, .bool (r_20 != r_22)), (168, .bool b_3), (169, .int .i64 r_20), (170, .bool (r_20 == 0)), (172, SV.v s5), (173, .tuple #[.int .i64 r_24, .int .i64 r_25]), (171, .tuple #[.int .i64 r_24, .int .i64 r_25]), (174, .int .i64 r_24), (175, .int .i64 r_25), (21, .int .i64 r_24), (22, .int .i64 r_25), (177, SV.v s6), (178, .tuple #[.int .i64 r_26, .int .i64 r_27]), (176, .tuple #[.int .i64 r_26, .int .i64 r_27]), (179, .int .i64 r_26), (180, .int .i64 r_27), (23, .int .i64 r_26), (24, .int .i64 r_27), (182, SV.v s5), (183, .tuple #[.bool r_28, .int .i64 r_29]), (181, .tuple #[.bool r_28, .int .i64 r_29]), (184, .bool r_28), (185, .int .i64 r_29), (25, .bool r_28), (26, .int .i64 r_29), (187, SV.v s6), (188, .tuple #[.bool r_30, .int .i64 r_31]), (186, .tuple #[.bool r_30, .int .i64 r_31]), (189, .bool r_30), (190, .int .i64 r_31), (27, .bool r_30), (28, .int .i64 r_31), (192, SV.v s5), (193, .tuple #[.int .i64 r_32, .int .i64 r_33]), (191, .tuple #[.int .i64 r_32, .int .i64 r_33]), (194, .int .i64 r_32), (195, .int .i64 r_33), (29, .int .i64 r_32), (30, .int .i64 r_33), (197, SV.v s6), (198, .tuple #[.int .i64 r_34, .int .i64 r_35]), (196, .tuple #[.int .i64 r_34, .int .i64 r_35]), (199, .int .i64 r_34), (200, .int .i64 r_35), (31, .int .i64 r_34), (32, .int .i64 r_35), (201, .int .i64 r_25), (202, .bool (r_25 != 0)), (203, .bool (r_25 != 0)), (206, .bool ((r_25 != 0) || (r_27 != 0))), (207, .bool ((r_25 != 0) || (r_27 != 0))), (210, .bool (((r_25 != 0) || (r_27 != 0)) || (r_29 != 0))), (211, .bool (((r_25 != 0) || (r_27 != 0)) || (r_29 != 0))), (214, .bool ((((r_25 != 0) || (r_27 != 0)) || (r_29 != 0)) || (r_31 != 0))), (215, .bool ((((r_25 != 0) || (r_27 != 0)) || (r_29 != 0)) || (r_31 != 0))), (218, .bool (((((r_25 != 0) || (r_27 != 0)) || (r_29 != 0)) || (r_31 != 0)) || (r_33 != 0))), (219, .bool (((((r_25 != 0) || (r_27 != 0)) || (r_29 != 0)) || (r_31 != 0)) || (r_33 != 0)))] [mat Ei 2 22 s7 ss6 r_21, mat Ei 2 22 s6 ss5 r_19, mat Ei 2 22 s5 ss4 r_17] ?_ ?_
              ·refine TL.cases (t := 219) (b := (((((r_25 != 0) || (r_27 != 0)) || (r_29 != 0)) || (r_31 != 0)) || (r_33 != 0))) rfl (fun c35 => ?_) (fun c36 => ?_)
               ·refine TL.skip rfl rfl (by decide) ?_
                refine TL.skip rfl rfl (by decide) ?_
                refine TL.pick rfl rfl (b := true) rfl (r := .bool true) rfl ?_
                refine TL.done ?_
                exact TC.nrm () () ⟨(by rw [c35]; rfl), rfl, rfl, rfl, rfl, rfl, rfl, rfl, rfl, rfl, rfl, rfl, rfl, rfl, rfl, rfl, rfl, rfl, rfl, rfl, rfl, rfl, rfl, rfl, rfl, rfl, rfl, rfl, rfl, rfl, rfl, rfl, rfl, rfl, rfl, rfl, rfl, rfl, rfl, rfl, rfl, rfl, rfl, rfl, rfl, rfl, rfl, rfl, rfl, rfl, rfl, rfl, rfl, rfl, rfl, rfl, rfl, rfl, rfl, rfl, rfl, rfl, rfl, rfl, rfl, rfl, rfl, rfl, rfl, rfl, rfl, rfl, rfl, rfl, rfl, rfl, rfl, rfl, rfl, rfl, rfl, rfl, rfl, rfl, (by rw [c35]; rfl), trivial⟩ [0, 0, 0] (by kernel_rfl)
               ·refine TL.move rfl rfl (v := .int .i64 r_35) rfl ?_
                refine TL.bin .i64 r_35 0 rfl rfl rfl rfl (v := .bool (r_35 != 0)) rfl ?_
                refine TL.pick rfl rfl (b := false) rfl (r := .bool (r_35 != 0)) rfl ?_
                refine TL.done ?_
                exact TC.nrm () () ⟨(by rw [c36]; rfl), rfl, rfl, rfl, rfl, rfl, rfl, rfl, rfl, rfl, rfl, rfl, rfl, rfl, rfl, rfl, rfl, rfl, rfl, rfl, rfl, rfl, rfl, rfl, rfl, rfl, rfl, rfl, rfl, rfl, rfl, rfl, rfl, rfl, rfl, rfl, rfl, rfl, rfl, rfl, rfl, rfl, rfl, rfl, rfl, rfl, rfl, rfl, rfl, rfl, rfl, rfl, rfl, rfl, rfl, rfl, rfl, rfl, rfl, rfl, rfl, rfl, rfl, rfl, rfl, rfl, rfl, rfl, rfl, rfl, rfl, rfl, rfl, rfl, rfl, rfl, rfl, rfl, rfl, rfl, rfl, rfl, rfl, rfl, (by rw [c36]; rfl), trivial⟩ [0, 0, 0] (by kernel_rfl)
              ·refine TL.move rfl rfl (v := .bool ((((((r_25 != 0) || (r_27 != 0)) || (r_29 != 0)) || (r_31 != 0)) || (r_33 != 0)) || (r_35 != 0))) rfl ?_
               refine TL.cutU 4 [(227, .bool (((((((r_25 != 0) || (r_27 != 0)) || (r_29 != 0)) || (r_31 != 0)) || (r_33 != 0)) || (r_35 != 0)) || (r_24 != r_26))), (0, SV.v s1), (144, SV.v s1), (145, .tuple #[SV.v s5, .int .i64 r_18]), (143, .tuple #[SV.v s5, .int .i64 r_18]), (146, SV.v s5), (147, .int .i64 r_18), (15, SV.v s5), (16, .int .i64 r_18), (149, SV.v s5), (150, .int .i64 r_18), (151, .tuple #[SV.v s6, .int .i64 r_20]), (148, .tuple #[SV.v s6, .int .i64 r_20]), (152, SV.v s6), (153, .int .i64 r_20), (17, SV.v s6), (18, .int .i64 r_20), (155, SV.v s5), (156, .int .i64 r_18), (157, .tuple #[SV.v s7, .int .i64 r_22]), (154, .tuple #[SV.v s7, .int .i64 r_22]), (158, SV.v s7), (159, .int .i64 r_22), (19, SV.v s7), (20, .int .i64 r_22), (160, .int .i64 r_20), (161, .int .i64 r_22), (162, .bool (r_20 != r_22)), (163, .bool (r_20 != r_22)), (168, .bool b_3), (169, .int .i64 r_20), (170, .bool (r_20 == 0)), (172, SV.v s5), (173, .tuple #[.int .i64 r_24, .int .i64 r_25]), (171, .tuple #[.int .i64 r_24, .int .i64 r_25]), (174, .int .i64 r_24), (175, .int .i64 r_25), (21, .int .i64 r_24), (22, .int .i64 r_25), (177, SV.v s6), (178, .tuple #[.int .i64 r_26, .int .i64 r_27]), (176, .tuple #[.int .i64 r_26, .int .i64 r_27]), (179, .int .i64 r_26), (180, .int .i64 r_27), (23, .int .i64 r_26), (24, .int .i64 r_27), (182, SV.v s5), (183, .tuple #[.bool r_28, .int .i64 r_29]), (181, .tuple #[.bool r_28, .int .i64 r_29]), (184, .bool r_28), (185, .int .i64 r_29), (25, .bool r_28), (26, .int .i64 r_29), (187, SV.v s6), (188, .tuple #[.bool r_30, .int .i64 r_31]), (186, .tuple #[.bool r_30, .int .i64 r_31]), (189, .bool r_30), (190, .int .i64 r_31), (27, .bool r_30), (28, .int .i64 r_31), (192, SV.v s5), (193, .tuple #[.int .i64 r_32, .int .i64 r_33]), (191, .tuple #[.int .i64 r_32, .int .i64 r_33]), (194, .int .i64 r_32), (195, .int .i64 r_33), (29, .int .i64 r_32), (30, .int .i64 r_33), (197, SV.v s6), (198, .tuple #[.int .i64 r_34, .int .i64 r_35]), (196, .tuple #[.int .i64 r_34, .int .i64 r_35]), (199, .int .i64 r_34), (200, .int .i64 r_35), (31, .int .i64 r_34), (32, .int .i64 r_35), (201, .int .i64 r_25), (202, .bool (r_25 != 0)), (203, .bool (r_25 != 0)), (206, .bool ((r_25 != 0) || (r_27 != 0))), (207, .bool ((r_25 != 0) || (r_27 != 0))), (210, .bool (((r_25 != 0) || (r_27 != 0)) || (r_29 != 0))), (211, .bool (((r_25 != 0) || (r_27 != 0)) || (r_29 != 0))), (214, .bool ((((r_25 != 0) || (r_27 != 0)) || (r_29 != 0)) || (r_31 != 0))), (215, .bool ((((r_25 != 0) || (r_27 != 0)) || (r_29 != 0)) || (r_31 != 0))), (218, .bool (((((r_25 != 0) || (r_27 != 0)) || (r_29 != 0)) || (r_31 != 0)) || (r_33 != 0))), (219, .bool (((((r_25 != 0) || (r_27 != 0)) || (r_29 != 0)) || (r_31 != 0)) || (r_33 != 0))), (222, .bool ((((((r_25 != 0) || (r_27 != 0)) || (r_29 != 0)) || (r_31 != 0)) || (r_33 != 0)) || (r_35 != 0))), (223, .bool ((((((r_25 != 0) || (r_27 != 0)) || (r_29 != 0)) || (r_31 != 0)) || (r_33 != 0)) || (r_35 != 0)))] [mat Ei 2 22 s7 ss6 r_21, mat Ei 2 22 s6 ss5 r_19, mat Ei 2 22 s5 ss4 r_17] ?_ ?_
               ·refine TL.cases (t := 223) (b := ((((((r_25 != 0) || (r_27 != 0)) || (r_29 != 0)) || (r_31 != 0)) || (r_33 != 0)) || (r_35 != 0))) rfl (fun c37 => ?_) (fun c38 => ?_)
                ·refine TL.skip rfl rfl (by decide) ?_
                 refine TL.skip rfl rfl (by decide) ?_
                 refine TL.skip rfl rfl (by decide) ?_
                 refine TL.pick rfl rfl (b := true) rfl (r := .bool true) rfl ?_
                 refine TL.done ?_
                 exact TC.nrm () () ⟨(by rw [c37]; rfl), rfl, rfl, rfl, rfl, rfl, rfl, rfl, rfl, rfl, rfl, rfl, rfl, rfl, rfl, rfl, rfl, rfl, rfl, rfl, rfl, rfl, rfl, rfl, rfl, rfl, rfl, rfl, rfl, rfl, rfl, rfl, rfl, rfl, rfl, rfl, rfl, rfl, rfl, rfl, rfl, rfl, rfl, rfl, rfl, rfl, rfl, rfl, rfl, rfl, rfl, rfl, rfl, rfl, rfl, rfl, rfl, rfl, rfl, rfl, rfl, rfl, rfl, rfl, rfl, rfl, rfl, rfl, rfl, rfl, rfl, rfl, rfl, rfl, rfl, rfl, rfl, rfl, rfl, rfl, rfl, rfl, rfl, rfl, rfl, rfl, (by rw [c37]; rfl), trivial⟩ [0, 0, 0] (by kernel_rfl)
                ·refine TL.move rfl rfl (v := .int .i64 r_24) rfl ?_
                 refine TL.move rfl rfl (v := .int .i64 r_26) rfl ?_
                 refine TL.bin .i64 r_24 r_26 rfl rfl rfl rfl (v := .bool (r_24 != r_26)) rfl ?_
                 refine TL.pick rfl rfl (b := false) rfl (r := .bool (r_24 != r_26)) rfl ?_
                 refine TL.done ?_
                 exact TC.nrm () () ⟨(by rw [c38]; rfl), rfl, rfl, rfl, rfl, rfl, rfl, rfl, rfl, rfl, rfl, rfl, rfl, rfl, rfl, rfl, rfl, rfl, rfl, rfl, rfl, rfl, rfl, rfl, rfl, rfl, rfl, rfl, rfl, rfl, rfl, rfl, rfl, rfl, rfl, rfl, rfl, rfl, rfl, rfl, rfl, rfl, rfl, rfl, rfl, rfl, rfl, rfl, rfl, rfl, rfl, rfl, rfl, rfl, rfl, rfl, rfl, rfl, rfl, rfl, rfl, rfl, rfl, rfl, rfl, rfl, rfl, rfl, rfl, rfl, rfl, rfl, rfl, rfl, rfl, rfl, rfl, rfl, rfl, rfl, rfl, rfl, rfl, rfl, rfl, rfl, (by rw [c38]; rfl), trivial⟩ [0, 0, 0] (by kernel_rfl)
               ·refine TL.move rfl rfl (v := .bool (((((((r_25 != 0) || (r_27 != 0)) || (r_29 != 0)) || (r_31 != 0)) || (r_33 != 0)) || (r_35 != 0)) || (r_24 != r_26))) rfl ?_
                refine TL.cutU 4 [(232, .bool ((((((((r_25 != 0) || (r_27 != 0)) || (r_29 != 0)) || (r_31 != 0)) || (r_33 != 0)) || (r_35 != 0)) || (r_24 != r_26)) || (r_28 != r_30))), (0, SV.v s1), (144, SV.v s1), (145, .tuple #[SV.v s5, .int .i64 r_18]), (143, .tuple #[SV.v s5, .int .i64 r_18]), (146, SV.v s5), (147, .int .i64 r_18), (15, SV.v s5), (16, .int .i64 r_18), (149, SV.v s5), (150, .int .i64 r_18), (151, .tuple #[SV.v s6, .int .i64 r_20]), (148, .tuple #[SV.v s6, .int .i64 r_20]), (152, SV.v s6), (153, .int .i64 r_20), (17, SV.v s6), (18, .int .i64 r_20), (155, SV.v s5), (156, .int .i64 r_18), (157, .tuple #[SV.v s7, .int .i64 r_22]), (154, .tuple #[SV.v s7, .int .i64 r_22]), (158, SV.v s7), (159, .int .i64 r_22), (19, SV.v s7), (20, .int .i64 r_22), (160, .int .i64 r_20), (161, .int .i64 r_22), (162, .bool (r_20 != r_22)), (163, .bool (r_20 != r_22)), (168, .bool b_3), (169, .int .i64 r_20), (170, .bool (r_20 == 0)), (172, SV.v s5), (173, .tuple #[.int .i64 r_24, .int .i64 r_25]), (171, .tuple #[.int .i64 r_24, .int .i64 r_25]), (174, .int .i64 r_24), (175, .int .i64 r_25), (21, .int .i64 r_24), (22, .int .i64 r_25), (177, SV.v s6), (178, .tuple #[.int .i64 r_26, .int .i64 r_27]), (176, .tuple #[.int .i64 r_26, .int .i64 r_27]), (179, .int .i64 r_26), (180, .int .i64 r_27), (23, .int .i64 r_26), (24, .int .i64 r_27), (182, SV.v s5), (183, .tuple #[.bool r_28, .int .i64 r_29]), (181, .tuple #[.bool r_28, .int .i64 r_29]), (184, .bool r_28), (185, .int .i64 r_29), (25, .bool r_28), (26, .int .i64 r_29), (187, SV.v s6), (188, .tuple #[.bool r_30, .int .i64 r_31]), (186, .tuple #[.bool r_30, .int .i64 r_31]), (189, .bool r_30), (190, .int .i64 r_31), (27, .bool r_30), (28, .int .i64 r_31), (192, SV.v s5), (193, .tuple #[.int .i64 r_32, .int .i64 r_33]), (191, .tuple #[.int .i64 r_32, .int .i64 r_33]), (194, .int .i64 r_32), (195, .int .i64 r_33), (29, .int .i64 r_32), (30, .int .i64 r_33), (197, SV.v s6), (198, .tuple #[.int .i64 r_34, .int .i64 r_35]), (196, .tuple #[.int .i64 r_34, .int .i64 r_35]), (199, .int .i64 r_34), (200, .int .i64 r_35), (31, .int .i64 r_34), (32, .int .i64 r_35), (201, .int .i64 r_25), (202, .bool (r_25 != 0)), (203, .bool (r_25 != 0)), (206, .bool ((r_25 != 0) || (r_27 != 0))), (207, .bool ((r_25 != 0) || (r_27 != 0))), (210, .bool (((r_25 != 0) || (r_27 != 0)) || (r_29 != 0))), (211, .bool (((r_25 != 0) || (r_27 != 0)) || (r_29 != 0))), (214, .bool ((((r_25 != 0) || (r_27 != 0)) || (r_29 != 0)) || (r_31 != 0))), (215, .bool ((((r_25 != 0) || (r_27 != 0)) || (r_29 != 0)) || (r_31 != 0))), (218, .bool (((((r_25 != 0) || (r_27 != 0)) || (r_29 != 0)) || (r_31 != 0)) || (r_33 != 0))), (219, .bool (((((r_25 != 0) || (r_27 != 0)) || (r_29 != 0)) || (r_31 != 0)) || (r_33 != 0))), (222, .bool ((((((r_25 != 0) || (r_27 != 0)) || (r_29 != 0)) || (r_31 != 0)) || (r_33 != 0)) || (r_35 != 0))), (223, .bool ((((((r_25 != 0) || (r_27 != 0)) || (r_29 != 0)) || (r_31 != 0)) || (r_33 != 0)) || (r_35 != 0))), (227, .bool (((((((r_25 != 0) || (r_27 != 0)) || (r_29 != 0)) || (r_31 != 0)) || (r_33 != 0)) || (r_35 != 0)) || (r_24 != r_26))), (228, .bool (((((((r_25 != 0) || (r_27 != 0)) || (r_29 != 0)) || (r_31 != 0)) || (r_33 != 0)) || (r_35 != 0)) || (r_24 != r_26)))] [mat Ei 2 22 s7 ss6 r_21, mat Ei 2 22 s6 ss5 r_19, mat Ei 2 22 s5 ss4 r_17] ?_ ?_
                ·refine TL.cases (t := 228) (b := (((((((r_25 != 0) || (r_27 != 0)) || (r_29 != 0)) || (r_31 != 0)) || (r_33 != 0)) || (r_35 != 0)) || (r_24 != r_26))) rfl (fun c39 => ?_) (fun c40 => ?_)
                 ·refine TL.skip rfl rfl (by decide) ?_
                  refine TL.skip rfl rfl (by decide) ?_
                  refine TL.skip rfl rfl (by decide) ?_
                  refine TL.pick rfl rfl (b := true) rfl (r := .bool true) rfl ?_
                  refine TL.done ?_
                  exact TC.nrm () () ⟨(by rw [c39]; rfl), rfl, rfl, rfl, rfl, rfl, rfl, rfl, rfl, rfl, rfl, rfl, rfl, rfl, rfl, rfl, rfl, rfl, rfl, rfl, rfl, rfl, rfl, rfl, rfl, rfl, rfl, rfl, rfl, rfl, rfl, rfl, rfl, rfl, rfl, rfl, rfl, rfl, rfl, rfl, rfl, rfl, rfl, rfl, rfl, rfl, rfl, rfl, rfl, rfl, rfl, rfl, rfl, rfl, rfl, rfl, rfl, rfl, rfl, rfl, rfl, rfl, rfl, rfl, rfl, rfl, rfl, rfl, rfl, rfl, rfl, rfl, rfl, rfl, rfl, rfl, rfl, rfl, rfl, rfl, rfl, rfl, rfl, rfl, rfl, rfl, rfl, rfl, (by rw [c39]; rfl), trivial⟩ [0, 0, 0] (by kernel_rfl)
                 ·refine TL.move rfl rfl (v := .bool r_28) rfl ?_
                  refine TL.move rfl rfl (v := .bool r_30) rfl ?_
                  refine TL.boolNe r_28 r_30 Try.underlying4 rfl rfl rfl rfl ?_
                  refine TL.pick rfl rfl (b := false) rfl (r := .bool (r_28 != r_30)) rfl ?_
                  refine TL.done ?_
                  exact TC.nrm () () ⟨(by rw [c40]; rfl), rfl, rfl, rfl, rfl, rfl, rfl, rfl, rfl, rfl, rfl, rfl, rfl, rfl, rfl, rfl, rfl, rfl, rfl, rfl, rfl, rfl, rfl, rfl, rfl, rfl, rfl, rfl, rfl, rfl, rfl, rfl, rfl, rfl, rfl, rfl, rfl, rfl, rfl, rfl, rfl, rfl, rfl, rfl, rfl, rfl, rfl, rfl, rfl, rfl, rfl, rfl, rfl, rfl, rfl, rfl, rfl, rfl, rfl, rfl, rfl, rfl, rfl, rfl, rfl, rfl, rfl, rfl, rfl, rfl, rfl, rfl, rfl, rfl, rfl, rfl, rfl, rfl, rfl, rfl, rfl, rfl, rfl, rfl, rfl, rfl, rfl, rfl, (by rw [c40]; rfl), trivial⟩ [0, 0, 0] (by kernel_rfl)
                ·refine TL.move rfl rfl (v := .bool ((((((((r_25 != 0) || (r_27 != 0)) || (r_29 != 0)) || (r_31 != 0)) || (r_33 != 0)) || (r_35 != 0)) || (r_24 != r_26)) || (r_28 != r_30))) rfl ?_
                 refine TL.cutU 5 [(238, .bool (((((((((r_25 != 0) || (r_27 != 0)) || (r_29 != 0)) || (r_31 != 0)) || (r_33 != 0)) || (r_35 != 0)) || (r_24 != r_26)) || (r_28 != r_30)) || ((w64 (r_32 + 1)) != r_34))), (0, SV.v s1), (144, SV.v s1), (145, .tuple #[SV.v s5, .int .i64 r_18]), (143, .tuple #[SV.v s5, .int .i64 r_18]), (146, SV.v s5), (147, .int .i64 r_18), (15, SV.v s5), (16, .int .i64 r_18), (149, SV.v s5), (150, .int .i64 r_18), (151, .tuple #[SV.v s6, .int .i64 r_20]), (148, .tuple #[SV.v s6, .int .i64 r_20]), (152, SV.v s6), (153, .int .i64 r_20), (17, SV.v s6), (18, .int .i64 r_20), (155, SV.v s5), (156, .int .i64 r_18), (157, .tuple #[SV.v s7, .int .i64 r_22]), (154, .tuple #[SV.v s7, .int .i64 r_22]), (158, SV.v s7), (159, .int .i64 r_22), (19, SV.v s7), (20, .int .i64 r_22), (160, .int .i64 r_20), (161, .int .i64 r_22), (162, .bool (r_20 != r_22)), (163, .bool (r_20 != r_22)), (168, .bool b_3), (169, .int .i64 r_20), (170, .bool (r_20 == 0)), (172, SV.v s5), (173, .tuple #[.int .i64 r_24, .int .i64 r_25]), (171, .tuple #[.int .i64 r_24, .int .i64 r_25]), (174, .int .i64 r_24), (175, .int .i64 r_25), (21, .int .i64 r_24), (22, .int .i64 r_25), (177, SV.v s6), (178, .tuple #[.int .i64 r_26, .int .i64 r_27]), (176, .tuple #[.int .i64 r_26, .int .i64 r_27]), (179, .int .i64 r_26), (180, .int .i64 r_27), (23, .int .i64 r_26), (24, .int .i64 r_27), (182, SV.v s5), (183, .tuple #[.bool r_28, .int .i64 r_29]), (181, .tuple #[.bool r_28, .int .i64 r_29]), (184, .bool r_28), (185, .int .i64 r_29), (25, .bool r_28), (26, .int .i64 r_29), (187, SV.v s6), (188, .tuple #[.bool r_30, .int .i64 r_31]), (186, .tuple #[.bool r_30, .int .i64 r_31]), (189, .bool r_30), (190, .int .i64 r_31), (27, .bool r_30), (28, .int .i64 r_31), (192, SV.v s5), (193, .tuple #[.int .i64 r_32, .int .i64 r_33]), (191, .tuple #[.int .i64 r_32, .int .i64 r_33]), (194, .int .i64 r_32), (195, .int .i64 r_33), (29, .int .i64 r_32), (30, .int .i64 r_33), (197, SV.v s6), (198, .tuple #[.int .i64 r_34, .int .i64 r_35]), (196, .tuple #[.int .i64 r_34, .int .i64 r_35]), (199, .int .i64 r_34), (200, .int .i64 r_35), (31, .int .i64 r_34), (32, .int .i64 r_35), (201, .int .i64 r_25), (202, .bool (r_25 != 0)), (203, .bool (r_25 != 0)), (206, .bool ((r_25 != 0) || (r_27 != 0))), (207, .bool ((r_25 != 0) || (r_27 != 0))), (210, .bool (((r_25 != 0) || (r_27 != 0)) || (r_29 != 0))), (211, .bool (((r_25 != 0) || (r_27 != 0)) || (r_29 != 0))), (214, .bool ((((r_25 != 0) || (r_27 != 0)) || (r_29 != 0)) || (r_31 != 0))), (215, .bool ((((r_25 != 0) || (r_27 != 0)) || (r_29 != 0)) || (r_31 != 0))), (218, .bool (((((r_25 != 0) || (r_27 != 0)) || (r_29 != 0)) || (r_31 != 0)) || (r_33 != 0))), (219, .bool (((((r_25 != 0) || (r_27 != 0)) || (r_29 != 0)) || (r_31 != 0)) || (r_33 != 0))), (222, .bool ((((((r_25 != 0) || (r_27 != 0)) || (r_29 != 0)) || (r_31 != 0)) || (r_33 != 0)) || (r_35 != 0))), (223, .bool ((((((r_25 != 0) || (r_27 != 0)) || (r_29 != 0)) || (r_31 != 0)) || (r_33 != 0)) || (r_35 != 0))), (227, .bool (((((((r_25 != 0) || (r_27 != 0)) || (r_29 != 0)) || (r_31 != 0)) || (r_33 != 0)) || (r_35 != 0)) || (r_24 != r_26))), (228, .bool (((((((r_25 != 0) || (r_27 != 0)) || (r_29 != 0)) || (r_31 != 0)) || (r_33 != 0)) || (r_35 != 0)) || (r_24 != r_26))), (232, .bool ((((((((r_25 != 0) || (r_27 != 0)) || (r_29 != 0)) || (r_31 != 0)) || (r_33 != 0)) || (r_35 != 0)) || (r_24 != r_26)) || (r_28 != r_30))), (233, .bool ((((((((r_25 != 0) || (r_27 != 0)) || (r_29 != 0)) || (r_31 != 0)) || (r_33 != 0)) || (r_35 != 0)) || (r_24 != r_26)) || (r_28 != r_30)))] [mat Ei 2 22 s7 ss6 r_21, mat Ei 2 22 s6 ss5 r_19, mat Ei 2 22 s5 ss4 r_17] ?_ ?_
                 ·refine TL.cases (t := 233) (b := ((((((((r_25 != 0) || (r_27 != 0)) || (r_29 != 0)) || (r_31 != 0)) || (r_33 != 0)) || (r_35 != 0)) || (r_24 != r_26)) || (r_28 != r_30))) rfl (fun c41 => ?_) (fun c42 => ?_)
                  ·refine TL.skip rfl rfl (by decide) ?_
                   refine TL.skip rfl rfl (by decide) ?_
                   refine TL.skip rfl rfl (by decide) ?_
                   refine TL.skip rfl rfl (by decide) ?_
                   refine TL.pick rfl rfl (b := true) rfl (r := .bool true) rfl ?_
                   refine TL.done ?_
                   exact TC.nrm () () ⟨(by rw [c41]; rfl), rfl, rfl, rfl, rfl, rfl, rfl, rfl, rfl, rfl, rfl, rfl, rfl, rfl, rfl, rfl, rfl, rfl, rfl, rfl, rfl, rfl, rfl, rfl, rfl, rfl, rfl, rfl, rfl, rfl, rfl, rfl, rfl, rfl, rfl, rfl, rfl, rfl, rfl, rfl, rfl, rfl, rfl, rfl, rfl, rfl, rfl, rfl, rfl, rfl, rfl, rfl, rfl, rfl, rfl, rfl, rfl, rfl, rfl, rfl, rfl, rfl, rfl, rfl, rfl, rfl, rfl, rfl, rfl, rfl, rfl, rfl, rfl, rfl, rfl, rfl, rfl, rfl, rfl, rfl, rfl, rfl, rfl, rfl, rfl, rfl, rfl, rfl, rfl, rfl, (by rw [c41]; rfl), trivial⟩ [0, 0, 0] (by kernel_rfl)
                  ·refine TL.move rfl rfl (v := .int .i64 r_32) rfl ?_
                   refine TL.bin .i64 r_32 1 rfl rfl rfl rfl (v := .int .i64 (w64 (r_32 + 1))) rfl ?_
                   refine TL.move rfl rfl (v := .int .i64 r_34) rfl ?_
                   refine TL.bin .i64 (w64 (r_32 + 1)) r_34 rfl rfl rfl rfl (v := .bool ((w64 (r_32 + 1)) != r_34)) rfl ?_
                   refine TL.pick rfl rfl (b := false) rfl (r := .bool ((w64 (r_32 + 1)) != r_34)) rfl ?_
                   refine TL.done ?_
                   exact TC.nrm () () ⟨(by rw [c42]; rfl), rfl, rfl, rfl, rfl, rfl, rfl, rfl, rfl, rfl, rfl, rfl, rfl, rfl, rfl, rfl, rfl, rfl, rfl, rfl, rfl, rfl, rfl, rfl, rfl, rfl, rfl, rfl, rfl, rfl, rfl, rfl, rfl, rfl, rfl, rfl, rfl, rfl, rfl, rfl, rfl, rfl, rfl, rfl, rfl, rfl, rfl, rfl, rfl, rfl, rfl, rfl, rfl, rfl, rfl, rfl, rfl, rfl, rfl, rfl, rfl, rfl, rfl, rfl, rfl, rfl, rfl, rfl, rfl, rfl, rfl, rfl, rfl, rfl, rfl, rfl, rfl, rfl, rfl, rfl, rfl, rfl, rfl, rfl, rfl, rfl, rfl, rfl, rfl, rfl, (by rw [c42]; rfl), trivial⟩ [0, 0, 0] (by kernel_rfl)
                 ·refine TL.done ?_
                  refine TC.cond (b := (((((((((r_25 != 0) || (r_27 != 0)) || (r_29 != 0)) || (r_31 != 0)) || (r_33 != 0)) || (r_35 != 0)) || (r_24 != r_26)) || (r_28 != r_30)) || ((w64 (r_32 + 1)) != r_34))) rfl (fun c43 => ?_) (fun c44 => ?_)
                  ·refine TC.seq ?_
                   refine TC.region ?_
                   refine TL.assign rfl rfl (v := .bool false) rfl ?_
                   refine TL.done ?_
                   exact TC.retF (Fin.join (by simp) (Fin.body (fin1 (.inr rfl) rfl (.tmp rfl) [] rfl ⟨rfl, rfl⟩)))
                  ·refine TC.skip ?_
                   exact TC.inl (()) (()) ⟨rfl, trivial⟩ [] rfl
         ·refine TC.skip ?_
          exact TC.inl (()) (()) ⟨rfl, trivial⟩ [] rfl
        ·rintro _ _
         refine TC.seq ?_
         refine TC.region ?_
         refine TL.move rfl rfl (v := SV.v s1) rfl ?_
         refine TL.call (R := G.spec_DrawOrientSurface.R) Try.call52 rfl rfl rfl (fun w hS => G.spec_DrawOrientSurface.calls w s1 x1 ((Rd.old h1) w hS)) ?_
         rintro r_36 _ _ ⟨s8, ss7, rfl, rfl⟩
         refine TL.assign rfl rfl (v := SV.v s8) rfl ?_
         refine TL.done ?_
         refine TC.seq ?_
         refine TC.region ?_
         refine TL.move rfl rfl (v := SV.v s8) rfl ?_
         refine TL.call (R := G.impl_OrientSurface.R) Try.call35 rfl rfl rfl (fun w hS => G.impl_OrientSurface.calls w s8 ss7 r_36 ((RdM.mat 0 rfl) w hS)) ?_
         rintro ⟨r_37, r_38⟩ _ _ ⟨s9, ss8, rfl, rfl⟩
         refine TL.move rfl rfl (v := .tuple #[SV.v s9, .int .i64 r_38]) rfl ?_
         refine TL.extract rfl rfl rfl (v := SV.v s9) rfl ?_
         refine TL.extract rfl rfl rfl (v := .int .i64 r_38) rfl ?_
         refine TL.assign rfl rfl (v := SV.v s9) rfl ?_
         refine TL.assign rfl rfl (v := .int .i64 r_38) rfl ?_
         refine TL.done ?_
         refine TC.seq ?_
         refine TC.region ?_
         refine TL.move rfl rfl (v := SV.v s8) rfl ?_
         refine TL.call (R := G.spec_OrientSurface.R) Try.call33 rfl rfl rfl (fun w hS => G.spec_OrientSurface.calls w s8 ss7 r_36 ((RdM.mat 1 rfl) w hS)) ?_
         rintro ⟨r_39, r_40⟩ _ _ ⟨s10, ss9, rfl, rfl⟩
         refine TL.move rfl rfl (v := .tuple #[SV.v s10, .int .i64 r_40]) rfl ?_
         refine TL.extract rfl rfl rfl (v := SV.v s10) rfl ?_
         refine TL.extract rfl rfl rfl (v := .int .i64 r_40) rfl ?_
         refine TL.assign rfl rfl (v := SV.v s10) rfl ?_
         refine TL.assign rfl rfl (v := .int .i64 r_40) rfl ?_
         refine TL.done ?_
         refine TC.seq ?_
         refine TC.seq ?_
         refine TC.region ?_
         refine TL.move rfl rfl (v := .int .i64 r_38) rfl ?_
         refine TL.move rfl rfl (v := .int .i64 r_40) rfl ?_
         refine TL.bin .i64 r_38 r_40 rfl rfl rfl rfl (v := .bool (r_38 != r_40)) rfl ?_
         refine TL.move rfl rfl (v := .bool (r_38 != r_40)) rfl ?_
         refine TL.cutJ (σ := Bool) (γ := Unit) (Γ' := fun b_4 _ => [(259, .bool b_4), (0, SV.v s1), (239, SV.v s1), (240, SV.v s8), (33, SV.v s8), (242, SV.v s8), (243, .tuple #[SV.v s9, .int .i64 r_38]), (241, .tuple #[SV.v s9, .int .i64 r_38]), (244, SV.v s9), (245, .int .i64 r_38), (34, SV.v s9), (35, .int .i64 r_38), (247, SV.v s8), (248, .tuple #[SV.v s10, .int .i64 r_40]), (246, .tuple #[SV.v s10, .int .i64 r_40]), (249, SV.v s10), (250, .int .i64 r_40), (36, SV.v s10), (37, .int .i64 r_40), (251, .int .i64 r_38), (252, .int .i64 r_40), (253, .bool (r_38 != r_40)), (254, .bool (r_38 != r_40))]) (L' := fun _ _ => [mat Ei 2 22 s10 ss9 r_39, mat Ei 2 22 s9 ss8 r_37, mat Ei 2 22 s8 ss7 r_36]) 5 ?_ ?_
         ·refine TL.ifb (t := 254) (b := (r_38 != r_40)) rfl (fun c45 => ?_) (fun c46 => ?_)
          ·refine TL.skip rfl rfl (by decide) ?_
           refine TL.skip rfl rfl (by decide) ?_
           refine TL.skip rfl rfl (by decide) ?_
           refine TL.skip rfl rfl (by decide) ?_
           refine TL.pick rfl rfl (b := true) rfl (r := .bool true) rfl ?_
           refine TL.done ?_
           exact TC.nrm (true) () ⟨rfl, rfl, rfl, rfl, rfl, rfl, rfl, rfl, rfl, rfl, rfl, rfl, rfl, rfl, rfl, rfl, rfl, rfl, rfl, rfl, rfl, rfl, (by rw [c45]; rfl), trivial⟩ [0, 0, 0] (by kernel_rfl)
          ·refine TL.move rfl rfl (v := SV.v s9) rfl ?_
           refine TL.move rfl rfl (v := SV.v s10) rfl ?_
           refine TL.call (R := G.laws_rows5.R) Try.call43 rfl rfl rfl (fun w hS => G.laws_rows5.calls w s9 ss8 r_37 s10 ss9 r_39 ((RdM.mat 1 rfl) w hS) ((RdM.mat 0 rfl) w hS)) ?_
           rintro r_41 _ _ ⟨rfl, rfl⟩
           refine TL.not r_41 rfl rfl rfl ?_
           refine TL.pick rfl rfl (b := false) rfl (r := .bool (!r_41)) rfl ?_
           refine TL.done ?_
           exact TC.nrm ((!r_41)) () ⟨rfl, rfl, rfl, rfl, rfl, rfl, rfl, rfl, rfl, rfl, rfl, rfl, rfl, rfl, rfl, rfl, rfl, rfl, rfl, rfl, rfl, rfl, (by rw [c46]; rfl), trivial⟩ [0, 0, 0] (by kernel_rfl)
         ·rintro b_4 _
          refine TL.done ?_
          refine TC.cond (b := b_4) rfl (fun c47 => ?_) (fun c48 => ?_)
          ·refine TC.seq ?_
           refine TC.region ?_
           refine TL.assign rfl rfl (v := .bool false) rfl ?_
           refine TL.done ?_
           exact TC.retF (Fin.body (fin1 (.inr rfl) rfl (.tmp rfl) [] rfl ⟨rfl, rfl⟩))
          ·refine TC.skip ?_
           refine TC.seq ?_
           refine TC.seq ?_
           refine TC.region ?_
           refine TL.move rfl rfl (v := .int .i64 r_38) rfl ?_
           refine TL.bin .i64 r_38 0 rfl rfl rfl rfl (v := .bool (r_38 == 0)) rfl ?_
           refine TL.done ?_
           refine TC.join (σ := Unit) (γ := Unit) (Γ' := (fun _ _ => [(0, SV.v s1)])) (L' := (fun _ _ => [])) ?_ ?_
           ·refine TC.cond (b := (r_38 == 0)) rfl (fun c49 => ?_) (fun c50 => ?_)
            ·refine TC.seq ?_
             refine TC.region ?_
             refine TL.move rfl rfl (v := SV.v s9) rfl ?_
             refine TL.call (R := G.impl_IsOriented.R) Try.call47 rfl rfl rfl (fun w hS => G.impl_IsOriented.calls w s9 ss8 r_37 ((RdM.mat 1 rfl) w hS)) ?_
             rintro ⟨r_42, r_43⟩ _ _ ⟨rfl, rfl⟩
             refine TL.move rfl rfl (v := .tuple #[.bool r_42, .int .i64 r_43]) rfl ?_
             refine TL.extract rfl rfl rfl (v := .bool r_42) rfl ?_
             refine TL.extract rfl rfl rfl (v := .int .i64 r_43) rfl ?_
             refine TL.assign rfl rfl (v := .bool r_42) rfl ?_
             refine TL.assign rfl rfl (v := .int .i64 r_43) rfl ?_
             refine TL.done ?_
             refine TC.seq ?_
             refine TC.region ?_
             refine TL.move rfl rfl (v := SV.v s9) rfl ?_
             refine TL.call (R := G.impl_OrientSurface.R) Try.call35 rfl rfl rfl (fun w hS => G.impl_OrientSurface.calls w s9 ss8 r_37 ((RdM.mat 1 rfl) w hS)) ?_
             rintro ⟨r_44, r_45⟩ _ _ ⟨s11, ss10, rfl, rfl⟩
             refine TL.move rfl rfl (v := .tuple #[SV.v s11, .int .i64 r_45]) rfl ?_
             refine TL.extract rfl rfl rfl (v := SV.v s11) rfl ?_
             refine TL.extract rfl rfl rfl (v := .int .i64 r_45) rfl ?_
             refine TL.assign rfl rfl (v := SV.v s11) rfl ?_
             refine TL.assign rfl rfl (v := .int .i64 r_45) rfl ?_
             refine TL.done ?_
             refine TC.seq ?_
             refine TC.region ?_
             refine TL.move rfl rfl (v := .int .i64 r_43) rfl ?_
             refine TL.bin .i64 r_43 0 rfl rfl rfl rfl (v := .bool (r_43 != 0)) rfl ?_
             refine TL.move rfl rfl (v := .bool (r_43 != 0)) rfl ?_
             refine TL.cutU 3 [(277, .bool ((r_43 != 0) || (r_45 != 0))), (0, SV.v s1), (239, SV.v s1), (240, SV.v s8), (33, SV.v s8), (242, SV.v s8), (243, .tuple #[SV.v s9, .int .i64 r_38]), (241, .tuple #[SV.v s9, .int .i64 r_38]), (244, SV.v s9), (245, .int .i64 r_38), (34, SV.v s9), (35, .int .i64 r_38), (247, SV.v s8), (248, .tuple #[SV.v s10, .int .i64 r_40]), (246, .tuple #[SV.v s10, .int .i64 r_40]), (249, SV.v s10), (250, .int .i64 r_40), (36, SV.v s10), (37, .int .i64 r_40), (251, .int .i64 r_38), (252, .int .i64 r_40), (253, .bool (r_38 != r_40)), (254, .bool (r_38 != r_40)), (259, .bool b_4), (260, .int .i64 r_38), (261, .bool (r_38 == 0)), (263, SV.v s9), (264, .tuple #[.bool r_42, .int .i64 r_43]), (262, .tuple #[.bool r_42, .int .i64 r_43]), (265, .bool r_42), (266, .int .i64 r_43), (38, .bool r_42), (39, .int .i64 r_43), (268, SV.v s9), (269, .tuple #[SV.v s11, .int .i64 r_45]), (267, .tuple #[SV.v s11, .int .i64 r_45]), (270, SV.v s11), (271, .int .i64 r_45), (40, SV.v s11), (41, .int .i64 r_45), (272, .int .i64 r_43), (273, .bool (r_43 != 0)), (274, .bool (r_43 != 0))] [mat Ei 2 22 s11 ss10 r_44, mat Ei 2 22 s10 ss9 r_39, mat Ei 2 22 s9 ss8 r_37, mat Ei 2 22 s8 ss7 r_36] ?_ ?_
             ·refine TL.cases (t := 274) (b := (r_43 != 0)) rfl (fun c51 => ?_) (fun c52 => ?_)
              ·refine TL.skip rfl rfl (by decide) ?_
               refine TL.skip rfl rfl (by decide) ?_
               refine TL.pick rfl rfl (b := true) rfl (r := .bool true) rfl ?_
               refine TL.done ?_
               exact TC.nrm () () ⟨(by rw [c51]; rfl), rfl, rfl, rfl, rfl, rfl, rfl, rfl, rfl, rfl, rfl, rfl, rfl, rfl, rfl, rfl, rfl, rfl, rfl, rfl, rfl, rfl, rfl, rfl, rfl, rfl, rfl, rfl, rfl, rfl, rfl, rfl, rfl, rfl, rfl, rfl, rfl, rfl, rfl, rfl, rfl, rfl, (by rw [c51]; rfl), trivial⟩ [0, 0, 0, 0] (by kernel_rfl)
              ·refine TL.move rfl rfl (v := .int .i64 r_45) rfl ?_
               refine TL.bin .i64 r_45 0 rfl rfl rfl rfl (v := .bool (r_45 != 0)) rfl ?_
               refine TL.pick rfl rfl (b := false) rfl (r := .bool (r_45 != 0)) rfl ?_
               refine TL.done ?_
               exact TC.nrm () () ⟨(by rw [c52]; rfl), rfl, rfl, rfl, rfl, rfl, rfl, rfl, rfl, rfl, rfl, rfl, rfl, rfl, rfl, rfl, rfl, rfl, rfl, rfl, rfl, rfl, rfl, rfl, rfl, rfl, rfl, rfl, rfl, rfl, rfl, rfl, rfl, rfl, rfl, rfl, rfl, rfl, rfl, rfl, rfl, rfl, (by rw [c52]; rfl), trivial⟩ [0, 0, 0, 0] (by kernel_rfl)
             ·refine TL.move rfl rfl (v := .bool ((r_43 != 0) || (r_45 != 0))) rfl ?_
              refine TL.cutU 3 [(281, .bool (((r_43 != 0) || (r_45 != 0)) || (!r_42))), (0, SV.v s1), (239, SV.v s1), (240, SV.v s8), (33, SV.v s8), (242, SV.v s8), (243, .tuple #[SV.v s9, .int .i64 r_38]), (241, .tuple #[SV.v s9, .int .i64 r_38]), (244, SV.v s9), (245, .int .i64 r_38), (34, SV.v s9), (35, .int .i64 r_38), (247, SV.v s8), (248, .tuple #[SV.v s10, .int .i64 r_40]), (246, .tuple #[SV.v s10, .int .i64 r_40]), (249, SV.v s10), (250, .int .i64 r_40), (36, SV.v s10), (37, .int .i64 r_40), (251, .int .i64 r_38), (252, .int .i64 r_40), (253, .bool (r_38 != r_40)), (254, .bool (r_38 != r_40)), (259, .bool b_4), (260, .int .i64 r_38), (261, .bool (r_38 == 0)), (263, SV.v s9), (264, .tuple #[.bool r_42, .int .i64 r_43]), (262, .tuple #[.bool r_42, .int .i64 r_43]), (265, .bool r_42), (266, .int .i64 r_43), (38, .bool r_42), (39, .int .i64 r_43), (268, SV.v s9), (269, .tuple #[SV.v s11, .int .i64 r_45]), (267, .tuple #[SV.v s11, .int .i64 r_45]), (270, SV.v s11), (271, .int .i64 r_45), (40, SV.v s11), (41, .int .i64 r_45), (272, .int .i64 r_43), (273, .bool (r_43 != 0)), (274, .bool (r_43 != 0)), (277, .bool ((r_43 != 0) || (r_45 != 0))), (278, .bool ((r_43 != 0) || (r_45 != 0)))] [mat Ei 2 22 s11 ss10 r_44, mat Ei 2 22 s10 ss9 r_39, mat Ei 2 22 s9 ss8 r_37, mat Ei 2 22 s8 ss7 r_36] ?_ ?_
              ·refine TL.cases (t := 278) (b := ((r_43 != 0) || (r_45 != 0))) rfl (fun c53 => ?_) (fun c54 => ?_)
               ·refine TL.skip rfl rfl (by decide) ?_
                refine TL.skip rfl rfl (by decide) ?_
                refine TL.pick rfl rfl (b := true) rfl (r := .bool true) rfl ?_
                refine TL.done ?_
                exact TC.nrm () () ⟨(by rw [c53]; rfl), rfl, rfl, rfl, rfl, rfl, rfl, rfl, rfl, rfl, rfl, rfl, rfl, rfl, rfl, rfl, rfl, rfl, rfl, rfl, rfl, rfl, rfl, rfl, rfl, rfl, rfl, rfl, rfl, rfl, rfl, rfl, rfl, rfl, rfl, rfl, rfl, rfl, rfl, rfl, rfl, rfl, rfl, rfl, (by rw [c53]; rfl), trivial⟩ [0, 0, 0, 0] (by kernel_rfl)
               ·refine TL.move rfl rfl (v := .bool r_42) rfl ?_
                refine TL.not r_42 rfl rfl rfl ?_
                refine TL.pick rfl rfl (b := false) rfl (r := .bool (!r_42)) rfl ?_
                refine TL.done ?_
                exact TC.nrm () () ⟨(by rw [c54]; rfl), rfl, rfl, rfl, rfl, rfl, rfl, rfl, rfl, rfl, rfl, rfl, rfl, rfl, rfl, rfl, rfl, rfl, rfl, rfl, rfl, rfl, rfl, rfl, rfl, rfl, rfl, rfl, rfl, rfl, rfl, rfl, rfl, rfl, rfl, rfl, rfl, rfl, rfl, rfl, rfl, rfl, rfl, rfl, (by rw [c54]; rfl), trivial⟩ [0, 0, 0, 0] (by kernel_rfl)
              ·refine TL.move rfl rfl (v := .bool (((r_43 != 0) || (r_45 != 0)) || (!r_42))) rfl ?_
               refine TL.cutJ (σ := Bool) (γ := Unit) (Γ' := fun b_5 _ => [(287, .bool b_5), (0, SV.v s1), (239, SV.v s1), (240, SV.v s8), (33, SV.v s8), (242, SV.v s8), (243, .tuple #[SV.v s9, .int .i64 r_38]), (241, .tuple #[SV.v s9, .int .i64 r_38]), (244, SV.v s9), (245, .int .i64 r_38), (34, SV.v s9), (35, .int .i64 r_38), (247, SV.v s8), (248, .tuple #[SV.v s10, .int .i64 r_40]), (246, .tuple #[SV.v s10, .int .i64 r_40]), (249, SV.v s10), (250, .int .i64 r_40), (36, SV.v s10), (37, .int .i64 r_40), (251, .int .i64 r_38), (252, .int .i64 r_40), (253, .bool (r_38 != r_40)), (254, .bool (r_38 != r_40)), (259, .bool b_4), (260, .int .i64 r_38), (261, .bool (r_38 == 0)), (263, SV.v s9), (264, .tuple #[.bool r_42, .int .i64 r_43]), (262, .tuple #[.bool r_42, .int .i64 r_43]), (265, .bool r_42), (266, .int .i64 r_43), (38, .bool r_42), (39, .int .i64 r_43), (268, SV.v s9), (269, .tuple #[SV.v s11, .int .i64 r_45]), (267, .tuple #[SV.v s11, .int .i64 r_45]), (270, SV.v s11), (271, .int .i64 r_45), (40, SV.v s11), (41, .int .i64 r_45), (272, .int .i64 r_43), (273, .bool (r_43 != 0)), (274, .bool (r_43 != 0)), (277, .bool ((r_43 != 0) || (r_45 != 0))), (278, .bool ((r_43 != 0) || (r_45 != 0))), (281, .bool (((r_43 != 0) || (r_45 != 0)) || (!r_42))), (282, .bool (((r_43 != 0) || (r_45 != 0)) || (!r_42)))]) (L' := fun _ _ => [mat Ei 2 22 s11 ss10 r_44, mat Ei 2 22 s10 ss9 r_39, mat Ei 2 22 s9 ss8 r_37, mat Ei 2 22 s8 ss7 r_36]) 5 ?_ ?_
               ·refine TL.ifb (t := 282) (b := (((r_43 != 0) || (r_45 != 0)) || (!r_42))) rfl (fun c55 => ?_) (fun c56 => ?_)
                ·refine TL.skip rfl rfl (by decide) ?_
                 refine TL.skip rfl rfl (by decide) ?_
                 refine TL.skip rfl rfl (by decide) ?_
                 refine TL.skip rfl rfl (by decide) ?_
                 refine TL.pick rfl rfl (b := true) rfl (r := .bool true) rfl ?_
                 refine TL.done ?_
                 exact TC.nrm (true) () ⟨rfl, rfl, rfl, rfl, rfl, rfl, rfl, rfl, rfl, rfl, rfl, rfl, rfl, rfl, rfl, rfl, rfl, rfl, rfl, rfl, rfl, rfl, rfl, rfl, rfl, rfl, rfl, rfl, rfl, rfl, rfl, rfl, rfl, rfl, rfl, rfl, rfl, rfl, rfl, rfl, rfl, rfl, rfl, rfl, rfl, rfl, (by rw [c55]; rfl), trivial⟩ [0, 0, 0, 0] (by kernel_rfl)
                ·refine TL.move rfl rfl (v := SV.v s11) rfl ?_
                 refine TL.move rfl rfl (v := SV.v s9) rfl ?_
                 refine TL.call (R := G.laws_rows5.R) Try.call43 rfl rfl rfl (fun w hS => G.laws_rows5.calls w s11 ss10 r_44 s9 ss8 r_37 ((RdM.mat 0 rfl) w hS) ((RdM.mat 2 rfl) w hS)) ?_
                 rintro r_46 _ _ ⟨rfl, rfl⟩
                 refine TL.not r_46 rfl rfl rfl ?_
                 refine TL.pick rfl rfl (b := false) rfl (r := .bool (!r_46)) rfl ?_
                 refine TL.done ?_
                 exact TC.nrm ((!r_46)) () ⟨rfl, rfl, rfl, rfl, rfl, rfl, rfl, rfl, rfl, rfl, rfl, rfl, rfl, rfl, rfl, rfl, rfl, rfl, rfl, rfl, rfl, rfl, rfl, rfl, rfl, rfl, rfl, rfl, rfl, rfl, rfl, rfl, rfl, rfl, rfl, rfl, rfl, rfl, rfl, rfl, rfl, rfl, rfl, rfl, rfl, rfl, (by rw [c56]; rfl), trivial⟩ [0, 0, 0, 0] (by kernel_rfl)
               ·rintro b_5 _
                refine TL.done ?_
                refine TC.cond (b := b_5) rfl (fun c57 => ?_) (fun c58 => ?_)
                ·refine TC.seq ?_
                 refine TC.region ?_
                 refine TL.assign rfl rfl (v := .bool false) rfl ?_
                 refine TL.done ?_
                 exact TC.retF (Fin.join (by simp) (Fin.body (fin1 (.inr rfl) rfl (.tmp rfl) [] rfl ⟨rfl, rfl⟩)))
                ·refine TC.skip ?_
                 exact TC.inl (()) (()) ⟨rfl, trivial⟩ [] rfl
            ·refine TC.skip ?_
             exact TC.inl (()) (()) ⟨rfl, trivial⟩ [] rfl
           ·rintro _ _
            refine TC.seq ?_
            refine TC.region ?_
            refine TL.move rfl rfl (v := SV.v s1) rfl ?_
            refine TL.call (R := G.spec_DrawGenusOf.R) Try.call53 rfl rfl rfl (fun w hS => G.spec_DrawGenusOf.calls w s1 x1 ((Rd.old h1) w hS)) ?_
            rintro r_47 _ _ ⟨s12, ss11, rfl, rfl⟩
            refine TL.assign rfl rfl (v := SV.v s12) rfl ?_
            refine TL.done ?_
            refine TC.seq ?_
            refine TC.region ?_
            refine TL.move rfl rfl (v := SV.v s12) rfl ?_
            refine TL.call (R := G.impl_GenusOf.R) Try.call54 rfl rfl rfl (fun w hS => G.impl_GenusOf.calls w s12 ss11 r_47 ((RdM.mat 0 rfl) w hS)) ?_
            rintro ⟨r_48, r_49⟩ _ _ ⟨rfl, rfl⟩
            refine TL.move rfl rfl (v := .tuple #[.int .i64 r_48, .int .i64 r_49]) rfl ?_
            refine TL.extract rfl rfl rfl (v := .int .i64 r_48) rfl ?_
            refine TL.extract rfl rfl rfl (v := .int .i64 r_49) rfl ?_
            refine TL.assign rfl rfl (v := .int .i64 r_48) rfl ?_
            refine TL.assign rfl rfl (v := .int .i64 r_49) rfl ?_
            refine TL.done ?_
            refine TC.seq ?_
            refine TC.region ?_
            refine TL.move rfl rfl (v := SV.v s12) rfl ?_
            refine TL.call (R := G.spec_GenusOf.R) Try.call55 rfl rfl rfl (fun w hS => G.spec_GenusOf.calls w s12 ss11 r_47 ((RdM.mat 0 rfl) w hS)) ?_
            rintro ⟨r_50, r_51⟩ _ _ ⟨rfl, rfl⟩
            refine TL.move rfl rfl (v := .tuple #[.int .i64 r_50, .int .i64 r_51]) rfl ?_
            refine TL.extract rfl rfl rfl (v := .int .i64 r_50) rfl ?_
            refine TL.extract rfl rfl rfl (v := .int .i64 r_51) rfl ?_
            refine TL.assign rfl rfl (v := .int .i64 r_50) rfl ?_
            refine TL.assign rfl rfl (v := .int .i64 r_51) rfl ?_
            refine TL.done ?_
            refine TC.seq ?_
            refine TC.region ?_
            refine TL.move rfl rfl (v := SV.v s1) rfl ?_
            refine TL.call (R := G.spec_DrawCountSurfacePieces.R) Try.call56 rfl rfl rfl (fun w hS => G.spec_DrawCountSurfacePieces.calls w s1 x1 ((Rd.old h1) w hS)) ?_
            rintro r_52 _ _ ⟨s13, ss12, rfl, rfl⟩
            refine TL.assign rfl rfl (v := SV.v s13) rfl ?_
            refine TL.done ?_
            refine TC.seq ?_
            refine TC.region ?_
            refine TL.move rfl rfl (v := SV.v s13) rfl ?_
            refine TL.call (R := G.impl_CountSurfacePieces.R) Try.call57 rfl rfl rfl (fun w hS => G.impl_CountSurfacePieces.calls w s13 ss12 r_52 ((RdM.mat 0 rfl) w hS)) ?_
            rintro ⟨r_53, r_54⟩ _ _ ⟨rfl, rfl⟩
            refine TL.move rfl rfl (v := .tuple #[.int .i64 r_53, .int .i64 r_54]) rfl ?_
            refine TL.extract rfl rfl rfl (v := .int .i64 r_53) rfl ?_
            refine TL.extract rfl rfl rfl (v := .int .i64 r_54) rfl ?_
            refine TL.assign rfl rfl (v := .int .i64 r_53) rfl ?_
            refine TL.assign rfl rfl (v := .int .i64 r_54) rfl ?_
            refine TL.done ?_
            refine TC.seq ?_
            refine TC.region ?_
            refine TL.move rfl rfl (v := SV.v s13) rfl ?_
            refine TL.call (R := G.spec_CountSurfacePieces.R) Try.call58 rfl rfl rfl (fun w hS => G.spec_CountSurfacePieces.calls w s13 ss12 r_52 ((RdM.mat 0 rfl) w hS)) ?_
            rintro ⟨r_55, r_56⟩ _ _ ⟨rfl, rfl⟩
            refine TL.move rfl rfl (v := .tuple #[.int .i64 r_55, .int .i64 r_56]) rfl ?_
            refine TL.extract rfl rfl rfl (v := .int .i64 r_55) rfl ?_
            refine TL.extract rfl rfl rfl (v := .int .i64 r_56) rfl ?_
            refine TL.assign rfl rfl (v := .int .i64 r_55) rfl ?_
            refine TL.assign rfl rfl (v := .int .i64 r_56) rfl ?_
            refine TL.done ?_
            refine TC.seq ?_
            refine TC.region ?_
            refine TL.move rfl rfl (v := SV.v s1) rfl ?_
            refine TL.call (R := G.spec_DrawNamedSurface.R) Try.call59 rfl rfl rfl (fun w hS => G.spec_DrawNamedSurface.calls w s1 x1 ((Rd.old h1) w hS)) ?_
            rintro r_57 _ _ ⟨rfl, rfl⟩
            refine TL.assign rfl rfl (v := strv r_57) rfl ?_
            refine TL.done ?_
            refine TC.seq ?_
            refine TC.region ?_
            refine TL.move rfl rfl (v := strv r_57) rfl ?_
            refine TL.call (R := G.impl_NamedSurface.R) Try.call60 rfl rfl rfl (fun w hS => G.impl_NamedSurface.calls w r_57) ?_
            rintro ⟨r_58, r_59⟩ _ _ ⟨s14, ss13, rfl, rfl⟩
            refine TL.move rfl rfl (v := .tuple #[SV.v s14, .int .i64 r_59]) rfl ?_
            refine TL.extract rfl rfl rfl (v := SV.v s14) rfl ?_
            refine TL.extract rfl rfl rfl (v := .int .i64 r_59) rfl ?_
            refine TL.assign rfl rfl (v := SV.v s14) rfl ?_
            refine TL.assign rfl rfl (v := .int .i64 r_59) rfl ?_
            refine TL.done ?_
            refine TC.seq ?_
            refine TC.region ?_
            refine TL.move rfl rfl (v := strv r_57) rfl ?_
            refine TL.call (R := G.spec_NamedSurface.R) Try.call61 rfl rfl rfl (fun w hS => G.spec_NamedSurface.calls w r_57) ?_
            rintro ⟨r_60, r_61⟩ _ _ ⟨s15, ss14, rfl, rfl⟩
            refine TL.move rfl rfl (v := .tuple #[SV.v s15, .int .i64 r_61]) rfl ?_
            refine TL.extract rfl rfl rfl (v := SV.v s15) rfl ?_
            refine TL.extract rfl rfl rfl (v := .int .i64 r_61) rfl ?_
            refine TL.assign rfl rfl (v := SV.v s15) rfl ?_
            refine TL.assign rfl rfl (v := .int .i64 r_61) rfl ?_
            refine TL.done ?_
            refine TC.seq ?_
            refine TC.region ?_
            refine TL.move rfl rfl (v := SV.v s1) rfl ?_
            refine TL.call (R := G.spec_DrawEulerNumber.R) Try.call62 rfl rfl rfl (fun w hS => G.spec_DrawEulerNumber.calls w s1 x1 ((Rd.old h1) w hS)) ?_
            rintro r_62 _ _ ⟨s16, ss15, rfl, rfl⟩
            refine TL.assign rfl rfl (v := SV.v s16) rfl ?_
            refine TL.done ?_
            refine TC.seq ?_
            refine TC.region ?_
            refine TL.move rfl rfl (v := SV.v s16) rfl ?_
            refine TL.call (R := G.impl_EulerNumber.R) Try.call46 rfl rfl rfl (fun w hS => G.impl_EulerNumber.calls w s16 ss15 r_62 ((RdM.mat 0 rfl) w hS)) ?_
            rintro ⟨r_63, r_64⟩ _ _ ⟨rfl, rfl⟩
            refine TL.move rfl rfl (v := .tuple #[.int .i64 r_63, .int .i64 r_64]) rfl ?_
            refine TL.extract rfl rfl rfl (v := .int .i64 r_63) rfl ?_
            refine TL.extract rfl rfl rfl (v := .int .i64 r_64) rfl ?_
            refine TL.assign rfl rfl (v := .int .i64 r_63) rfl ?_
            refine TL.assign rfl rfl (v := .int .i64 r_64) rfl ?_
            refine TL.done ?_
            refine TC.seq ?_
            refine TC.region ?_
            refine TL.move rfl rfl (v := SV.v s16) rfl ?_
            refine TL.call (R := G.spec_EulerNumber.R) Try.call63 rfl rfl rfl (fun w hS => G.spec_EulerNumber.calls w s16 ss15 r_62 ((RdM.mat 0 rfl) w hS)) ?_
            rintro ⟨r_65, r_66⟩ _ _ ⟨rfl, rfl⟩
            refine TL.move rfl rfl (v := .tuple #[.int .i64 r_65, .int .i64 r_66]) rfl ?_
            refine TL.extract rfl rfl rfl (v := .int .i64 r_65) rfl ?_
            refine TL.extract rfl rfl rfl (v := .int .i64 r_66) rfl ?_
            refine TL.assign rfl rfl (v := .int .i64 r_65) rfl ?_
            refine TL.assign rfl rfl (v := .int .i64 r_66) rfl ?_
            refine TL.done ?_
            refine TC.seq ?_
            refine TC.region ?_
            refine TL.move rfl rfl (v := SV.v s1) rfl ?_
            refine TL.call (R := G.spec_DrawCountVertices.R) Try.call64 rfl rfl rfl (fun w hS => G.spec_DrawCountVertices.calls w s1 x1 ((Rd.old h1) w hS)) ?_
            rintro r_67 _ _ ⟨s17, ss16, rfl, rfl⟩
            refine TL.assign rfl rfl (v := SV.v s17) rfl ?_
            refine TL.done ?_
            refine TC.seq ?_
            refine TC.region ?_
            refine TL.move rfl rfl (v := SV.v s17) rfl ?_
            refine TL.call (R := G.impl_CountVertices.R) Try.call51 rfl rfl rfl (fun w hS => G.impl_CountVertices.calls w s17 ss16 r_67 ((RdM.mat 0 rfl) w hS)) ?_
            rintro ⟨r_68, r_69⟩ _ _ ⟨rfl, rfl⟩
            refine TL.move rfl rfl (v := .tuple #[.int .i64 r_68, .int .i64 r_69]) rfl ?_
            refine TL.extract rfl rfl rfl (v := .int .i64 r_68) rfl ?_
            refine TL.extract rfl rfl rfl (v := .int .i64 r_69) rfl ?_
            refine TL.assign rfl rfl (v := .int .i64 r_68) rfl ?_
            refine TL.assign rfl rfl (v := .int .i64 r_69) rfl ?_
            refine TL.done ?_
            refine TC.seq ?_
            refine TC.region ?_
            refine TL.move rfl rfl (v := SV.v s17) rfl ?_
            refine TL.call (R := G.spec_CountVertices.R) Try.call65 rfl rfl rfl (fun w hS => G.spec_CountVertices.calls w s17 ss16 r_67 ((RdM.mat 0 rfl) w hS)) ?_
            rintro ⟨r_70, r_71⟩ _ _ ⟨rfl, rfl⟩
            refine TL.move rfl rfl (v := .tuple #[.int .i64 r_70, .int .i64 r_71]) rfl ?_
            refine TL.extract rfl rfl rfl (v := .int .i64 r_70) rfl ?_
            refine TL.extract rfl rfl rfl (v := .int .i64 r_71) rfl ?_
            refine TL.assign rfl rfl (v := .int .i64 r_70) rfl ?_
            refine TL.assign rfl rfl (v := .int .i64 r_71) rfl ?_
            refine TL.done ?_
            refine TC.seq ?_
            refine TC.region ?_
            refine TL.move rfl rfl (v := SV.v s1) rfl ?_
            refine TL.call (R := G.spec_DrawIsOriented.R) Try.call66 rfl rfl rfl (fun w hS => G.spec_DrawIsOriented.calls w s1 x1 ((Rd.old h1) w hS)) ?_
            rintro r_72 _ _ ⟨s18, ss17, rfl, rfl⟩
            refine TL.assign rfl rfl (v := SV.v s18) rfl ?_
            refine TL.done ?_
            refine TC.seq ?_
            refine TC.region ?_
            refine TL.move rfl rfl (v := SV.v s18) rfl ?_
            refine TL.call (R := G.impl_IsOriented.R) Try.call47 rfl rfl rfl (fun w hS => G.impl_IsOriented.calls w s18 ss17 r_72 ((RdM.mat 0 rfl) w hS)) ?_
            rintro ⟨r_73, r_74⟩ _ _ ⟨rfl, rfl⟩
            refine TL.move rfl rfl (v := .tuple #[.bool r_73, .int .i64 r_74]) rfl ?_
            refine TL.extract rfl rfl rfl (v := .bool r_73) rfl ?_
            refine TL.extract rfl rfl rfl (v := .int .i64 r_74) rfl ?_
            refine TL.assign rfl rfl (v := .bool r_73) rfl ?_
            refine TL.assign rfl rfl (v := .int .i64 r_74) rfl ?_
            refine TL.done ?_
            refine TC.seq ?_
            refine TC.region ?_
            refine TL.move rfl rfl (v := SV.v s18) rfl ?_
            refine TL.call (R := G.spec_IsOriented.R) Try.call67 rfl rfl rfl (fun w hS => G.spec_IsOriented.calls w s18 ss17 r_72 ((RdM.mat 0 rfl) w hS)) ?_
            rintro ⟨r_75, r_76⟩ _ _ ⟨rfl, rfl⟩
            refine TL.move rfl rfl (v := .tuple #[.bool r_75, .int .i64 r_76]) rfl ?_
            refine TL.extract rfl rfl rfl (v := .bool r_75) rfl ?_
            refine TL.extract rfl rfl rfl (v := .int .i64 r_76) rfl ?_
            refine TL.assign rfl rfl (v := .bool r_75) rfl ?_
            refine TL.assign rfl rfl (v := .int .i64 r_76) rfl ?_
            refine TL.done ?_
            refine TC.seq ?_
            refine TC.region ?_
            refine TL.move rfl rfl (v := .int .i64 r_49) rfl ?_
            refine TL.move rfl rfl (v := .int .i64 r_51) rfl ?_
            refine TL.bin .i64 r_49 r_51 rfl rfl rfl rfl (v := .bool (r_49 == r_51)) rfl ?_
            refine TL.move rfl rfl (v := .bool (r_49 == r_51)) rfl ?_
            refine TL.cutU 4 [(367, .bool ((r_49 == r_51) && (r_48 == r_50))), (0, SV.v s1), (288, SV.v s1), (289, SV.v s12), (42, SV.v s12), (291, SV.v s12), (292, .tuple #[.int .i64 r_48, .int .i64 r_49]), (290, .tuple #[.int .i64 r_48, .int .i64 r_49]), (293, .int .i64 r_48), (294, .int .i64 r_49), (43, .int .i64 r_48), (44, .int .i64 r_49), (296, SV.v s12), (297, .tuple #[.int .i64 r_50, .int .i64 r_51]), (295, .tuple #[.int .i64 r_50, .int .i64 r_51]), (298, .int .i64 r_50), (299, .int .i64 r_51), (45, .int .i64 r_50), (46, .int .i64 r_51), (300, SV.v s1), (301, SV.v s13), (47, SV.v s13), (303, SV.v s13), (304, .tuple #[.int .i64 r_53, .int .i64 r_54]), (302, .tuple #[.int .i64 r_53, .int .i64 r_54]), (305, .int .i64 r_53), (306, .int .i64 r_54), (48, .int .i64 r_53), (49, .int .i64 r_54), (308, SV.v s13), (309, .tuple #[.int .i64 r_55, .int .i64 r_56]), (307, .tuple #[.int .i64 r_55, .int .i64 r_56]), (310, .int .i64 r_55), (311, .int .i64 r_56), (50, .int .i64 r_55), (51, .int .i64 r_56), (312, SV.v s1), (313, strv r_57), (52, strv r_57), (315, strv r_57), (316, .tuple #[SV.v s14, .int .i64 r_59]), (314, .tuple #[SV.v s14, .int .i64 r_59]), (317, SV.v s14), (318, .int .i64 r_59), (53, SV.v s14), (54, .int .i64 r_59), (320, strv r_57), (321, .tuple #[SV.v s15, .int .i64 r_61]), (319, .tuple #[SV.v s15, .int .i64 r_61]), (322, SV.v s15), (323, .int .i64 r_61), (55, SV.v s15), (56, .int .i64 r_61), (324, SV.v s1), (325, SV.v s16), (57, SV.v s16), (327, SV.v s16), (328, .tuple #[.int .i64 r_63, .int .i64 r_64]), (326, .tuple #[.int .i64 r_63, .int .i64 r_64]), (329, .int .i64 r_63), (330, .int .i64 r_64), (58, .int .i64 r_63), (59, .int .i64 r_64), (332, SV.v s16), (333, .tuple #[.int .i64 r_65, .int .i64 r_66]), (331, .tuple #[.int .i64 r_65, .int .i64 r_66]), (334, .int .i64 r_65), (335, .int .i64 r_66), (60, .int .i64 r_65), (61, .int .i64 r_66), (336, SV.v s1), (337, SV.v s17), (62, SV.v s17), (339, SV.v s17), (340, .tuple #[.int .i64 r_68, .int .i64 r_69]), (338, .tuple #[.int .i64 r_68, .int .i64 r_69]), (341, .int .i64 r_68), (342, .int .i64 r_69), (63, .int .i64 r_68), (64, .int .i64 r_69), (344, SV.v s17), (345, .tuple #[.int .i64 r_70, .int .i64 r_71]), (343, .tuple #[.int .i64 r_70, .int .i64 r_71]), (346, .int .i64 r_70), (347, .int .i64 r_71), (65, .int .i64 r_70), (66, .int .i64 r_71), (348, SV.v s1), (349, SV.v s18), (67, SV.v s18), (351, SV.v s18), (352, .tuple #[.bool r_73, .int .i64 r_74]), (350, .tuple #[.bool r_73, .int .i64 r_74]), (353, .bool r_73), (354, .int .i64 r_74), (68, .bool r_73), (69, .int .i64 r_74), (356, SV.v s18), (357, .tuple #[.bool r_75, .int .i64 r_76]), (355, .tuple #[.bool r_75, .int .i64 r_76]), (358, .bool r_75), (359, .int .i64 r_76), (70, .bool r_75), (71, .int .i64 r_76), (360, .int .i64 r_49), (361, .int .i64 r_51), (362, .bool (r_49 == r_51)), (363, .bool (r_49 == r_51))] [mat Ei 2 22 s18 ss17 r_72, mat Ei 2 22 s17 ss16 r_67, mat Ei 2 22 s16 ss15 r_62, mat Ei 2 22 s15 ss14 r_60, mat Ei 2 22 s14 ss13 r_58, mat Ei 2 22 s13 ss12 r_52, mat Ei 2 22 s12 ss11 r_47] ?_ ?_
            ·refine TL.cases (t := 363) (b := (r_49 == r_51)) rfl (fun c59 => ?_) (fun c60 => ?_)
             ·refine TL.move rfl rfl (v := .int .i64 r_48) rfl ?_
              refine TL.move rfl rfl (v := .int .i64 r_50) rfl ?_
              refine TL.bin .i64 r_48 r_50 rfl rfl rfl rfl (v := .bool (r_48 == r_50)) rfl ?_
              refine TL.pick rfl rfl (b := true) rfl (r := .bool (r_48 == r_50)) rfl ?_
              refine TL.done ?_
              exact TC.nrm () () ⟨(by rw [c59]; rfl), rfl, rfl, rfl, rfl, rfl, rfl, rfl, rfl, rfl, rfl, rfl, rfl, rfl, rfl, rfl, rfl, rfl, rfl, rfl, rfl, rfl, rfl, rfl, rfl, rfl, rfl, rfl, rfl, rfl, rfl, rfl, rfl, rfl, rfl, rfl, rfl, rfl, rfl, rfl, rfl, rfl, rfl, rfl, rfl, rfl, rfl, rfl, rfl, rfl, rfl, rfl, rfl, rfl, rfl, rfl, rfl, rfl, rfl, rfl, rfl, rfl, rfl, rfl, rfl, rfl, rfl, rfl, rfl, rfl, rfl, rfl, rfl, rfl, rfl, rfl, rfl, rfl, rfl, rfl, rfl, rfl, rfl, rfl, rfl, rfl, rfl, rfl, rfl, rfl, rfl, rfl, rfl, rfl, rfl, rfl, rfl, rfl, rfl, rfl, rfl, rfl, rfl, rfl, rfl, rfl, rfl, (by rw [c59]; rfl), trivial⟩ [0, 0, 0, 0, 0, 0, 0] (by kernel_rfl)
             ·refine TL.skip rfl rfl (by decide) ?_
              refine TL.skip rfl rfl (by decide) ?_
              refine TL.skip rfl rfl (by decide) ?_
              refine TL.pick rfl rfl (b := false) rfl (r := .bool false) rfl ?_
              refine TL.done ?_
              exact TC.nrm () () ⟨(by rw [c60]; rfl), rfl, rfl, rfl, rfl, rfl, rfl, rfl, rfl, rfl, rfl, rfl, rfl, rfl, rfl, rfl, rfl, rfl, rfl, rfl, rfl, rfl, rfl, rfl, rfl, rfl, rfl, rfl, rfl, rfl, rfl, rfl, rfl, rfl, rfl, rfl, rfl, rfl, rfl, rfl, rfl, rfl, rfl, rfl, rfl, rfl, rfl, rfl, rfl, rfl, rfl, rfl, rfl, rfl, rfl, rfl, rfl, rfl, rfl, rfl, rfl, rfl, rfl, rfl, rfl, rfl, rfl, rfl, rfl, rfl, rfl, rfl, rfl, rfl, rfl, rfl, rfl, rfl, rfl, rfl, rfl, rfl, rfl, rfl, rfl, rfl, rfl, rfl, rfl, rfl, rfl, rfl, rfl, rfl, rfl, rfl, rfl, rfl, rfl, rfl, rfl, rfl, rfl, rfl, rfl, rfl, rfl, (by rw [c60]; rfl), trivial⟩ [0, 0, 0, 0, 0, 0, 0] (by kernel_rfl)
            ·refine TL.move rfl rfl (v := .bool ((r_49 == r_51) && (r_48 == r_50))) rfl ?_
             refine TL.cutU 4 [(372, .bool (((r_49 == r_51) && (r_48 == r_50)) && (r_54 == r_56))), (0, SV.v s1), (288, SV.v s1), (289, SV.v s12), (42, SV.v s12), (291, SV.v s12), (292, .tuple #[.int .i64 r_48, .int .i64 r_49]), (290, .tuple #[.int .i64 r_48, .int .i64 r_49]), (293, .int .i64 r_48), (294, .int .i64 r_49), (43, .int .i64 r_48), (44, .int .i64 r_49), (296, SV.v s12), (297, .tuple #[.int .i64 r_50, .int .i64 r_51]), (295, .tuple #[.int .i64 r_50, .int .i64 r_51]), (298, .int .i64 r_50), (299, .int .i64 r_51), (45, .int .i64 r_50), (46, .int .i64 r_51), (300, SV.v s1), (301, SV.v s13), (47, SV.v s13), (303, SV.v s13), (304, .tuple #[.int .i64 r_53, .int .i64 r_54]), (302, .tuple #[.int .i64 r_53, .int .i64 r_54]), (305, .int .i64 r_53), (306, .int .i64 r_54), (48, .int .i64 r_53), (49, .int .i64 r_54), (308, SV.v s13), (309, .tuple #[.int .i64 r_55, .int .i64 r_56]), (307, .tuple #[.int .i64 r_55, .int .i64 r_56]), (310, .int .i64 r_55), (311, .int .i64 r_56), (50, .int .i64 r_55), (51, .int .i64 r_56), (312, SV.v s1), (313, strv r_57), (52, strv r_57), (315, strv r_57), (316, .tuple #[SV.v s14, .int .i64 r_59]), (314, .tuple #[SV.v s14, .int .i64 r_59]), (317, SV.v s14), (318, .int .i64 r_59), (53, SV.v s14), (54, .int .i64 r_59), (320, strv r_57), (321, .tuple #[SV.v s15, .int .i64 r_61]), (319, .tuple #[SV.v s15, .int .i64 r_61]), (322, SV.v s15), (323, .int .i64 r_61), (55, SV.v s15), (56, .int .i64 r_61), (324, SV.v s1), (325, SV.v s16), (57, SV.v s16), (327, SV.v s16), (328, .tuple #[.int .i64 r_63, .int .i64 r_64]), (326, .tuple #[.int .i64 r_63, .int .i64 r_64]), (329, .int .i64 r_63), (330, .int .i64 r_64), (58, .int .i64 r_63), (59, .int .i64 r_64), (332, SV.v s16), (333, .tuple #[.int .i64 r_65, .int .i64 r_66]), (331, .tuple #[.int .i64 r_65, .int .i64 r_66]), (334, .int .i64 r_65), (335, .int .i64 r_66), (60, .int .i64 r_65), (61, .int .i64 r_66), (336, SV.v s1), (337, SV.v s17), (62, SV.v s17), (339, SV.v s17), (340, .tuple #[.int .i64 r_68, .int .i64 r_69]), (338, .tuple #[.int .i64 r_68, .int .i64 r_69]), (341, .int .i64 r_68), (342, .int .i64 r_69), (63, .int .i64 r_68), (64, .int .i64 r_69), (344, SV.v s17), (345, .tuple #[.int .i64 r_70, .int .i64 r_71]), (343, .tuple #[.int .i64 r_70, .int .i64 r_71]), (346, .int .i64 r_70), (347, .int .i64 r_71), (65, .int .i64 r_70), (66, .int .i64 r_71), (348, SV.v s1), (349, SV.v s18), (67, SV.v s18), (351, SV.v s18), (352, .tuple #[.bool r_73, .int .i64 r_74]), (350, .tuple #[.bool r_73, .int .i64 r_74]), (353, .bool r_73), (354, .int .i64 r_74), (68, .bool r_73), (69, .int .i64 r_74), (356, SV.v s18), (357, .tuple #[.bool r_75, .int .i64 r_76]), (355, .tuple #[.bool r_75, .int .i64 r_76]), (358, .bool r_75), (359, .int .i64 r_76), (70, .bool r_75), (71, .int .i64 r_76), (360, .int .i64 r_49), (361, .int .i64 r_51), (362, .bool (r_49 == r_51)), (363, .bool (r_49 == r_51)), (367, .bool ((r_49 == r_51) && (r_48 == r_50))), (368, .bool ((r_49 == r_51) && (r_48 == r_50)))] [mat Ei 2 22 s18 ss17 r_72, mat Ei 2 22 s17 ss16 r_67, mat Ei 2 22 s16 ss15 r_62, mat Ei 2 22 s15 ss14 r_60, mat Ei 2 22 s14 ss13 r_58, mat Ei 2 22 s13 ss12 r_52, mat Ei 2 22 s12 ss11 r_47] ?_ ?_
             ·refine TL.cases (t := 368) (b := ((r_49 == r_51) && (r_48 == r_50))) rfl (fun c61 => ?_) (fun c62 => ?_)
              ·refine TL.move rfl rfl (v := .int .i64 r_54) rfl ?_
               refine TL.move rfl rfl (v := .int .i64 r_56) rfl ?_
               refine TL.bin .i64 r_54 r_56 rfl rfl rfl rfl (v := .bool (r_54 == r_56)) rfl ?_
               refine TL.pick rfl rfl (b := true) rfl (r := .bool (r_54 == r_56)) rfl ?_
               refine TL.done ?_
               exact TC.nrm () () ⟨(by rw [c61]; rfl), rfl, rfl, rfl, rfl, rfl, rfl, rfl, rfl, rfl, rfl, rfl, rfl, rfl, rfl, rfl, rfl, rfl, rfl, rfl, rfl, rfl, rfl, rfl, rfl, rfl, rfl, rfl, rfl, rfl, rfl, rfl, rfl, rfl, rfl, rfl, rfl, rfl, rfl, rfl, rfl, rfl, rfl, rfl, rfl, rfl, rfl, rfl, rfl, rfl, rfl, rfl, rfl, rfl, rfl, rfl, rfl, rfl, rfl, rfl, rfl, rfl, rfl, rfl, rfl, rfl, rfl, rfl, rfl, rfl, rfl, rfl, rfl, rfl, rfl, rfl, rfl, rfl, rfl, rfl, rfl, rfl, rfl, rfl, rfl, rfl, rfl, rfl, rfl, rfl, rfl, rfl, rfl, rfl, rfl, rfl, rfl, rfl, rfl, rfl, rfl, rfl, rfl, rfl, rfl, rfl, rfl, rfl, rfl, (by rw [c61]; rfl), trivial⟩ [0, 0, 0, 0, 0, 0, 0] (by kernel_rfl)
              ·refine TL.skip rfl rfl (by decide) ?_
               refine TL.skip rfl rfl (by decide) ?_
               refine TL.skip rfl rfl (by decide) ?_
               refine TL.pick rfl rfl (b := false) rfl (r := .bool false) rfl ?_
               refine TL.done ?_
               exact TC.nrm () () ⟨(by rw [c62]; rfl), rfl, rfl, rfl, rfl, rfl, rfl, rfl, rfl, rfl, rfl, rfl, rfl, rfl, rfl, rfl, rfl, rfl, rfl, rfl, rfl, rfl, rfl, rfl, rfl, rfl, rfl, rfl, rfl, rfl, rfl, rfl, rfl, rfl, rfl, rfl, rfl, rfl, rfl, rfl, rfl, rfl, rfl, rfl, rfl, rfl, rfl, rfl, rfl, rfl, rfl, rfl, rfl, rfl, rfl, rfl, rfl, rfl, rfl, rfl, rfl, rfl, rfl, rfl, rfl, rfl, rfl, rfl, rfl, rfl, rfl, rfl, rfl, rfl, rfl, rfl, rfl, rfl, rfl, rfl, rfl, rfl, rfl, rfl, rfl, rfl, rfl, rfl, rfl, rfl, rfl, rfl, rfl, rfl, rfl, rfl, rfl, rfl, rfl, rfl, rfl, rfl, rfl, rfl, rfl, rfl, rfl, rfl, rfl, (by rw [c62]; rfl), trivial⟩ [0, 0, 0, 0, 0, 0, 0] (by kernel_rfl)
             ·refine TL.move rfl rfl (v := .bool (((r_49 == r_51) && (r_48 == r_50)) && (r_54 == r_56))) rfl ?_
              refine TL.cutU 4 [(377, .bool ((((r_49 == r_51) && (r_48 == r_50)) && (r_54 == r_56)) && (r_53 == r_55))), (0, SV.v s1), (288, SV.v s1), (289, SV.v s12), (42, SV.v s12), (291, SV.v s12), (292, .tuple #[.int .i64 r_48, .int .i64 r_49]), (290, .tuple #[.int .i64 r_48, .int .i64 r_49]), (293, .int .i64 r_48), (294, .int .i64 r_49), (43, .int .i64 r_48), (44, .int .i64 r_49), (296, SV.v s12), (297, .tuple #[.int .i64 r_50, .int .i64 r_51]), (295, .tuple #[.int .i64 r_50, .int .i64 r_51]), (298, .int .i64 r_50), (299, .int .i64 r_51), (45, .int .i64 r_50), (46, .int .i64 r_51), (300, SV.v s1), (301, SV.v s13), (47, SV.v s13), (303, SV.v s13), (304, .tuple #[.int .i64 r_53, .int .i64 r_54]), (302, .tuple #[.int .i64 r_53, .int .i64 r_54]), (305, .int .i64 r_53), (306, .int .i64 r_54), (48, .int .i64 r_53), (49, .int .i64 r_54), (308, SV.v s13), (309, .tuple #[.int .i64 r_55, .int .i64 r_56]), (307, .tuple #[.int .i64 r_55, .int .i64 r_56]), (310, .int .i64 r_55), (311, .int .i64 r_56), (50, .int .i64 r_55), (51, .int .i64 r_56), (312, SV.v s1), (313, strv r_57), (52, strv r_57), (315, strv r_57), (316, .tuple #[SV.v s14, .int .i64 r_59]), (314, .tuple #[SV.v s14, .int .i64 r_59]), (317, SV.v s14), (318, .int .i64 r_59), (53, SV.v s14), (54, .int .i64 r_59), (320, strv r_57), (321, .tuple #[SV.v s15, .int .i64 r_61]), (319, .tuple #[SV.v s15, .int .i64 r_61]), (322, SV.v s15), (323, .int .i64 r_61), (55, SV.v s15), (56, .int .i64 r_61), (324, SV.v s1), (325, SV.v s16), (57, SV.v s16), (327, SV.v s16), (328, .tuple #[.int .i64 r_63, .int .i64 r_64]), (326, .tuple #[.int .i64 r_63, .int .i64 r_64]), (329, .int .i64 r_63), (330, .int .i64 r_64), (58, .int .i64 r_63), (59, .int .i64 r_64), (332, SV.v s16), (333, .tuple #[.int .i64 r_65, .int .i64 r_66]), (331, .tuple #[.int .i64 r_65, .int .i64 r_66]), (334, .int .i64 r_65), (335, .int .i64 r_66), (60, .int .i64 r_65), (61, .int .i64 r_66), (336, SV.v s1), (337, SV.v s17), (62, SV.v s17), (339, SV.v s17), (340, .tuple #[.int .i64 r_68, .int .i64 r_69]), (338, .tuple #[.int .i64 r_68, .int .i64 r_69]), (341, .int .i64 r_68), (342, .int .i64 r_69), (63, .int .i64 r_68), (64, .int .i64 r_69), (344, SV.v s17), (345, .tuple #[.int .i64 r_70, .int .i64 r_71]), (343, .tuple #[.int .i64 r_70, .int .i64 r_71]), (346, .int .i64 r_70), (347, .int .i64 r_71), (65, .int .i64 r_70), (66, .int .i64 r_71), (348, SV.v s1), (349, SV.v s18), (67, SV.v s18), (351, SV.v s18), (352, .tuple #[.bool r_73, .int .i64 r_74]), (350, .tuple #[.bool r_73, .int .i64 r_74]), (353, .bool r_73), (354, .int .i64 r_74), (68, .bool r_73), (69, .int .i64 r_74), (356, SV.v s18), (357, .tuple #[.bool r_75, .int .i64 r_76]), (355, .tuple #[.bool r_75, .int .i64 r_76]), (358, .bool r_75), (359, .int .i64 r_76), (70, .bool r_75), (71, .int .i64 r_76), (360, .int .i64 r_49), (361, .int .i64 r_51), (362, .bool (r_49 == r_51)), (363, .bool (r_49 == r_51)), (367, .bool ((r_49 == r_51) && (r_48 == r_50))), (368, .bool ((r_49 == r_51) && (r_48 == r_50))), (372, .bool (((r_49 == r_51) && (r_48 == r_50)) && (r_54 == r_56))), (373, .bool (((r_49 == r_51) && (r_48 == r_50)) && (r_54 == r_56)))] [mat Ei 2 22 s18 ss17 r_72, mat Ei 2 22 s17 ss16 r_67, mat Ei 2 22 s16 ss15 r_62, mat Ei 2 22 s15 ss14 r_60, mat Ei 2 22 s14 ss13 r_58, mat Ei 2 22 s13 ss12 r_52, mat Ei 2 22 s12 ss11 r_47] ?_ ?_
              ·refine TL.cases (t := 373) (b := (((r_49 == r_51) && (r_48 == r_50)) && (r_54 == r_56))) rfl (fun c63 => ?_) (fun c64 => ?_)
               ·refine TL.move rfl rfl (v := .int .i64 r_53) rfl ?_
                refine TL.move rfl rfl (v := .int .i64 r_55) rfl ?_
                refine TL.bin .i64 r_53 r_55 rfl rfl rfl rfl (v := .bool (r_53 == r_55)) rfl ?_
                refine TL.pick rfl rfl (b := true) rfl (r := .bool (r_53 == r_55)) rfl ?_
                refine TL.done ?_
                exact TC.nrm () () ⟨(by rw [c63]; rfl), rfl, rfl, rfl, rfl, rfl, rfl, rfl, rfl, rfl, rfl, rfl, rfl, rfl, rfl, rfl, rfl, rfl, rfl, rfl, rfl, rfl, rfl, rfl, rfl, rfl, rfl, rfl, rfl, rfl, rfl, rfl, rfl, rfl, rfl, rfl, rfl, rfl, rfl, rfl, rfl, rfl, rfl, rfl, rfl, rfl, rfl, rfl, rfl, rfl, rfl, rfl, rfl, rfl, rfl, rfl, rfl, rfl, rfl, rfl, rfl, rfl, rfl, rfl, rfl, rfl, rfl, rfl, rfl, rfl, rfl, rfl, rfl, rfl, rfl, rfl, rfl, rfl, rfl, rfl, rfl, rfl, rfl, rfl, rfl, rfl, rfl, rfl, rfl, rfl, rfl, rfl, rfl, rfl, rfl, rfl, rfl, rfl, rfl, rfl, rfl, rfl, rfl, rfl, rfl, rfl, rfl, rfl, rfl, rfl, rfl, (by rw [c63]; rfl), trivial⟩ [0, 0, 0, 0, 0, 0, 0] (by kernel_rfl)
               ·refine TL.skip rfl rfl (by decide) ?_
                refine TL.skip rfl rfl (by decide) ?_
                refine TL.skip rfl rfl (by decide) ?_
                refine TL.pick rfl rfl (b := false) rfl (r := .bool false) rfl ?_
                refine TL.done ?_
                exact TC.nrm () () ⟨(by rw [c64]; rfl), rfl, rfl, rfl, rfl, rfl, rfl, rfl, rfl, rfl, rfl, rfl, rfl, rfl, rfl, rfl, rfl, rfl, rfl, rfl, rfl, rfl, rfl, rfl, rfl, rfl, rfl, rfl, rfl, rfl, rfl, rfl, rfl, rfl, rfl, rfl, rfl, rfl, rfl, rfl, rfl, rfl, rfl, rfl, rfl, rfl, rfl, rfl, rfl, rfl, rfl, rfl, rfl, rfl, rfl, rfl, rfl, rfl, rfl, rfl, rfl, rfl, rfl, rfl, rfl, rfl, rfl, rfl, rfl, rfl, rfl, rfl, rfl, rfl, rfl, rfl, rfl, rfl, rfl, rfl, rfl, rfl, rfl, rfl, rfl, rfl, rfl, rfl, rfl, rfl, rfl, rfl, rfl, rfl, rfl, rfl, rfl, rfl, rfl, rfl, rfl, rfl, rfl, rfl, rfl, rfl, rfl, rfl, rfl, rfl, rfl, (by rw [c64]; rfl), trivial⟩ [0, 0, 0, 0, 0, 0, 0] (by kernel_rfl)
              ·refine TL.move rfl rfl (v := .bool ((((r_49 == r_51) && (r_48 == r_50)) && (r_54 == r_56)) && (r_53 == r_55))) rfl ?_
               refine TL.cutU 4 [(382, .bool (((((r_49 == r_51) && (r_48 == r_50)) && (r_54 == r_56)) && (r_53 == r_55)) && (r_59 == r_61))), (0, SV.v s1), (288, SV.v s1), (289, SV.v s12), (42, SV.v s12), (291, SV.v s12), (292, .tuple #[.int .i64 r_48, .int .i64 r_49]), (290, .tuple #[.int .i64 r_48, .int .i64 r_49]), (293, .int .i64 r_48), (294, .int .i64 r_49), (43, .int .i64 r_48), (44, .int .i64 r_49), (296, SV.v s12), (297, .tuple #[.int .i64 r_50, .int .i64 r_51]), (295, .tuple #[.int .i64 r_50, .int .i64 r_51]), (298, .int .i64 r_50), (299, .int .i64 r_51), (45, .int .i64 r_50), (46, .int .i64 r_51), (300, SV.v s1), (301, SV.v s13), (47, SV.v s13), (303, SV.v s13), (304, .tuple #[.int .i64 r_53, .int .i64 r_54]), (302, .tuple #[.int .i64 r_53, .int .i64 r_54]), (305, .int .i64 r_53), (306, .int .i64 r_54), (48, .int .i64 r_53), (49, .int .i64 r_54), (308, SV.v s13), (309, .tuple #[.int .i64 r_55, .int .i64 r_56]), (307, .tuple #[.int .i64 r_55, .int .i64 r_56]), (310, .int .i64 r_55), (311, .int .i64 r_56), (50, .int .i64 r_55), (51, .int .i64 r_56), (312, SV.v s1), (313, strv r_57), (52, strv r_57), (315, strv r_57), (316, .tuple #[SV.v s14, .int .i64 r_59]), (314, .tuple #[SV.v s14, .int .i64 r_59]), (317, SV.v s14), (318, .int .i64 r_59), (53, SV.v s14), (54, .int .i64 r_59), (320, strv r_57), (321, .tuple #[SV.v s15, .int .i64 r_61]), (319, .tuple #[SV.v s15, .int .i64 r_61]), (322, SV.v s15), (323, .int .i64 r_61), (55, SV.v s15), (56, .int .i64 r_61), (324, SV.v s1), (325, SV.v s16), (57, SV.v s16), (327, SV.v s16), (328, .tuple #[.int .i64 r_63, .int .i64 r_64]), (326, .tuple #[.int .i64 r_63, .int .i64 r_64]), (329, .int .i64 r_63), (330, .int .i64 r_64), (58, .int .i64 r_63), (59, .int .i64 r_64), (332, SV.v s16), (333, .tuple #[.int .i64 r_65, .int .i64 r_66]), (331, .tuple #[.int .i64 r_65, .int .i64 r_66]), (334, .int .i64 r_65), (335, .int .i64 r_66), (60, .int .i64 r_65), (61, .int .i64 r_66), (336, SV.v s1), (337, SV.v s17), (62, SV.v s17), (339, SV.v s17), (340, .tuple #[.int .i64 r_68, .int .i64 r_69]), (338, .tuple #[.int .i64 r_68, .int .i64 r_69]), (341, .int .i64 r_68), (342, .int .i64 r_69), (63, .int .i64 r_68), (64, .int .i64 r_69), (344, SV.v s17), (345, .tuple #[.int .i64 r_70, .int .i64 r_71]), (343, .tuple #[.int .i64 r_70, .int .i64 r_71]), (346, .int .i64 r_70), (347, .int .i64 r_71), (65, .int .i64 r_70), (66, .int .i64 r_71), (348, SV.v s1), (349, SV.v s18), (67, SV.v s18), (351, SV.v s18), (352, .tuple #[.bool r_73, .int .i64 r_74]), (350, .tuple #[.bool r_73, .int .i64 r_74]), (353, .bool r_73), (354, .int .i64 r_74), (68, .bool r_73), (69, .int .i64 r_74), (356, SV.v s18), (357, .tuple #[.bool r_75, .int .i64 r_76]), (355, .tuple #[.bool r_75, .int .i64 r_76]), (358, .bool r_75), (359, .int .i64 r_76), (70, .bool r_75), (71, .int .i64 r_76), (360, .int .i64 r_49), (361, .int .i64 r_51), (362, .bool (r_49 == r_51)), (363, .bool (r_49 == r_51)), (367, .bool ((r_49 == r_51) && (r_48 == r_50))), (368, .bool ((r_49 == r_51) && (r_48 == r_50))), (372, .bool (((r_49 == r_51) && (r_48 == r_50)) && (r_54 == r_56))), (373, .bool (((r_49 == r_51) && (r_48 == r_50)) && (r_54 == r_56))), (377, .bool ((((r_49 == r_51) && (r_48 == r_50)) && (r_54 == r_56)) && (r_53 == r_55))), (378, .bool ((((r_49 == r_51) && (r_48 == r_50)) && (r_54 == r_56)) && (r_53 == r_55)))] [mat Ei 2 22 s18 ss17 r_72, mat Ei 2 22 s17 ss16 r_67, mat Ei 2 22 s16 ss15 r_62, mat Ei 2 22 s15 ss14 r_60, mat Ei 2 22 s14 ss13 r_58, mat Ei 2 22 s13 ss12 r_52, mat Ei 2 22 s12 ss11 r_47] ?_ ?_
               ·refine TL.cases (t := 378) (b := ((((r_49 == r_51) && (r_48 == r_50)) && (r_54 == r_56)) && (r_53 == r_55))) rfl (fun c65 => ?_) (fun c66 => ?_)
                ·refine TL.move rfl rfl (v := .int .i64 r_59) rfl ?_
                 refine TL.move rfl rfl (v := .int .i64 r_61) rfl ?_
                 refine TL.bin .i64 r_59 r_61 rfl rfl rfl rfl (v := .bool (r_59 == r_61)) rfl ?_
                 refine TL.pick rfl rfl (b := true) rfl (r := .bool (r_59 == r_61)) rfl ?_
                 refine TL.done ?_
                 exact TC.nrm () () ⟨(by rw [c65]; rfl), rfl, rfl, rfl, rfl, rfl, rfl, rfl, rfl, rfl, rfl, rfl, rfl, rfl, rfl, rfl, rfl, rfl, rfl, rfl, rfl, rfl, rfl, rfl, rfl, rfl, rfl, rfl, rfl, rfl, rfl, rfl, rfl, rfl, rfl, rfl, rfl, rfl, rfl, rfl, rfl, rfl, rfl, rfl, rfl, rfl, rfl, rfl, rfl, rfl, rfl, rfl, rfl, rfl, rfl, rfl, rfl, rfl, rfl, rfl, rfl, rfl, rfl, rfl, rfl, rfl, rfl, rfl, rfl, rfl, rfl, rfl, rfl, rfl, rfl, rfl, rfl, rfl, rfl, rfl, rfl, rfl, rfl, rfl, rfl, rfl, rfl, rfl, rfl, rfl, rfl, rfl, rfl, rfl, rfl, rfl, rfl, rfl, rfl, rfl, rfl, rfl, rfl, rfl, rfl, rfl, rfl, rfl, rfl, rfl, rfl, rfl, rfl, (by rw [c65]; rfl), trivial⟩ [0, 0, 0, 0, 0, 0, 0] (by kernel_rfl)
                ·refine TL.skip rfl rfl (by decide) ?_
                 refine TL.skip rfl rfl (by decide) ?_
                 refine TL.skip rfl rfl (by decide) ?_
                 refine TL.pick rfl rfl (b := false) rfl (r := .bool false) rfl ?_
                 refine TL.done ?_
                 exact TC.nrm () () ⟨(by rw [c66]; rfl), rfl, rfl, rfl, rfl, rfl, rfl, rfl, rfl, rfl, rfl, rfl, rfl, rfl, rfl, rfl, rfl, rfl, rfl, rfl, rfl, rfl, rfl, rfl, rfl, rfl, rfl, rfl, rfl, rfl, rfl, rfl, rfl, rfl, rfl, rfl, rfl, rfl, rfl, rfl, rfl, rfl, rfl, rfl, rfl, rfl, rfl, rfl, rfl, rfl, rfl, rfl, rfl, rfl, rfl, rfl, rfl, rfl, rfl, rfl, rfl, rfl, rfl, rfl, rfl, rfl, rfl, rfl, rfl, rfl, rfl, rfl, rfl, rfl, rfl, rfl, rfl, rfl, rfl, rfl, rfl, rfl, rfl, rfl, rfl, rfl, rfl, rfl, rfl, rfl, rfl, rfl, rfl, rfl, rfl, rfl, rfl, rfl, rfl, rfl, rfl, rfl, rfl, rfl, rfl, rfl, rfl, rfl, rfl, rfl, rfl, rfl, rfl, (by rw [c66]; rfl), trivial⟩ [0, 0, 0, 0, 0, 0, 0] (by kernel_rfl)
               ·refine TL.move rfl rfl (v := .bool (((((r_49 == r_51) && (r_48 == r_50)) && (r_54 == r_56)) && (r_53 == r_55)) && (r_59 == r_61))) rfl ?_
                refine TL.cutJ (σ := Bool) (γ := Unit) (Γ' := fun b_6 _ => [(387, .bool b_6), (0, SV.v s1), (288, SV.v s1), (289, SV.v s12), (42, SV.v s12), (291, SV.v s12), (292, .tuple #[.int .i64 r_48, .int .i64 r_49]), (290, .tuple #[.int .i64 r_48, .int .i64 r_49]), (293, .int .i64 r_48), (294, .int .i64 r_49), (43, .int .i64 r_48), (44, .int .i64 r_49), (296, SV.v s12), (297, .tuple #[.int .i64 r_50, .int .i64 r_51]), (295, .tuple #[.int .i64 r_50, .int .i64 r_51]), (298, .int .i64 r_50), (299, .int .i64 r_51), (45, .int .i64 r_50), (46, .int .i64 r_51), (300, SV.v s1), (301, SV.v s13), (47, SV.v s13), (303, SV.v s13), (304, .tuple #[.int .i64 r_53, .int .i64 r_54]), (302, .tuple #[.int .i64 r_53, .int .i64 r_54]), (305, .int .i64 r_53), (306, .int .i64 r_54), (48, .int .i64 r_53), (49, .int .i64 r_54), (308, SV.v s13), (309, .tuple #[.int .i64 r_55, .int .i64 r_56]), (307, .tuple #[.int .i64 r_55, .int .i64 r_56]), (310, .int .i64 r_55), (311, .int .i64 r_56), (50, .int .i64 r_55), (51, .int .i64 r_56), (312, SV.v s1), (313, strv r_57), (52, strv r_57), (315, strv r_57), (316, .tuple #[SV.v s14, .int .i64 r_59]), (314, .tuple #[SV.v s14, .int .i64 r_59]), (317, SV.v s14), (318, .int .i64 r_59), (53, SV.v s14), (54, .int .i64 r_59), (320, strv r_57), (321, .tuple #[SV.v s15, .int .i64 r_61]), (319, .tuple #[SV.v s15, .int .i64 r_61]), (322, SV.v s15), (323, .int .i64 r_61), (55, SV.v s15), (56, .int .i64 r_61), (324, SV.v s1), (325, SV.v s16), (57, SV.v s16), (327, SV.v s16), (328, .tuple #[.int .i64 r_63, .int .i64 r_64]), (326, .tuple #[.int .i64 r_63, .int .i64 r_64]), (329, .int .i64 r_63), (330, .int .i64 r_64), (58, .int .i64 r_63), (59, .int .i64 r_64), (332, SV.v s16), (333, .tuple #[.int .i64 r_65, .int .i64 r_66]), (331, .tuple #[.int .i64 r_65, .int .i64 r_66]), (334, .int .i64 r_65), (335, .int .i64 r_66), (60, .int .i64 r_65), (61, .int .i64 r_66), (336, SV.v s1), (337, SV.v s17), (62, SV.v s17), (339, SV.v s17), (340, .tuple #[.int .i64 r_68, .int .i64 r_69]), (338, .tuple #[.int .i64 r_68, .int .i64 r_69]), (341, .int .i64 r_68), (342, .int .i64 r_69), (63, .int .i64 r_68), (64, .int .i64 r_69), (344, SV.v s17), (345, .tuple #[.int .i64 r_70, .int .i64 r_71]), (343, .tuple #[.int .i64 r_70, .int .i64 r_71]), (346, .int .i64 r_70), (347, .int .i64 r_71), (65, .int .i64 r_70), (66, .int .i64 r_71), (348, SV.v s1), (349, SV.v s18), (67, SV.v s18), (351, SV.v s18), (352, .tuple #[.bool r_73, .int .i64 r_74]), (350, .tuple #[.bool r_73, .int .i64 r_74]), (353, .bool r_73), (354, .int .i64 r_74), (68, .bool r_73), (69, .int .i64 r_74), (356, SV.v s18), (357, .tuple #[.bool r_75, .int .i64 r_76]), (355, .tuple #[.bool r_75, .int .i64 r_76]), (358, .bool r_75), (359, .int .i64 r_76), (70, .bool r_75), (71, .int .i64 r_76), (360, .int .i64 r_49), (361, .int .i64 r_51), (362, .bool (r_49 == r_51)), (363, .bool (r_49 == r_51)), (367, .bool ((r_49 == r_51) && (r_48 == r_50))), (368, .bool ((r_49 == r_51) && (r_48 == r_50))), (372, .bool (((r_49 == r_51) && (r_48 == r_50)) && (r_54 == r_56))), (373, .bool (((r_49 == r_51) && (r_48 == r_50)) && (r_54 == r_56))), (377, .bool ((((r_49 == r_51) && (r_48 == r_50)) && (r_54 == r_56)) && (r_53 == r_55))), (378, .bool ((((r_49 == r_51) && (r_48 == r_50)) && (r_54 == r_56)) && (r_53 == r_55))), (382, .bool (((((r_49 == r_51) && (r_48 == r_50)) && (r_54 == r_56)) && (r_53 == r_55)) && (r_59 == r_61))), (383, .bool (((((r_49 == r_51) && (r_48 == r_50)) && (r_54 == r_56)) && (r_53 == r_55)) && (r_59 == r_61)))]) (L' := fun _ _ => [mat Ei 2 22 s18 ss17 r_72, mat Ei 2 22 s17 ss16 r_67, mat Ei 2 22 s16 ss15 r_62, mat Ei 2 22 s15 ss14 r_60, mat Ei 2 22 s14 ss13 r_58, mat Ei 2 22 s13 ss12 r_52, mat Ei 2 22 s12 ss11 r_47]) 4 ?_ ?_
                ·refine TL.ifb (t := 383) (b := (((((r_49 == r_51) && (r_48 == r_50)) && (r_54 == r_56)) && (r_53 == r_55)) && (r_59 == r_61))) rfl (fun c67 => ?_) (fun c68 => ?_)
                 ·refine TL.move rfl rfl (v := SV.v s14) rfl ?_
                  refine TL.move rfl rfl (v := SV.v s15) rfl ?_
                  refine TL.call (R := G.laws_rows5.R) Try.call43 rfl rfl rfl (fun w hS => G.laws_rows5.calls w s14 ss13 r_58 s15 ss14 r_60 ((RdM.mat 4 rfl) w hS) ((RdM.mat 3 rfl) w hS)) ?_
                  rintro r_77 _ _ ⟨rfl, rfl⟩
                  refine TL.pick rfl rfl (b := true) rfl (r := .bool r_77) rfl ?_
                  refine TL.done ?_
                  exact TC.nrm (r_77) () ⟨rfl, rfl, rfl, rfl, rfl, rfl, rfl, rfl, rfl, rfl, rfl, rfl, rfl, rfl, rfl, rfl, rfl, rfl, rfl, rfl, rfl, rfl, rfl, rfl, rfl, rfl, rfl, rfl, rfl, rfl, rfl, rfl, rfl, rfl, rfl, rfl, rfl, rfl, rfl, rfl, rfl, rfl, rfl, rfl, rfl, rfl, rfl, rfl, rfl, rfl, rfl, rfl, rfl, rfl, rfl, rfl, rfl, rfl, rfl, rfl, rfl, rfl, rfl, rfl, rfl, rfl, rfl, rfl, rfl, rfl, rfl, rfl, rfl, rfl, rfl, rfl, rfl, rfl, rfl, rfl, rfl, rfl, rfl, rfl, rfl, rfl, rfl, rfl, rfl, rfl, rfl, rfl, rfl, rfl, rfl, rfl, rfl, rfl, rfl, rfl, rfl, rfl, rfl, rfl, rfl, rfl, rfl, rfl, rfl, rfl, rfl, rfl, rfl, rfl, rfl, (by rw [c67]; rfl), trivial⟩ [0, 0, 0, 0, 0, 0, 0] (by kernel_rfl)
                 ·refine TL.skip rfl rfl (by decide) ?_
                  refine TL.skip rfl rfl (by decide) ?_
                  refine TL.skip rfl rfl (by decide) ?_
                  refine TL.pick rfl rfl (b := false) rfl (r := .bool false) rfl ?_
                  refine TL.done ?_
                  exact TC.nrm (false) () ⟨rfl, rfl, rfl, rfl, rfl, rfl, rfl, rfl, rfl, rfl, rfl, rfl, rfl, rfl, rfl, rfl, rfl, rfl, rfl, rfl, rfl, rfl, rfl, rfl, rfl, rfl, rfl, rfl, rfl, rfl, rfl, rfl, rfl, rfl, rfl, rfl, rfl, rfl, rfl, rfl, rfl, rfl, rfl, rfl, rfl, rfl, rfl, rfl, rfl, rfl, rfl, rfl, rfl, rfl, rfl, rfl, rfl, rfl, rfl, rfl, rfl, rfl, rfl, rfl, rfl, rfl, rfl, rfl, rfl, rfl, rfl, rfl, rfl, rfl, rfl, rfl, rfl, rfl, rfl, rfl, rfl, rfl, rfl, rfl, rfl, rfl, rfl, rfl, rfl, rfl, rfl, rfl, rfl, rfl, rfl, rfl, rfl, rfl, rfl, rfl, rfl, rfl, rfl, rfl, rfl, rfl, rfl, rfl, rfl, rfl, rfl, rfl, rfl, rfl, rfl, (by rw [c68]; rfl), trivial⟩ [0, 0, 0, 0, 0, 0, 0] (by kernel_rfl)
                ·rintro b_6 _
                 refine TL.move rfl rfl (v := .bool b_6) rfl ?_
                 refine TL.cutU 4 [(392, .bool (b_6 && (r_64 == r_66))), (0, SV.v s1), (288, SV.v s1), (289, SV.v s12), (42, SV.v s12), (291, SV.v s12), (292, .tuple #[.int .i64 r_48, .int .i64 r_49]), (290, .tuple #[.int .i64 r_48, .int .i64 r_49]), (293, .int .i64 r_48), (294, .int .i64 r_49), (43, .int .i64 r_48), (44, .int .i64 r_49), (296, SV.v s12), (297, .tuple #[.int .i64 r_50, .int .i64 r_51]), (295, .tuple #[.int .i64 r_50, .int .i64 r_51]), (298, .int .i64 r_50), (299, .int .i64 r_51), (45, .int .i64 r_50), (46, .int .i64 r_51), (300, SV.v s1), (301, SV.v s13), (47, SV.v s13), (303, SV.v s13), (304, .tuple #[.int .i64 r_53, .int .i64 r_54]), (302, .tuple #[.int .i64 r_53, .int .i64 r_54]), (305, .int .i64 r_53), (306, .int .i64 r_54), (48, .int .i64 r_53), (49, .int .i64 r_54), (308, SV.v s13), (309, .tuple #[.int .i64 r_55, .int .i64 r_56]), (307, .tuple #[.int .i64 r_55, .int .i64 r_56]), (310, .int .i64 r_55), (311, .int .i64 r_56), (50, .int .i64 r_55), (51, .int .i64 r_56), (312, SV.v s1), (313, strv r_57), (52, strv r_57), (315, strv r_57), (316, .tuple #[SV.v s14, .int .i64 r_59]), (314, .tuple #[SV.v s14, .int .i64 r_59]), (317, SV.v s14), (318, .int .i64 r_59), (53, SV.v s14), (54, .int .i64 r_59), (320, strv r_57), (321, .tuple #[SV.v s15, .int .i64 r_61]), (319, .tuple #[SV.v s15, .int .i64 r_61]), (322, SV.v s15), (323, .int .i64 r_61), (55, SV.v s15), (56, .int .i64 r_61), (324, SV.v s1), (325, SV.v s16), (57, SV.v s16), (327, SV.v s16), (328, .tuple #[.int .i64 r_63, .int .i64 r_64]), (326, .tuple #[.int .i64 r_63, .int .i64 r_64]), (329, .int .i64 r_63), (330, .int .i64 r_64), (58, .int .i64 r_63), (59, .int .i64 r_64), (332, SV.v s16), (333, .tuple #[.int .i64 r_65, .int .i64 r_66]), (331, .tuple #[.int .i64 r_65, .int .i64 r_66]), (334, .int .i64 r_65), (335, .int .i64 r_66), (60, .int .i64 r_65), (61, .int .i64 r_66), (336, SV.v s1), (337, SV.v s17), (62, SV.v s17), (339, SV.v s17), (340, .tuple #[.int .i64 r_68, .int .i64 r_69]), (338, .tuple #[.int .i64 r_68, .int .i64 r_69]), (341, .int .i64 r_68), (342, .int .i64 r_69), (63, .int .i64 r_68), (64, .int .i64 r_69), (344, SV.v s17), (345, .tuple #[.int .i64 r_70, .int .i64 r_71]), (343, .tuple #[.int .i64 r_70, .int .i64 r_71]), (346, .int .i64 r_70), (347, .int .i64 r_71), (65, .int .i64 r_70), (66, .int .i64 r_71), (348, SV.v s1), (349, SV.v s18), (67, SV.v s18), (351, SV.v s18), (352, .tuple #[.bool r_73, .int .i64 r_74]), (350, .tuple #[.bool r_73, .int .i64 r_74]), (353, .bool r_73), (354, .int .i64 r_74), (68, .bool r_73), (69, .int .i64 r_74), (356, SV.v s18), (357, .tuple #[.bool r_75, .int .i64 r_76]), (355, .tuple #[.bool r_75, .int .i64 r_76]), (358, .bool r_75), (359, .int .i64 r_76), (70, .bool r_75), (71, .int .i64 r_76), (360, .int .i64 r_49), (361, .int .i64 r_51), (362, .bool (r_49 == r_51)), (363, .bool (r_49 == r_51)), (367, .bool ((r_49 == r_51) && (r_48 == r_50))), (368, .bool ((r_49 == r_51) && (r_48 == r_50))), (372, .bool (((r_49 == r_51) && (r_48 == r_50)) && (r_54 == r_56))), (373, .bool (((r_49 == r_51) && (r_48 == r_50)) && (r_54 == r_56))), (377, .bool ((((r_49 == r_51) && (r_48 == r_50)) && (r_54 == r_56)) && (r_53 == r_55))), (378, .bool ((((r_49 == r_51) && (r_48 == r_50)) && (r_54 == r_56)) && (r_53 == r_55))), (382, .bool (((((r_49 == r_51) && (r_48 == r_50)) && (r_54 == r_56)) && (r_53 == r_55)) && (r_59 == r_61))), (383, .bool (((((r_49 == r_51) && (r_48 == r_50)) && (r_54 == r_56)) && (r_53 == r_55)) && (r_59 == r_61))), (387, .bool b_6), (388, .bool b_6)] [mat Ei 2 22 s18 ss17 r_72, mat Ei 2 22 s17 ss16 r_67, mat Ei 2 22 s16 ss15 r_62, mat Ei 2 22 s15 ss14 r_60, mat Ei 2 22 s14 ss13 r_58, mat Ei 2 22 s13 ss12 r_52, mat Ei 2 22 s12 ss11 r_47] ?_ ?_
                 ·refine TL.cases (t := 388) (b := b_6) rfl (fun c69 => ?_) (fun c70 => ?_)
                  ·refine TL.move rfl rfl (v := .int .i64 r_64) rfl ?_
                   refine TL.move rfl rfl (v := .int .i64 r_66) rfl ?_
                   refine TL.bin .i64 r_64 r_66 rfl rfl rfl rfl (v := .bool (r_64 == r_66)) rfl ?_
                   refine TL.pick rfl rfl (b := true) rfl (r := .bool (r_64 == r_66)) rfl ?_
                   refine TL.done ?_
                   exact TC.nrm () () ⟨(by rw [c69]; rfl), rfl, rfl, rfl, rfl, rfl, rfl, rfl, rfl, rfl, rfl, rfl, rfl, rfl, rfl, rfl, rfl, rfl, rfl, rfl, rfl, rfl, rfl, rfl, rfl, rfl, rfl, rfl, rfl, rfl, rfl, rfl, rfl, rfl, rfl, rfl, rfl, rfl, rfl, rfl, rfl, rfl, rfl, rfl, rfl, rfl, rfl, rfl, rfl, rfl, rfl, rfl, rfl, rfl, rfl, rfl, rfl, rfl, rfl, rfl, rfl, rfl, rfl, rfl, rfl, rfl, rfl, rfl, rfl, rfl, rfl, rfl, rfl, rfl, rfl, rfl, rfl, rfl, rfl, rfl, rfl, rfl, rfl, rfl, rfl, rfl, rfl, rfl, rfl, rfl, rfl, rfl, rfl, rfl, rfl, rfl, rfl, rfl, rfl, rfl, rfl, rfl, rfl, rfl, rfl, rfl, rfl, rfl, rfl, rfl, rfl, rfl, rfl, rfl, rfl, rfl, rfl, (by rw [c69]; rfl), trivial⟩ [0, 0, 0, 0, 0, 0, 0] (by kernel_rfl)
                  ·refine TL.skip rfl rfl (by decide) ?_
                   refine TL.skip rfl rfl (by decide) ?_
                   refine TL.skip rfl rfl (by decide) ?_
                   refine TL.pick rfl rfl (b := false) rfl (r := .bool false) rfl ?_
                   refine TL.done ?_
                   exact TC.nrm () () ⟨(by rw [c70]; rfl), rfl, rfl, rfl, rfl, rfl, rfl, rfl, rfl, rfl, rfl, rfl, rfl, rfl, rfl, rfl, rfl, rfl, rfl, rfl, rfl, rfl, rfl, rfl, rfl, rfl, rfl, rfl, rfl, rfl, rfl, rfl, rfl, rfl, rfl, rfl, rfl, rfl, rfl, rfl, rfl, rfl, rfl, rfl, rfl, rfl, rfl, rfl, rfl, rfl, rfl, rfl, rfl, rfl, rfl, rfl, rfl, rfl, rfl, rfl, rfl, rfl, rfl, rfl, rfl, rfl, rfl, rfl, rfl, rfl, rfl, rfl, rfl, rfl, rfl, rfl, rfl, rfl, rfl, rfl, rfl, rfl, rfl, rfl, rfl, rfl, rfl, rfl, rfl, rfl, rfl, rfl, rfl, rfl, rfl, rfl, rfl, rfl, rfl, rfl, rfl, rfl, rfl, rfl, rfl, rfl, rfl, rfl, rfl, rfl, rfl, rfl, rfl, rfl, rfl, rfl, rfl, (by rw [c70]; rfl), trivial⟩ [0, 0, 0, 0, 0, 0, 0] (by kernel_rfl)
                 ·refine TL.move rfl rfl (v := .bool (b_6 && (r_64 == r_66))) rfl ?_
                  refine TL.cutU 4 [(397, .bool ((b_6 && (r_64 == r_66)) && (r_63 == r_65))), (0, SV.v s1), (288, SV.v s1), (289, SV.v s12), (42, SV.v s12), (291, SV.v s12), (292, .tuple #[.int .i64 r_48, .int .i64 r_49]), (290, .tuple #[.int .i64 r_48, .int .i64 r_49]), (293, .int .i64 r_48), (294, .int .i64 r_49), (43, .int .i64 r_48), (44, .int .i64 r_49), (296, SV.v s12), (297, .tuple #[.int .i64 r_50, .int .i64 r_51]), (295, .tuple #[.int .i64 r_50, .int .i64 r_51]), (298, .int .i64 r_50), (299, .int .i64 r_51), (45, .int .i64 r_50), (46, .int .i64 r_51), (300, SV.v s1), (301, SV.v s13), (47, SV.v s13), (303, SV.v s13), (304, .tuple #[.int .i64 r_53, .int .i64 r_54]), (302, .tuple #[.int .i64 r_53, .int .i64 r_54]), (305, .int .i64 r_53), (306, .int .i64 r_54), (48, .int .i64 r_53), (49, .int .i64 r_54), (308, SV.v s13), (309, .tuple #[.int .i64 r_55, .int .i64 r_56]), (307, .tuple #[.int .i64 r_55, .int .i64 r_56]), (310, .int .i64 r_55), (311, .int .i64 r_56), (50, .int .i64 r_55), (51, .int .i64 r_56), (312, SV.v s1), (313, strv r_57), (52, strv r_57), (315, strv r_57), (316, .tuple #[SV.v s14, .int .i64 r_59]), (314, .tuple #[SV.v s14, .int .i64 r_59]), (317, SV.v s14), (318, .int .i64 r_59), (53, SV.v s14), (54, .int .i64 r_59), (320, strv r_57), (321, .tuple #[SV.v s15, .int .i64 r_61]), (319, .tuple #[SV.v s15, .int .i64 r_61]), (322, SV.v s15), (323, .int .i64 r_61), (55, SV.v s15), (56, .int .i64 r_61), (324, SV.v s1), (325, SV.v s16), (57, SV.v s16), (327, SV.v s16), (328, .tuple #[.int .i64 r_63, .int .i64 r_64]), (326, .tuple #[.int .i64 r_63, .int .i64 r_64]), (329, .int .i64 r_63), (330, .int .i64 r_64), (58, .int .i64 r_63), (59, .int .i64 r_64), (332, SV.v s16), (333, .tuple #[.int .i64 r_65, .int .i64 r_66]), (331, .tuple #[.int .i64 r_65, .int .i64 r_66]), (334, .int .i64 r_65), (335, .int .i64 r_66), (60, .int .i64 r_65), (61, .int .i64 r_66), (336, SV.v s1), (337, SV.v s17), (62, SV.v s17), (339, SV.v s17), (340, .tuple #[.int .i64 r_68, .int .i64 r_69]), (338, .tuple #[.int .i64 r_68, .int .i64 r_69]), (341, .int .i64 r_68), (342, .int .i64 r_69), (63, .int .i64 r_68), (64, .int .i64 r_69), (344, SV.v s17), (345, .tuple #[.int .i64 r_70, .int .i64 r_71]), (343, .tuple #[.int .i64 r_70, .int .i64 r_71]), (346, .int .i64 r_70), (347, .int .i64 r_71), (65, .int .i64 r_70), (66, .int .i64 r_71), (348, SV.v s1), (349, SV.v s18), (67, SV.v s18), (351, SV.v s18), (352, .tuple #[.bool r_73, .int .i64 r_74]), (350, .tuple #[.bool r_73, .int .i64 r_74]), (353, .bool r_73), (354, .int .i64 r_74), (68, .bool r_73), (69, .int .i64 r_74), (356, SV.v s18), (357, .tuple #[.bool r_75, .int .i64 r_76]), (355, .tuple #[.bool r_75, .int .i64 r_76]), (358, .bool r_75), (359, .int .i64 r_76), (70, .bool r_75), (71, .int .i64 r_76), (360, .int .i64 r_49), (361, .int .i64 r_51), (362, .bool (r_49 == r_51)), (363, .bool (r_49 == r_51)), (367, .bool ((r_49 == r_51) && (r_48 == r_50))), (368, .bool ((r_49 == r_51) && (r_48 == r_50))), (372, .bool (((r_49 == r_51) && (r_48 == r_50)) && (r_54 == r_56))), (373, .bool (((r_49 == r_51) && (r_48 == r_50)) && (r_54 == r_56))), (377, .bool ((((r_49 == r_51) && (r_48 == r_50)) && (r_54 == r_56)) && (r_53 == r_55))), (378, .bool ((((r_49 == r_51) && (r_48 == r_50)) && (r_54 == r_56)) && (r_53 == r_55))), (382, .bool (((((r_49 == r_51) && (r_48 == r_50)) && (r_54 == r_56)) && (r_53 == r_55)) && (r_59 == r_61))), (383, .bool (((((r_49 == r_51) && (r_48 == r_50)) && (r_54 == r_56)) && (r_53 == r_55)) && (r_59 == r_61))), (387, .bool b_6), (388, .bool b_6), (392, .bool (b_6 && (r_64 == r_66))), (393, .bool (b_6 && (r_64 == r_66)))] [mat Ei 2 22 s18 ss17 r_72, mat Ei 2 22 s17 ss16 r_67, mat Ei 2 22 s16 ss15 r_62, mat Ei 2 22 s15 ss14 r_60, mat Ei 2 22 s14 ss13 r_58, mat Ei 2 22 s13 ss12 r_52, mat Ei 2 22 s12 ss11 r_47] ?_ ?_
                  ·refine TL.cases (t := 393) (b := (b_6 && (r_64 == r_66))) rfl (fun c71 => ?_) (fun c72 => ?_)
                   ·refine TL.move rfl rfl (v := .int .i64 r_63) rfl ?_
                    refine TL.move rfl rfl (v := .int .i64 r_65) rfl ?_
                    refine TL.bin .i64 r_63 r_65 rfl rfl rfl rfl (v := .bool (r_63 == r_65)) rfl ?_
                    refine TL.pick rfl rfl (b := true) rfl (r := .bool (r_63 == r_65)) rfl ?_
                    refine TL.done ?_
                    exact TC.nrm () () ⟨(by rw [c71]; rfl), rfl, rfl, rfl, rfl, rfl, rfl, rfl, rfl, rfl, rfl, rfl, rfl, rfl, rfl, rfl, rfl, rfl, rfl, rfl, rfl, rfl, rfl, rfl, rfl, rfl, rfl, rfl, rfl, rfl, rfl, rfl, rfl, rfl, rfl, rfl, rfl, rfl, rfl, rfl, rfl, rfl, rfl, rfl, rfl, rfl, rfl, rfl, rfl, rfl, rfl, rfl, rfl, rfl, rfl, rfl, rfl, rfl, rfl, rfl, rfl, rfl, rfl, rfl, rfl, rfl, rfl, rfl, rfl, rfl, rfl, rfl, rfl, rfl, rfl, rfl, rfl, rfl, rfl, rfl, rfl, rfl, rfl, rfl, rfl, rfl, rfl, rfl, rfl, rfl, rfl, rfl, rfl, rfl, rfl, rfl, rfl, rfl, rfl, rfl, rfl, rfl, rfl, rfl, rfl, rfl, rfl, rfl, rfl, rfl, rfl, rfl, rfl, rfl, rfl, rfl, rfl, rfl, rfl, (by rw [c71]; rfl), trivial⟩ [0, 0, 0, 0, 0, 0, 0] (by kernel_rfl)
                   ·refine TL.skip rfl rfl (by decide) ?_
                    refine TL.skip rfl rfl (by decide) ?_
                    refine TL.skip rfl rfl (by decide) ?_
                    refine TL.pick rfl rfl (b := false) rfl (r := .bool false) rfl ?_
                    refine TL.done ?_
                    exact TC.nrm () () ⟨(by rw [c72]; rfl), rfl, rfl, rfl, rfl, rfl, rfl, rfl, rfl, rfl, rfl, rfl, rfl, rfl, rfl, rfl, rfl, rfl, rfl, rfl, rfl, rfl, rfl, rfl, rfl, rfl, rfl, rfl, rfl, rfl, rfl, rfl, rfl, rfl, rfl, rfl, rfl, rfl, rfl, rfl, rfl, rfl, rfl, rfl, rfl, rfl, rfl, rfl, rfl, rfl, rfl, rfl, rfl, rfl, rfl, rfl, rfl, rfl, rfl, rfl, rfl, rfl, rfl, rfl, rfl, rfl, rfl, rfl, rfl, rfl, rfl, rfl, rfl, rfl, rfl, rfl, rfl, rfl, rfl, rfl, rfl, rfl, rfl, rfl, rfl, rfl, rfl, rfl, rfl, rfl, rfl, rfl, rfl, rfl, rfl, rfl, rfl, rfl, rfl, rfl, rfl, rfl, rfl, rfl, rfl, rfl, rfl, rfl, rfl, rfl, rfl, rfl, rfl, rfl, rfl, rfl, rfl, rfl, rfl, (by rw [c72]; rfl), trivial⟩ [0, 0, 0, 0, 0, 0, 0] (by kernel_rfl)
                  ·refine TL.move rfl rfl (v := .bool ((b_6 && (r_64 == r_66)) && (r_63 == r_65))) rfl ?_
                   refine TL.cutU 4 [(402, .bool (((b_6 && (r_64 == r_66)) && (r_63 == r_65)) && (r_69 == r_71))), (0, SV.v s1), (288, SV.v s1), (289, SV.v s12), (42, SV.v s12), (291, SV.v s12), (292, .tuple #[.int .i64 r_48, .int .i64 r_49]), (290, .tuple #[.int .i64 r_48, .int .i64 r_49]), (293, .int .i64 r_48), (294, .int .i64 r_49), (43, .int .i64 r_48), (44, .int .i64 r_49), (296, SV.v s12), (297, .tuple #[.int .i64 r_50, .int .i64 r_51]), (295, .tuple #[.int .i64 r_50, .int .i64 r_51]), (298, .int .i64 r_50), (299, .int .i64 r_51), (45, .int .i64 r_50), (46, .int .i64 r_51), (300, SV.v s1), (301, SV.v s13), (47, SV.v s13), (303, SV.v s13), (304, .tuple #[.int .i64 r_53, .int .i64 r_54]), (302, .tuple #[.int .i64 r_53, .int .i64 r_54]), (305, .int .i64 r_53), (306, .int .i64 r_54), (48, .int .i64 r_53), (49, .int .i64 r_54), (308, SV.v s13), (309, .tuple #[.int .i64 r_55, .int .i64 r_56]), (307, .tuple #[.int .i64 r_55, .int .i64 r_56]), (310, .int .i64 r_55), (311, .int .i64 r_56), (50, .int .i64 r_55), (51, .int .i64 r_56), (312, SV.v s1), (313, strv r_57), (52, strv r_57), (315, strv r_57), (316, .tuple #[SV.v s14, .int .i64 r_59]), (314, .tuple #[SV.v s14, .int .i64 r_59]), (317, SV.v s14), (318, .int .i64 r_59), (53, SV.v s14), (54, .int .i64 r_59), (320, strv r_57), (321, .tuple #[SV.v s15, .int .i64 r_61]), (319, .tuple #[SV.v s15, .int .i64 r_61]), (322, SV.v s15), (323, .int .i64 r_61), (55, SV.v s15), (56, .int .i64 r_61), (324, SV.v s1), (325, SV.v s16), (57, SV.v s16), (327, SV.v s16), (328, .tuple #[.int .i64 r_63, .int .i64 r_64]), (326, .tuple #[.int .i64 r_63, .int .i64 r_64]), (329, .int .i64 r_63), (330, .int .i64 r_64), (58, .int .i64 r_63), (59, .int .i64 r_64), (332, SV.v s16), (333, .tuple #[.int .i64 r_65, .int .i64 r_66]), (331, .tuple #[.int .i64 r_65, .int .i64 r_66]), (334, .int .i64 r_65), (335, .int .i64 r_66), (60, .int .i64 r_65), (61, .int .i64 r_66), (336, SV.v s1), (337, SV.v s17), (62, SV.v s17), (339, SV.v s17), (340, .tuple #[.int .i64 r_68, .int .i64 r_69]), (338, .tuple #[.int .i64 r_68, .int .i64 r_69]), (341, .int .i64 r_68), (342, .int .i64 r_69), (63, .int .i64 r_68), (64, .int .i64 r_69), (344, SV.v s17), (345, .tuple #[.int .i64 r_70, .int .i64 r_71]), (343, .tuple #[.int .i64 r_70, .int .i64 r_71]), (346, .int .i64 r_70), (347, .int .i64 r_71), (65, .int .i64 r_70), (66, .int .i64 r_71), (348, SV.v s1), (349, SV.v s18), (67, SV.v s18), (351, SV.v s18), (352, .tuple #[.bool r_73, .int .i64 r_74]), (350, .tuple #[.bool r_73, .int .i64 r_74]), (353, .bool r_73), (354, .int .i64 r_74), (68, .bool r_73), (69, .int .i64 r_74), (356, SV.v s18), (357, .tuple #[.bool r_75, .int .i64 r_76]), (355, .tuple #[.bool r_75, .int .i64 r_76]), (358, .bool r_75), (359, .int .i64 r_76), (70, .bool r_75), (71, .int .i64 r_76), (360, .int .i64 r_49), (361, .int .i64 r_51), (362, .bool (r_49 == r_51)), (363, .bool (r_49 == r_51)), (367, .bool ((r_49 == r_51) && (r_48 == r_50))), (368, .bool ((r_49 == r_51) && (r_48 == r_50))), (372, .bool (((r_49 == r_51) && (r_48 == r_50)) && (r_54 == r_56))), (373, .bool (((r_49 == r_51) && (r_48 == r_50)) && (r_54 == r_56))), (377, .bool ((((r_49 == r_51) && (r_48 == r_50)) && (r_54 == r_56)) && (r_53 == r_55))), (378, .bool ((((r_49 == r_51) && (r_48 == r_50)) && (r_54 == r_56)) && (r_53 == r_55))), (382, .bool (((((r_49 == r_51) && (r_48 == r_50)) && (r_54 == r_56)) && (r_53 == r_55)) && (r_59 == r_61))), (383, .bool (((((r_49 == r_51) && (r_48 == r_50)) && (r_54 == r_56)) && (r_53 == r_55)) && (r_59 == r_61))), (387, .bool b_6), (388, .bool b_6), (392, .bool (b_6 && (r_64 == r_66))), (393, .bool (b_6 && (r_64 == r_66))), (397, .bool ((b_6 && (r_64 == r_66)) && (r_63 == r_65))), (398, .bool ((b_6 && (r_64 == r_66)) && (r_63 == r_65)))] [mat Ei 2 22 s18 ss17 r_72, mat Ei 2 22 s17 ss16 r_67, mat Ei 2 22 s16 ss15 r_62, mat Ei 2 22 s15 ss14 r_60, mat Ei 2 22 s14 ss13 r_58, mat Ei 2 22 s13 ss12 r_52, mat Ei 2 22 s12 ss11 r_47] ?_ ?_
                   ·refine TL.cases (t := 398) (b := ((b_6 && (r_64 == r_66)) && (r_63 == r_65))) rfl (fun c73 => ?_) (fun c74 => ?_)
                    ·refine TL.move rfl rfl (v := .int .i64 r_69) rfl ?_
                     refine TL.move rfl rfl (v := .int .i64 r_71) rfl ?_
                     refine TL.bin .i64 r_69 r_71 rfl rfl rfl rfl (v := .bool (r_69 == r_71)) rfl ?_
                     refine TL.pick rfl rfl (b := true) rfl (r := .bool (r_69 == r_71)) rfl ?_
                     refine TL.done ?_
                     exact TC.nrm () () ⟨(by rw [c73]; rfl), rfl, rfl, rfl, rfl, rfl, rfl, rfl, rfl, rfl, rfl, rfl, rfl, rfl, rfl, rfl, rfl, rfl, rfl, rfl, rfl, rfl, rfl, rfl, rfl, rfl, rfl, rfl, rfl, rfl, rfl, rfl, rfl, rfl, rfl, rfl, rfl, rfl, rfl, rfl, rfl, rfl, rfl, rfl, rfl, rfl, rfl, rfl, rfl, rfl, rfl, rfl, rfl, rfl, rfl, rfl, rfl, rfl, rfl, rfl, rfl, rfl, rfl, rfl, rfl, rfl, rfl, rfl, rfl, rfl, rfl, rfl, rfl, rfl, rfl, rfl, rfl, rfl, rfl, rfl, rfl, rfl, rfl, rfl, rfl, rfl, rfl, rfl, rfl, rfl, rfl, rfl, rfl, rfl, rfl, rfl, rfl, rfl, rfl, rfl, rfl, rfl, rfl, rfl, rfl, rfl, rfl, rfl, rfl, rfl, rfl, rfl, rfl, rfl, rfl, rfl, rfl, rfl, rfl, rfl, rfl, (by rw [c73]; rfl), trivial⟩ [0, 0, 0, 0, 0, 0, 0] (by kernel_rfl)
                    ·refine TL.skip rfl rfl (by decide) ?_
                     refine TL.skip rfl rfl (by decide) ?_
                     refine TL.skip rfl rfl (by decide) ?_
                     refine TL.pick rfl rfl (b := false) rfl (r := .bool false) rfl ?_
                     refine TL.done ?_
                     exact TC.nrm () () ⟨(by rw [c74]; rfl), rfl, rfl, rfl, rfl, rfl, rfl, rfl, rfl, rfl, rfl, rfl, rfl, rfl, rfl, rfl, rfl, rfl, rfl, rfl, rfl, rfl, rfl, rfl, rfl, rfl, rfl, rfl, rfl, rfl, rfl, rfl, rfl, rfl, rfl, rfl, rfl, rfl, rfl, rfl, rfl, rfl, rfl, rfl, rfl, rfl, rfl, rfl, rfl, rfl, rfl, rfl, rfl, rfl, rfl, rfl, rfl, rfl, rfl, rfl, rfl, rfl, rfl, rfl, rfl, rfl, rfl, rfl, rfl, rfl, rfl, rfl, rfl, rfl, rfl, rfl, rfl, rfl, rfl, rfl, rfl, rfl, rfl, rfl, rfl, rfl, rfl, rfl, rfl, rfl, rfl, rfl, rfl, rfl, rfl, rfl, rfl, rfl, rfl, rfl, rfl, rfl, rfl, rfl, rfl, rfl, rfl, rfl, rfl, rfl, rfl, rfl, rfl, rfl, rfl, rfl, rfl, rfl, rfl, rfl, rfl, (by rw [c74]; rfl), trivial⟩ [0, 0, 0, 0, 0, 0, 0] (by kernel_rfl)
                   ·refine TL.move rfl rfl (v := .bool (((b_6 && (r_64 == r_66)) && (r_63 == r_65)) && (r_69 == r_71))) rfl ?_
                    refine TL.cutU 4 [(407, .bool ((((b_6 && (r_64 == r_66)) && (r_63 == r_65)) && (r_69 == r_71)) && (r_68 == r_70))), (0, SV.v s1), (288, SV.v s1), (289, SV.v s12), (42, SV.v s12), (291, SV.v s12), (292, .tuple #[.int .i64 r_48, .int .i64 r_49]), (290, .tuple #[.int .i64 r_48, .int .i64 r_49]), (293, .int .i64 r_48), (294, .int .i64 r_49), (43, .int .i64 r_48), (44, .int .i64 r_49), (296, SV.v s12), (297, .tuple #[.int .i64 r_50, .int .i64 r_51]), (295, .tuple #[.int .i64 r_50, .int .i64 r_51]), (298, .int .i64 r_50), (299, .int .i64 r_51), (45, .int .i64 r_50), (46, .int .i64 r_51), (300, SV.v s1), (301, SV.v s13), (47, SV.v s13), (303, SV.v s13), (304, .tuple #[.int .i64 r_53, .int .i64 r_54]), (302, .tuple #[.int .i64 r_53, .int .i64 r_54]), (305, .int .i64 r_53), (306, .int .i64 r_54), (48, .int .i64 r_53), (49, .int .i64 r_54), (308, SV.v s13), (309, .tuple #[.int .i64 r_55, .int .i64 r_56]), (307, .tuple #[.int .i64 r_55, .int .i64 r_56]), (310, .int .i64 r_55), (311, .int .i64 r_56), (50, .int .i64 r_55), (51, .int .i64 r_56), (312, SV.v s1), (313, strv r_57), (52, strv r_57), (315, strv r_57), (316, .tuple #[SV.v s14, .int .i64 r_59]), (314, .tuple #[SV.v s14, .int .i64 r_59]), (317, SV.v s14), (318, .int .i64 r_59), (53, SV.v s14), (54, .int .i64 r_59), (320, strv r_57), (321, .tuple #[SV.v s15, .int .i64 r_61]), (319, .tuple #[SV.v s15, .int .i64 r_61]), (322, SV.v s15), (323, .int .i64 r_61), (55, SV.v s15), (56, .int .i64 r_61), (324, SV.v s1), (325, SV.v s16), (57, SV.v s16), (327, SV.v s16), (328, .tuple #[.int .i64 r_63, .int .i64 r_64]), (326, .tuple #[.int .i64 r_63, .int .i64 r_64]), (329, .int .i64 r_63), (330, .int .i64 r_64), (58, .int .i64 r_63), (59, .int .i64 r_64), (332, SV.v s16), (333, .tuple #[.int .i64 r_65, .int .i64 r_66]), (331, .tuple #[.int .i64 r_65, .int .i64 r_66]), (334, .int .i64 r_65), (335, .int .i64 r_66), (60, .int .i64 r_65), (61, .int .i64 r_66), (336, SV.v s1), (337, SV.v s17), (62, SV.v s17), (339, SV.v s17), (340, .tuple #[.int .i64 r_68, .int .i64 r_69]), (338, .tuple #[.int .i64 r_68, .int .i64 r_69]), (341, .int .i64 r_68), (342, .int .i64 r_69), (63, .int .i64 r_68), (64, .int .i64 r_69), (344, SV.v s17), (345, .tuple #[.int .i64 r_70, .int .i64 r_71]), (343, .tuple #[.int .i64 r_70, .int .i64 r_71]), (346, .int .i64 r_70), (347, .int .i64 r_71), (65, .int .i64 r_70), (66, .int .i64 r_71), (348, SV.v s1), (349, SV.v s18), (67, SV.v s18), (351, SV.v s18), (352, .tuple #[.bool r_73, .int .i64 r_74]), (350, .tuple #[.bool r_73, .int .i64 r_74]), (353, .bool r_73), (354, .int .i64 r_74), (68, .bool r_73), (69, .int .i64 r_74), (356, SV.v s18), (357, .tuple #[.bool r_75, .int .i64 r_76]), (355, .tuple #[.bool r_75, .int .i64 r_76]), (358, .bool r_75), (359, .int .i64 r_76), (70, .bool r_75), (71, .int .i64 r_76), (360, .int .i64 r_49), (361, .int .i64 r_51), (362, .bool (r_49 == r_51)), (363, .bool (r_49 == r_51)), (367, .bool ((r_49 == r_51) && (r_48 == r_50))), (368, .bool ((r_49 == r_51) && (r_48 == r_50))), (372, .bool (((r_49 == r_51) && (r_48 == r_50)) && (r_54 == r_56))), (373, .bool (((r_49 == r_51) && (r_48 == r_50)) && (r_54 == r_56))), (377, .bool ((((r_49 == r_51) && (r_48 == r_50)) && (r_54 == r_56)) && (r_53 == r_55))), (378, .bool ((((r_49 == r_51) && (r_48 == r_50)) && (r_54 == r_56)) && (r_53 == r_55))), (382, .bool (((((r_49 == r_51) && (r_48 == r_50)) && (r_54 == r_56)) && (r_53 == r_55)) && (r_59 == r_61))), (383, .bool (((((r_49 == r_51) && (r_48 == r_50)) && (r_54 == r_56)) && (r_53 == r_55)) && (r_59 == r_61))), (387, .bool b_6), (388, .bool b_6), (392, .bool (b_6 && (r_64 == r_66))), (393, .bool (b_6 && (r_64 == r_66))), (397, .bool ((b_6 && (r_64 == r_66)) && (r_63 == r_65))), (398, .bool ((b_6 && (r_64 == r_66)) && (r_63 == r_65))), (402, .bool (((b_6 && (r_64 == r_66)) && (r_63 == r_65)) && (r_69 == r_71))), (403, .bool (((b_6 && (r_64 == r_66)) && (r_63 == r_65)) && (r_69 == r_71)))] [mat Ei 2 22 s18 ss17 r_72, mat Ei 2 22 s17 ss16 r_67, mat Ei 2 22 s16 ss15 r_62, mat Ei 2 22 s15 ss14 r_60, mat Ei 2 22 s14 ss13 r_58, mat Ei 2 22 s13 ss12 r_52, mat Ei 2 22 s12 ss11 r_47] ?_ ?_
                    ·refine TL.cases (t := 403) (b := (((b_6 && (r_64 == r_66)) && (r_63 == r_65)) && (r_69 == r_71))) rfl (fun c75 => ?_) (fun c76 => ?_)
                     ·refine TL.move rfl rfl (v := .int .i64 r_68) rfl ?_
                      refine TL.move rfl rfl (v := .int .i64 r_70) rfl ?_
                      refine TL.bin .i64 r_68 r_70 rfl rfl rfl rfl (v := .bool (r_68 == r_70)) rfl ?_
                      refine TL.pick rfl rfl (b := true) rfl (r := .bool (r_68 == r_70)) rfl ?_
                      refine TL.done ?_
                      exact TC.nrm () () ⟨(by rw [c75]; rfl), rfl, rfl, rfl, rfl, rfl, rfl, rfl, rfl, rfl, rfl, rfl, rfl, rfl, rfl, rfl, rfl, rfl, rfl, rfl, rfl, rfl, rfl, rfl, rfl, rfl, rfl, rfl, rfl, rfl, rfl, rfl, rfl, rfl, rfl, rfl, rfl, rfl, rfl, rfl, rfl, rfl, rfl, rfl, rfl, rfl, rfl, rfl, rfl, rfl, rfl, rfl, rfl, rfl, rfl, rfl, rfl, rfl, rfl, rfl, rfl, rfl, rfl, rfl, rfl, rfl, rfl, rfl, rfl, rfl, rfl, rfl, rfl, rfl, rfl, rfl, rfl, rfl, rfl, rfl, rfl, rfl, rfl, rfl, rfl, rfl, rfl, rfl, rfl, rfl, rfl, rfl, rfl, rfl, rfl, rfl, rfl, rfl, rfl, rfl, rfl, rfl, rfl, rfl, rfl, rfl, rfl, rfl, rfl, rfl, rfl, rfl, rfl, rfl, rfl, rfl, rfl, rfl, rfl, rfl, rfl, rfl, rfl, (by rw [c75]; rfl), trivial⟩ [0, 0, 0, 0, 0, 0, 0] (by kernel_rfl)
                     ·refine TL.skip rfl rfl (by decide) ?_
                      refine TL.skip rfl rfl (by decide) ?_
                      refine TL.skip rfl rfl (by decide) ?_
                      refine TL.pick rfl rfl (b := false) rfl (r := .bool false) rfl ?_
                      refine TL.done ?_
                      exact TC.nrm () () ⟨(by rw [c76]; rfl), rfl, rfl, rfl, rfl, rfl, rfl, rfl, rfl, rfl, rfl, rfl, rfl, rfl, rfl, rfl, rfl, rfl, rfl, rfl, rfl, rfl, rfl, rfl, rfl, rfl, rfl, rfl, rfl, rfl, rfl, rfl, rfl, rfl, rfl, rfl, rfl, rfl, rfl, rfl, rfl, rfl, rfl, rfl, rfl, rfl, rfl, rfl, rfl, rfl, rfl, rfl, rfl, rfl, rfl, rfl, rfl, rfl, rfl, rfl, rfl, rfl, rfl, rfl, rfl, rfl, rfl, rfl, rfl, rfl, rfl, rfl, rfl, rfl, rfl, rfl, rfl, rfl, rfl, rfl, rfl, rfl, rfl, rfl, rfl, rfl, rfl, rfl, rfl, rfl, rfl, rfl, rfl, rfl, rfl, rfl, rfl, rfl, rfl, rfl, rfl, rfl, rfl, rfl, rfl, rfl, rfl, rfl, rfl, rfl, rfl, rfl, rfl, rfl, rfl, rfl, rfl, rfl, rfl, rfl, rfl, rfl, rfl, (by rw [c76]; rfl), trivial⟩ [0, 0, 0, 0, 0, 0, 0] (by kernel_rfl)
                    ·refine TL.move rfl rfl (v := .bool ((((b_6 && (r_64 == r_66)) && (r_63 == r_65)) && (r_69 == r_71)) && (r_68 == r_70))) rfl ?_
                     refine TL.cutU 4 [(412, .bool (((((b_6 && (r_64 == r_66)) && (r_63 == r_65)) && (r_69 == r_71)) && (r_68 == r_70)) && (r_74 == r_76))), (0, SV.v s1), (288, SV.v s1), (289, SV.v s12), (42, SV.v s12), (291, SV.v s12), (292, .tuple #[.int .i64 r_48, .int .i64 r_49]), (290, .tuple #[.int .i64 r_48, .int .i64 r_49]), (293, .int .i64 r_48), (294, .int .i64 r_49), (43, .int .i64 r_48), (44, .int .i64 r_49), (296, SV.v s12), (297, .tuple #[.int .i64 r_50, .int .i64 r_51]), (295, .tuple #[.int .i64 r_50, .int .i64 r_51]), (298, .int .i64 r_50), (299, .int .i64 r_51), (45, .int .i64 r_50), (46, .int .i64 r_51), (300, SV.v s1), (301, SV.v s13), (47, SV.v s13), (303, SV.v s13), (304, .tuple #[.int .i64 r_53, .int .i64 r_54]), (302, .tuple #[.int .i64 r_53, .int .i64 r_54]), (305, .int .i64 r_53), (306, .int .i64 r_54), (48, .int .i64 r_53), (49, .int .i64 r_54), (308, SV.v s13), (309, .tuple #[.int .i64 r_55, .int .i64 r_56]), (307, .tuple #[.int .i64 r_55, .int .i64 r_56]), (310, .int .i64 r_55), (311, .int .i64 r_56), (50, .int .i64 r_55), (51, .int .i64 r_56), (312, SV.v s1), (313, strv r_57), (52, strv r_57), (315, strv r_57), (316, .tuple #[SV.v s14, .int .i64 r_59]), (314, .tuple #[SV.v s14, .int .i64 r_59]), (317, SV.v s14), (318, .int .i64 r_59), (53, SV.v s14), (54, .int .i64 r_59), (320, strv r_57), (321, .tuple #[SV.v s15, .int .i64 r_61]), (319, .tuple #[SV.v s15, .int .i64 r_61]), (322, SV.v s15), (323, .int .i64 r_61), (55, SV.v s15), (56, .int .i64 r_61), (324, SV.v s1), (325, SV.v s16), (57, SV.v s16), (327, SV.v s16), (328, .tuple #[.int .i64 r_63, .int .i64 r_64]), (326, .tuple #[.int .i64 r_63, .int .i64 r_64]), (329, .int .i64 r_63), (330, .int .i64 r_64), (58, .int .i64 r_63), (59, .int .i64 r_64), (332, SV.v s16), (333, .tuple #[.int .i64 r_65, .int .i64 r_66]), (331, .tuple #[.int .i64 r_65, .int .i64 r_66]), (334, .int .i64 r_65), (335, .int .i64 r_66), (60, .int .i64 r_65), (61, .int .i64 r_66), (336, SV.v s1), (337, SV.v s17), (62, SV.v s17), (339, SV.v s17), (340, .tuple #[.int .i64 r_68, .int .i64 r_69]), (338, .tuple #[.int .i64 r_68, .int .i64 r_69]), (341, .int .i64 r_68), (342, .int .i64 r_69), (63, .int .i64 r_68), (64, .int .i64 r_69), (344, SV.v s17), (345, .tuple #[.int .i64 r_70, .int .i64 r_71]), (343, .tuple #[.int .i64 r_70, .int .i64 r_71]), (346, .int .i64 r_70), (347, .int .i64 r_71), (65, .int .i64 r_70), (66, .int .i64 r_71), (348, SV.v s1), (349, SV.v s18), (67, SV.v s18), (351, SV.v s18), (352, .tuple #[.bool r_73, .int .i64 r_74]), (350, .tuple #[.bool r_73, .int .i64 r_74]), (353, .bool r_73), (354, .int .i64 r_74), (68, .bool r_73), (69, .int .i64 r_74), (356, SV.v s18), (357, .tuple #[.bool r_75, .int .i64 r_76]), (355, .tuple #[.bool r_75, .int .i64 r_76]), (358, .bool r_75), (359, .int .i64 r_76), (70, .bool r_75), (71, .int .i64 r_76), (360, .int .i64 r_49), (361, .int .i64 r_51), (362, .bool (r_49 == r_51)), (363, .bool (r_49 == r_51)), (367, .bool ((r_49 == r_51) && (r_48 == r_50))), (368, .bool ((r_49 == r_51) && (r_48 == r_50))), (372, .bool (((r_49 == r_51) && (r_48 == r_50)) && (r_54 == r_56))), (373, .bool (((r_49 == r_51) && (r_48 == r_50)) && (r_54 == r_56))), (377, .bool ((((r_49 == r_51) && (r_48 == r_50)) && (r_54 == r_56)) && (r_53 == r_55))), (378, .bool ((((r_49 == r_51) && (r_48 == r_50)) && (r_54 == r_56)) && (r_53 == r_55))), (382, .bool (((((r_49 == r_51) && (r_48 == r_50)) && (r_54 == r_56)) && (r_53 == r_55)) && (r_59 == r_61))), (383, .bool (((((r_49 == r_51) && (r_48 == r_50)) && (r_54 == r_56)) && (r_53 == r_55)) && (r_59 == r_61))), (387, .bool b_6), (388, .bool b_6), (392, .bool (b_6 && (r_64 == r_66))), (393, .bool (b_6 && (r_64 == r_66))), (397, .bool ((b_6 && (r_64 == r_66)) && (r_63 == r_65))), (398, .bool ((b_6 && (r_64 == r_66)) && (r_63 == r_65))), (402, .bool (((b_6 && (r_64 == r_66)) && (r_63 == r_65)) && (r_69 == r_71))), (403, .bool (((b_6 && (r_64 == r_66)) && (r_63 == r_65)) && (r_69 == r_71))), (407, .bool ((((b_6 && (r_64 == r_66)) && (r_63 == r_65)) && (r_69 == r_71)) && (r_68 == r_70))), (408, .bool ((((b_6 && (r_64 == r_66)) && (r_63 == r_65)) && (r_69 == r_71)) && (r_68 == r_70)))] [mat Ei 2 22 s18 ss17 r_72, mat Ei 2 22 s17 ss16 r_67, mat Ei 2 22 s16 ss15 r_62, mat Ei 2 22 s15 ss14 r_60, mat Ei 2 22 s14 ss13 r_58, mat Ei 2 22 s13 ss12 r_52, mat Ei 2 22 s12 ss11 r_47] ?_ ?_
                     ·refine TL.cases (t := 408) (b := ((((b_6 && (r_64 == r_66)) && (r_63 == r_65)) && (r_69 == r_71)) && (r_68 == r_70))) rfl (fun c77 => ?_) (fun c78 => ?_)
                      ·refine TL.move rfl rfl (v := .int .i64 r_74) rfl ?_
                       refine TL.move rfl rfl (v := .int .i64 r_76) rfl ?_
                       refine TL.bin .i64 r_74 r_76 rfl rfl rfl rfl (v := .bool (r_74 == r_76)) rfl ?_
                       refine TL.pick rfl rfl (b := true) rfl (r := .bool (r_74 == r_76)) rfl ?_
                       refine TL.done ?_
                       exact TC.nrm () () ⟨(by rw [c77]; rfl), rfl, rfl, rfl, rfl, rfl, rfl, rfl, rfl, rfl, rfl, rfl, rfl, rfl, rfl, rfl, rfl, rfl, rfl, rfl, rfl, rfl, rfl, rfl, rfl, rfl, rfl, rfl, rfl, rfl, rfl, rfl, rfl, rfl, rfl, rfl, rfl, rfl, rfl, rfl, rfl, rfl, rfl, rfl, rfl, rfl, rfl, rfl, rfl, rfl, rfl, rfl, rfl, rfl, rfl, rfl, rfl, rfl, rfl, rfl, rfl, rfl, rfl, rfl, rfl, rfl, rfl, rfl, rfl, rfl, rfl, rfl, rfl, rfl, rfl, rfl, rfl, rfl, rfl, rfl, rfl, rfl, rfl, rfl, rfl, rfl, rfl, rfl, rfl, rfl, rfl, rfl, rfl, rfl, rfl, rfl, rfl, rfl, rfl, rfl, rfl, rfl, rfl, rfl, rfl, rfl, rfl, rfl, rfl, rfl, rfl, rfl, rfl, rfl, rfl, rfl, rfl, rfl, rfl, rfl, rfl, rfl, rfl, rfl, rfl, (by rw [c77]; rfl), trivial⟩ [0, 0, 0, 0, 0, 0, 0] (by kernel_rfl)
                      ·refine TL.skip rfl rfl (by decide) ?_
                       refine TL.skip rfl rfl (by decide) ?_
                       refine TL.skip rfl rfl (by decide) ?_
                       refine TL.pick rfl rfl (b := false) rfl (r := .bool false) rfl ?_
                       refine TL.done ?_
                       exact TC.nrm () () ⟨(by rw [c78]; rfl), rfl, rfl, rfl, rfl, rfl, rfl, rfl, rfl, rfl, rfl, rfl, rfl, rfl, rfl, rfl, rfl, rfl, rfl, rfl, rfl, rfl, rfl, rfl, rfl, rfl, rfl, rfl, rfl, rfl, rfl, rfl, rfl, rfl, rfl, rfl, rfl, rfl, rfl, rfl, rfl, rfl, rfl, rfl, rfl, rfl, rfl, rfl, rfl, rfl, rfl, rfl, rfl, rfl, rfl, rfl, rfl, rfl, rfl, rfl, rfl, rfl, rfl, rfl, rfl, rfl, rfl, rfl, rfl, rfl, rfl, rfl, rfl, rfl, rfl, rfl, rfl, rfl, rfl, rfl, rfl, rfl, rfl, rfl, rfl, rfl, rfl, rfl, rfl, rfl, rfl, rfl, rfl, rfl, rfl, rfl, rfl, rfl, rfl, rfl, rfl, rfl, rfl, rfl, rfl, rfl, rfl, rfl, rfl, rfl, rfl, rfl, rfl, rfl, rfl, rfl, rfl, rfl, rfl, rfl, rfl, rfl, rfl, rfl, rfl, (by rw [c78]; rfl), trivial⟩ [0, 0, 0, 0, 0, 0, 0] (by kernel_rfl)
                     ·refine TL.move rfl rfl (v := .bool (((((b_6 && (r_64 == r_66)) && (r_63 == r_65)) && (r_69 == r_71)) && (r_68 == r_70)) && (r_74 == r_76))) rfl ?_
                      refine TL.cutU 4 [(417, .bool ((((((b_6 && (r_64 == r_66)) && (r_63 == r_65)) && (r_69 == r_71)) && (r_68 == r_70)) && (r_74 == r_76)) && (r_73 == r_75))), (0, SV.v s1), (288, SV.v s1), (289, SV.v s12), (42, SV.v s12), (291, SV.v s12), (292, .tuple #[.int .i64 r_48, .int .i64 r_49]), (290, .tuple #[.int .i64 r_48, .int .i64 r_49]), (293, .int .i64 r_48), (294, .int .i64 r_49), (43, .int .i64 r_48), (44, .int .i64 r_49), (296, SV.v s12), (297, .tuple #[.int .i64 r_50, .int .i64 r_51]), (295, .tuple #[.int .i64 r_50, .int .i64 r_51]), (298, .int .i64 r_50), (299, .int .i64 r_51), (45, .int .i64 r_50), (46, .int .i64 r_51), (300, SV.v s1), (301, SV.v s13), (47, SV.v s13), (303, SV.v s13), (304, .tuple #[.int .i64 r_53, .int .i64 r_54]), (302, .tuple #[.int .i64 r_53, .int .i64 r_54]), (305, .int .i64 r_53), (306, .int .i64 r_54), (48, .int .i64 r_53), (49, .int .i64 r_54), (308, SV.v s13), (309, .tuple #[.int .i64 r_55, .int .i64 r_56]), (307, .tuple #[.int .i64 r_55, .int .i64 r_56]), (310, .int .i64 r_55), (311, .int .i64 r_56), (50, .int .i64 r_55), (51, .int .i64 r_56), (312, SV.v s1), (313, strv r_57), (52, strv r_57), (315, strv r_57), (316, .tuple #[SV.v s14, .int .i64 r_59]), (314, .tuple #[SV.v s14, .int .i64 r_59]), (317, SV.v s14), (318, .int .i64 r_59), (53, SV.v s14), (54, .int .i64 r_59), (320, strv r_57), (321, .tuple #[SV.v s15, .int .i64 r_61]), (319, .tuple #[SV.v s15, .int .i64 r_61]), (322, SV.v s15), (323, .int .i64 r_61), (55, SV.v s15), (56, .int .i64 r_61), (324, SV.v s1), (325, SV.v s16), (57, SV.v s16), (327, SV.v s16), (328, .tuple #[.int .i64 r_63, .int .i64 r_64]), (326, .tuple #[.int .i64 r_63, .int .i64 r_64]), (329, .int .i64 r_63), (330, .int .i64 r_64), (58, .int .i64 r_63), (59, .int .i64 r_64), (332, SV.v s16), (333, .tuple #[.int .i64 r_65, .int .i64 r_66]), (331, .tuple #[.int .i64 r_65, .int .i64 r_66]), (334, .int .i64 r_65), (335, .int .i64 r_66), (60, .int .i64 r_65), (61, .int .i64 r_66), (336, SV.v s1), (337, SV.v s17), (62, SV.v s17), (339, SV.v s17), (340, .tuple #[.int .i64 r_68, .int .i64 r_69]), (338, .tuple #[.int .i64 r_68, .int .i64 r_69]), (341, .int .i64 r_68), (342, .int .i64 r_69), (63, .int .i64 r_68), (64, .int .i64 r_69), (344, SV.v s17), (345, .tuple #[.int .i64 r_70, .int .i64 r_71]), (343, .tuple #[.int .i64 r_70, .int .i64 r_71]), (346, .int .i64 r_70), (347, .int .i64 r_71), (65, .int .i64 r_70), (66, .int .i64 r_71), (348, SV.v s1), (349, SV.v s18), (67, SV.v s18), (351, SV.v s18), (352, .tuple #[.bool r_73, .int .i64 r_74]), (350, .tuple #[.bool r_73, .int .i64 r_74]), (353, .bool r_73), (354, .int .i64 r_74), (68, .bool r_73), (69, .int .i64 r_74), (356, SV.v s18), (357, .tuple #[.bool r_75, .int .i64 r_76]), (355, .tuple #[.bool r_75, .int .i64 r_76]), (358, .bool r_75), (359, .int .i64 r_76), (70, .bool r_75), (71, .int .i64 r_76), (360, .int .i64 r_49), (361, .int .i64 r_51), (362, .bool (r_49 == r_51)), (363, .bool (r_49 == r_51)), (367, .bool ((r_49 == r_51) && (r_48 == r_50))), (368, .bool ((r_49 == r_51) && (r_48 == r_50))), (372, .bool (((r_49 == r_51) && (r_48 == r_50)) && (r_54 == r_56))), (373, .bool (((r_49 == r_51) && (r_48 == r_50)) && (r_54 == r_56))), (377, .bool ((((r_49 == r_51) && (r_48 == r_50)) && (r_54 == r_56)) && (r_53 == r_55))), (378, .bool ((((r_49 == r_51) && (r_48 == r_50)) && (r_54 == r_56)) && (r_53 == r_55))), (382, .bool (((((r_49 == r_51) && (r_48 == r_50)) && (r_54 == r_56)) && (r_53 == r_55)) && (r_59 == r_61))), (383, .bool (((((r_49 == r_51) && (r_48 == r_50)) && (r_54 == r_56)) && (r_53 == r_55)) && (r_59 == r_61))), (387, .bool b_6), (388, .bool b_6), (392, .bool (b_6 && (r_64 == r_66))), (393, .bool (b_6 && (r_64 == r_66))), (397, .bool ((b_6 && (r_64 == r_66)) && (r_63 == r_65))), (398, .bool ((b_6 && (r_64 == r_66)) && (r_63 == r_65))), (402, .bool (((b_6 && (r_64 == r_66)) && (r_63 == r_65)) && (r_69 == r_71))), (403, .bool (((b_6 && (r_64 == r_66)) && (r_63 == r_65)) && (r_69 == r_71))), (407, .bool ((((b_6 && (r_64 == r_66)) && (r_63 == r_65)) && (r_69 == r_71)) && (r_68 == r_70))), (408, .bool ((((b_6 && (r_64 == r_66)) && (r_63 == r_65)) && (r_69 == r_71)) && (r_68 == r_70))), (412, .bool (((((b_6 && (r_64 == r_66)) && (r_63 == r_65)) && (r_69 == r_71)) && (r_68 == r_70)) && (r_74 == r_76))), (413, .bool (((((b_6 && (r_64 == r_66)) && (r_63 == r_65)) && (r_69 == r_71)) && (r_68 == r_70)) && (r_74 == r_76)))] [mat Ei 2 22 s18 ss17 r_72, mat Ei 2 22 s17 ss16 r_67, mat Ei 2 22 s16 ss15 r_62, mat Ei 2 22 s15 ss14 r_60, mat Ei 2 22 s14 ss13 r_58, mat Ei 2 22 s13 ss12 r_52, mat Ei 2 22 s12 ss11 r_47] ?_ ?_
                      ·refine TL.cases (t := 413) (b := (((((b_6 && (r_64 == r_66)) && (r_63 == r_65)) && (r_69 == r_71)) && (r_68 == r_70)) && (r_74 == r_76))) rfl (fun c79 => ?_) (fun c80 => ?_)
                       ·refine TL.move rfl rfl (v := .bool r_73) rfl ?_
                        refine TL.move rfl rfl (v := .bool r_75) rfl ?_
                        refine TL.boolEq r_73 r_75 Try.underlying4 rfl rfl rfl rfl ?_
                        refine TL.pick rfl rfl (b := true) rfl (r := .bool (r_73 == r_75)) rfl ?_
                        refine TL.done ?_
                        exact TC.nrm () () ⟨(by rw [c79]; rfl), rfl, rfl, rfl, rfl, rfl, rfl, rfl, rfl, rfl, rfl, rfl, rfl, rfl, rfl, rfl, rfl, rfl, rfl, rfl, rfl, rfl, rfl, rfl, rfl, rfl, rfl, rfl, rfl, rfl, rfl, rfl, rfl, rfl, rfl, rfl, rfl, rfl, rfl, rfl, rfl, rfl, rfl, rfl, rfl, rfl, rfl, rfl, rfl, rfl, rfl, rfl, rfl, rfl, rfl, rfl, rfl, rfl, rfl, rfl, rfl, rfl, rfl, rfl, rfl, rfl, rfl, rfl, rfl, rfl, rfl, rfl, rfl, rfl, rfl, rfl, rfl, rfl, rfl, rfl, rfl, rfl, rfl, rfl, rfl, rfl, rfl, rfl, rfl, rfl, rfl, rfl, rfl, rfl, rfl, rfl, rfl, rfl, rfl, rfl, rfl, rfl, rfl, rfl, rfl, rfl, rfl, rfl, rfl, rfl, rfl, rfl, rfl, rfl, rfl, rfl, rfl, rfl, rfl, rfl, rfl, rfl, rfl, rfl, rfl, rfl, rfl, (by rw [c79]; rfl), trivial⟩ [0, 0, 0, 0, 0, 0, 0] (by kernel_rfl)
                       ·refine TL.skip rfl rfl (by decide) ?_
                        refine TL.skip rfl rfl (by decide) ?_
                        refine TL.skip rfl rfl (by decide) ?_
                        refine TL.pick rfl rfl (b := false) rfl (r := .bool false) rfl ?_
                        refine TL.done ?_
                        exact TC.nrm () () ⟨(by rw [c80]; rfl), rfl, rfl, rfl, rfl, rfl, rfl, rfl, rfl, rfl, rfl, rfl, rfl, rfl, rfl, rfl, rfl, rfl, rfl, rfl, rfl, rfl, rfl, rfl, rfl, rfl, rfl, rfl, rfl, rfl, rfl, rfl, rfl, rfl, rfl, rfl, rfl, rfl, rfl, rfl, rfl, rfl, rfl, rfl, rfl, rfl, rfl, rfl, rfl, rfl, rfl, rfl, rfl, rfl, rfl, rfl, rfl, rfl, rfl, rfl, rfl, rfl, rfl, rfl, rfl, rfl, rfl, rfl, rfl, rfl, rfl, rfl, rfl, rfl, rfl, rfl, rfl, rfl, rfl, rfl, rfl, rfl, rfl, rfl, rfl, rfl, rfl, rfl, rfl, rfl, rfl, rfl, rfl, rfl, rfl, rfl, rfl, rfl, rfl, rfl, rfl, rfl, rfl, rfl, rfl, rfl, rfl, rfl, rfl, rfl, rfl, rfl, rfl, rfl, rfl, rfl, rfl, rfl, rfl, rfl, rfl, rfl, rfl, rfl, rfl, rfl, rfl, (by rw [c80]; rfl), trivial⟩ [0, 0, 0, 0, 0, 0, 0] (by kernel_rfl)
                      ·refine TL.assign rfl rfl (v := .bool ((((((b_6 && (r_64 == r_66)) && (r_63 == r_65)) && (r_69 == r_71)) && (r_68 == r_70)) && (r_74 == r_76)) && (r_73 == r_75))) rfl ?_
                       refine TL.done ?_
                       exact TC.retF (Fin.body (fin1 (.inr rfl) rfl (.tmp rfl) [] rfl ⟨rfl, rfl⟩))

end Go.Proofs.Ytiiljfpbcanphaa.G
