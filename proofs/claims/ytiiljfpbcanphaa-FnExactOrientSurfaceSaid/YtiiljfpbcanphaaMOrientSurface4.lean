/- Functions of the program, as pure functions. -/
import Derived.Test.YtiiljfpbcanphaaMOrientSurface3
import Derived.Test.YtiiljfpbcanphaaProg
/- laws.FnExactOrientSurface, as a pure function. -/
set_option linter.unusedVariables false
namespace Go.Proofs.Ytiiljfpbcanphaa.G
open Go Go.Sx Go.Proofs

def laws_FnExactOrientSurface.f (x1 : List (List Int)) : Option Bool := (G.laws_szInt64SS.f x1 1048576).bind (fun r_1 => (bif (decide (r_1 < 0)) then some true else (G.laws_toInt64SS.f x1).bind (fun r_2 => (G.spec_OrientSurface.f r_2).bind (fun p => match p with | (r_3, r_4) => (G.laws_toInt64SS.f x1).bind (fun r_5 => (G.impl_OrientSurface.f r_5).bind (fun p => match p with | (r_6, r_7) => (G.laws_eqInt64SS.f r_6 r_3).bind (fun r_8 => (bif ((!r_8) || (r_7 != r_4)) then some false else (G.laws_toInt64SS.f x1).bind (fun r_9 => (G.laws_eqInt64SS.f r_5 r_9).bind (fun r_10 => (bif (!r_10) then some false else (G.laws_markInt64SS.f r_5 1).bind (fun p => match p with | (r_11, l1) => (bif (decide (r_11 < 0)) then some true else (G.laws_eqInt64SS.f r_6 r_3).bind (fun r_12 => some (!r_12))).bind (fun b_1 => (bif (b_1 || (r_7 != r_4)) then some false else (G.laws_markInt64SS.f r_6 1).bind (fun p => match p with | (r_13, l2) => (G.laws_heldInt64SS.f l2 1).bind (fun r_14 => (bif (decide (r_14 < 0)) then some false else (bif (r_14 != r_13) then some false else (G.laws_toInt64SS.f x1).bind (fun r_15 => (G.impl_OrientSurface.f r_15).bind (fun p => match p with | (r_16, r_17) => (G.laws_eqInt64SS.f r_16 r_3).bind (fun r_18 => (bif ((!r_18) || (r_17 != r_4)) then some false else (G.laws_heldInt64SS.f l2 1).bind (fun r_19 => (bif (decide (r_19 < 0)) then some false else (bif (r_19 != r_13) then some false else some true)))))))))))))))))))))))))

def laws_FnExactOrientSurface.R (r : Bool) (v : Value) (L : List Asn) : Prop := v = .bool r ∧ L = []

set_option maxRecDepth 100000 in
set_option maxHeartbeats 4000000 in
theorem laws_FnExactOrientSurface.calls (w : World) (s1 : SV) (ss1 : List SV) (x1 : List (List Int)) (h1 : ReadsM Ei (hp w) s1 ss1 x1) :
    ∀ r, laws_FnExactOrientSurface.f x1 = some r → Calls Try.prog 9 #[SV.v s1] w (Ret w (laws_FnExactOrientSurface.R r)) := by

  refine calls_T (n := 96) (Γ := [(0, SV.v s1)]) (R := laws_FnExactOrientSurface.R) Try.func9 rfl rfl (Nat.le_of_ble_eq_true rfl) ⟨rfl, trivial⟩ ?_
  unfold laws_FnExactOrientSurface.f
  refine TC.seq ?_
  refine TC.region ?_
  refine TL.assign rfl rfl (v := .bool false) rfl ?_
  refine TL.done ?_
  refine TC.seq ?_
  refine TC.region ?_
  refine TL.assign rfl rfl (v := .int .i64 1048576) rfl ?_
  refine TL.done ?_
  refine TC.seq ?_
  refine TC.region ?_
  refine TL.move rfl rfl (v := SV.v s1) rfl ?_
  refine TL.move rfl rfl (v := .int .i64 1048576) rfl ?_
  refine TL.call (R := G.laws_szInt64SS.R) Try.call32 rfl rfl rfl (fun w hS => G.laws_szInt64SS.calls w s1 ss1 x1 1048576 ((RdM.old h1) w hS)) ?_
  rintro r_1 _ _ ⟨rfl, rfl⟩
  refine TL.assign rfl rfl (v := .int .i64 r_1) rfl ?_
  refine TL.done ?_
  refine TC.seq ?_
  refine TC.seq ?_
  refine TC.region ?_
  refine TL.move rfl rfl (v := .int .i64 r_1) rfl ?_
  refine TL.bin .i64 r_1 0 rfl rfl rfl rfl (v := .bool (decide (r_1 < 0))) rfl ?_
  refine TL.done ?_
  refine TC.cond (b := (decide (r_1 < 0))) rfl (fun c1 => ?_) (fun c2 => ?_)
  · refine TC.seq ?_
    refine TC.region ?_
    refine TL.assign rfl rfl (v := .bool true) rfl ?_
    refine TL.done ?_
    exact TC.retF (Fin.body (fin1 (.inr rfl) rfl (.tmp rfl) [] rfl ⟨rfl, rfl⟩))
  · refine TC.skip ?_
    refine TC.seq ?_
    refine TC.region ?_
    refine TL.move rfl rfl (v := SV.v s1) rfl ?_
    refine TL.call (R := G.laws_toInt64SS.R) Try.call34 rfl rfl rfl (fun w hS => G.laws_toInt64SS.calls w s1 ss1 x1 ((RdM.old h1) w hS)) ?_
    rintro r_2 _ _ ⟨s2, ss2, rfl, rfl⟩
    refine TL.call (R := G.spec_OrientSurface.R) Try.call33 rfl rfl rfl (fun w hS => G.spec_OrientSurface.calls w s2 ss2 r_2 ((RdM.mat 0 rfl) w hS)) ?_
    rintro ⟨r_3, r_4⟩ _ _ ⟨s3, ss3, rfl, rfl⟩
    refine TL.move rfl rfl (v := .tuple #[SV.v s3, .int .i64 r_4]) rfl ?_
    refine TL.extract rfl rfl rfl (v := SV.v s3) rfl ?_
    refine TL.extract rfl rfl rfl (v := .int .i64 r_4) rfl ?_
    refine TL.assign rfl rfl (v := SV.v s3) rfl ?_
    refine TL.assign rfl rfl (v := .int .i64 r_4) rfl ?_
    refine TL.done ?_
    refine TC.seq ?_
    refine TC.region ?_
    refine TL.move rfl rfl (v := SV.v s1) rfl ?_
    refine TL.call (R := G.laws_toInt64SS.R) Try.call34 rfl rfl rfl (fun w hS => G.laws_toInt64SS.calls w s1 ss1 x1 ((RdM.old h1) w hS)) ?_
    rintro r_5 _ _ ⟨s4, ss4, rfl, rfl⟩
    refine TL.assign rfl rfl (v := SV.v s4) rfl ?_
    refine TL.done ?_
    refine TC.seq ?_
    refine TC.region ?_
    refine TL.move rfl rfl (v := SV.v s4) rfl ?_
    refine TL.call (R := G.impl_OrientSurface.R) Try.call35 rfl rfl rfl (fun w hS => G.impl_OrientSurface.calls w s4 ss4 r_5 ((RdM.mat 0 rfl) w hS)) ?_
    rintro ⟨r_6, r_7⟩ _ _ ⟨s5, ss5, rfl, rfl⟩
    refine TL.move rfl rfl (v := .tuple #[SV.v s5, .int .i64 r_7]) rfl ?_
    refine TL.extract rfl rfl rfl (v := SV.v s5) rfl ?_
    refine TL.extract rfl rfl rfl (v := .int .i64 r_7) rfl ?_
    refine TL.assign rfl rfl (v := SV.v s5) rfl ?_
    refine TL.assign rfl rfl (v := .int .i64 r_7) rfl ?_
    refine TL.done ?_
    refine TC.seq ?_
    refine TC.seq ?_
    refine TC.region ?_
    refine TL.move rfl rfl (v := SV.v s5) rfl ?_
    refine TL.move rfl rfl (v := SV.v s3) rfl ?_
    refine TL.call (R := G.laws_eqInt64SS.R) Try.call24 rfl rfl rfl (fun w hS => G.laws_eqInt64SS.calls w s5 ss5 r_6 s3 ss3 r_3 ((RdM.mat 0 rfl) w hS) ((RdM.mat 2 rfl) w hS)) ?_
    rintro r_8 _ _ ⟨rfl, rfl⟩
    refine TL.not r_8 rfl rfl rfl ?_
    refine TL.move rfl rfl (v := .bool (!r_8)) rfl ?_
    refine TL.cutU 4 [(40, .bool ((!r_8) || (r_7 != r_4))), (0, SV.v s1), (2, .bool false), (3, .int .i64 r_1), (14, SV.v s1), (15, .int .i64 1048576), (16, .int .i64 r_1), (17, .int .i64 r_1), (18, .bool (decide (r_1 < 0))), (20, SV.v s1), (21, SV.v s2), (22, .tuple #[SV.v s3, .int .i64 r_4]), (19, .tuple #[SV.v s3, .int .i64 r_4]), (23, SV.v s3), (24, .int .i64 r_4), (4, SV.v s3), (5, .int .i64 r_4), (25, SV.v s1), (26, SV.v s4), (6, SV.v s4), (28, SV.v s4), (29, .tuple #[SV.v s5, .int .i64 r_7]), (27, .tuple #[SV.v s5, .int .i64 r_7]), (30, SV.v s5), (31, .int .i64 r_7), (7, SV.v s5), (8, .int .i64 r_7), (32, SV.v s5), (33, SV.v s3), (34, .bool r_8), (35, .bool (!r_8)), (36, .bool (!r_8))] [mat Ei 2 22 s5 ss5 r_6, mat Ei 2 22 s4 ss4 r_5, mat Ei 2 22 s3 ss3 r_3, mat Ei 2 22 s2 ss2 r_2] ?_ ?_
    · refine TL.cases (t := 36) (b := (!r_8)) rfl (fun c3 => ?_) (fun c4 => ?_)
      · refine TL.skip rfl rfl (by decide) ?_
        refine TL.skip rfl rfl (by decide) ?_
        refine TL.skip rfl rfl (by decide) ?_
        refine TL.pick rfl rfl (b := true) rfl (r := .bool true) rfl ?_
        refine TL.done ?_
        exact TC.nrm () () ⟨(by rw [c3]; rfl), rfl, rfl, rfl, rfl, rfl, rfl, rfl, rfl, rfl, rfl, rfl, rfl, rfl, rfl, rfl, rfl, rfl, rfl, rfl, rfl, rfl, rfl, rfl, rfl, rfl, rfl, rfl, rfl, rfl, rfl, (by rw [c3]; rfl), trivial⟩ [0, 0, 0, 0] (by kernel_rfl)
      · refine TL.move rfl rfl (v := .int .i64 r_7) rfl ?_
        refine TL.move rfl rfl (v := .int .i64 r_4) rfl ?_
        refine TL.bin .i64 r_7 r_4 rfl rfl rfl rfl (v := .bool (r_7 != r_4)) rfl ?_
        refine TL.pick rfl rfl (b := false) rfl (r := .bool (r_7 != r_4)) rfl ?_
        refine TL.done ?_
        exact TC.nrm () () ⟨(by rw [c4]; rfl), rfl, rfl, rfl, rfl, rfl, rfl, rfl, rfl, rfl, rfl, rfl, rfl, rfl, rfl, rfl, rfl, rfl, rfl, rfl, rfl, rfl, rfl, rfl, rfl, rfl, rfl, rfl, rfl, rfl, rfl, (by rw [c4]; rfl), trivial⟩ [0, 0, 0, 0] (by kernel_rfl)
    · refine TL.done ?_
      refine TC.cond (b := ((!r_8) || (r_7 != r_4))) rfl (fun c5 => ?_) (fun c6 => ?_)
      · refine TC.seq ?_
        refine TC.region ?_
        refine TL.assign rfl rfl (v := .bool false) rfl ?_
        refine TL.done ?_
        exact TC.retF (Fin.body (fin1 (.inr rfl) rfl (.tmp rfl) [] rfl ⟨rfl, rfl⟩))
      · refine TC.skip ?_
        refine TC.seq ?_
        refine TC.seq ?_
        refine TC.region ?_
        refine TL.move rfl rfl (v := SV.v s4) rfl ?_
        refine TL.move rfl rfl (v := SV.v s1) rfl ?_
        refine TL.call (R := G.laws_toInt64SS.R) Try.call34 rfl rfl rfl (fun w hS => G.laws_toInt64SS.calls w s1 ss1 x1 ((RdM.old h1) w hS)) ?_
        rintro r_9 _ _ ⟨s6, ss6, rfl, rfl⟩
        refine TL.call (R := G.laws_eqInt64SS.R) Try.call24 rfl rfl rfl (fun w hS => G.laws_eqInt64SS.calls w s4 ss4 r_5 s6 ss6 r_9 ((RdM.mat 2 rfl) w hS) ((RdM.mat 0 rfl) w hS)) ?_
        rintro r_10 _ _ ⟨rfl, rfl⟩
        refine TL.not r_10 rfl rfl rfl ?_
        refine TL.done ?_
        refine TC.cond (b := (!r_10)) rfl (fun c7 => ?_) (fun c8 => ?_)
        · refine TC.seq ?_
          refine TC.region ?_
          refine TL.assign rfl rfl (v := .bool false) rfl ?_
          refine TL.done ?_
          exact TC.retF (Fin.body (fin1 (.inr rfl) rfl (.tmp rfl) [] rfl ⟨rfl, rfl⟩))
        · refine TC.skip ?_
          refine TC.seq ?_
          refine TC.region ?_
          refine TL.assign rfl rfl (v := .int .i64 1) rfl ?_
          refine TL.done ?_
          refine TC.seq ?_
          refine TC.region ?_
          refine TL.move rfl rfl (v := SV.v s4) rfl ?_
          refine TL.move rfl rfl (v := .int .i64 1) rfl ?_
          refine TL.callX (R := G.laws_markInt64SS.R s4) [2, 0, 0, 0, 0] [mat Ei 2 22 s4 ss4 r_5] [mat Ei 2 22 s6 ss6 r_9, mat Ei 2 22 s5 ss5 r_6, mat Ei 2 22 s3 ss3 r_3, mat Ei 2 22 s2 ss2 r_2] rfl Try.call25 rfl rfl rfl (fun w I_ hle hB hS => G.laws_markInt64SS.calls _ I_ w s4 ss4 r_5 1 hS) ?_
          rintro ⟨r_11, l1⟩ _ _ ⟨ss7, rfl, rfl⟩
          refine TL.assign rfl rfl (v := .int .i64 r_11) rfl ?_
          refine TL.done ?_
          refine TC.seq ?_
          refine TC.seq ?_
          refine TC.region ?_
          refine TL.move rfl rfl (v := .int .i64 r_11) rfl ?_
          refine TL.bin .i64 r_11 0 rfl rfl rfl rfl (v := .bool (decide (r_11 < 0))) rfl ?_
          refine TL.move rfl rfl (v := .bool (decide (r_11 < 0))) rfl ?_
          refine TL.cutJ (σ := Bool) (γ := Unit) (Γ' := fun b_1 _ => [(56, .bool b_1), (0, SV.v s1), (2, .bool false), (3, .int .i64 r_1), (14, SV.v s1), (15, .int .i64 1048576), (16, .int .i64 r_1), (17, .int .i64 r_1), (18, .bool (decide (r_1 < 0))), (20, SV.v s1), (21, SV.v s2), (22, .tuple #[SV.v s3, .int .i64 r_4]), (19, .tuple #[SV.v s3, .int .i64 r_4]), (23, SV.v s3), (24, .int .i64 r_4), (4, SV.v s3), (5, .int .i64 r_4), (25, SV.v s1), (26, SV.v s4), (6, SV.v s4), (28, SV.v s4), (29, .tuple #[SV.v s5, .int .i64 r_7]), (27, .tuple #[SV.v s5, .int .i64 r_7]), (30, SV.v s5), (31, .int .i64 r_7), (7, SV.v s5), (8, .int .i64 r_7), (32, SV.v s5), (33, SV.v s3), (34, .bool r_8), (35, .bool (!r_8)), (36, .bool (!r_8)), (40, .bool ((!r_8) || (r_7 != r_4))), (41, SV.v s4), (42, SV.v s1), (43, SV.v s6), (44, .bool r_10), (45, .bool (!r_10)), (9, .int .i64 r_11), (46, SV.v s4), (47, .int .i64 1), (48, .int .i64 r_11), (49, .int .i64 r_11), (50, .bool (decide (r_11 < 0))), (51, .bool (decide (r_11 < 0)))]) (L' := fun _ _ => [mat Ei 2 22 s4 ss7 l1, mat Ei 2 22 s6 ss6 r_9, mat Ei 2 22 s5 ss5 r_6, mat Ei 2 22 s3 ss3 r_3, mat Ei 2 22 s2 ss2 r_2]) 5 ?_ ?_
          · refine TL.ifb (t := 51) (b := (decide (r_11 < 0))) rfl (fun c9 => ?_) (fun c10 => ?_)
            · refine TL.skip rfl rfl (by decide) ?_
              refine TL.skip rfl rfl (by decide) ?_
              refine TL.skip rfl rfl (by decide) ?_
              refine TL.skip rfl rfl (by decide) ?_
              refine TL.pick rfl rfl (b := true) rfl (r := .bool true) rfl ?_
              refine TL.done ?_
              exact TC.nrm (true) () ⟨rfl, rfl, rfl, rfl, rfl, rfl, rfl, rfl, rfl, rfl, rfl, rfl, rfl, rfl, rfl, rfl, rfl, rfl, rfl, rfl, rfl, rfl, rfl, rfl, rfl, rfl, rfl, rfl, rfl, rfl, rfl, rfl, rfl, rfl, rfl, rfl, rfl, rfl, rfl, rfl, rfl, rfl, rfl, rfl, (by rw [c9]; rfl), trivial⟩ [0, 0, 0, 0, 0] (by kernel_rfl)
            · refine TL.move rfl rfl (v := SV.v s5) rfl ?_
              refine TL.move rfl rfl (v := SV.v s3) rfl ?_
              refine TL.call (R := G.laws_eqInt64SS.R) Try.call24 rfl rfl rfl (fun w hS => G.laws_eqInt64SS.calls w s5 ss5 r_6 s3 ss3 r_3 ((RdM.mat 2 rfl) w hS) ((RdM.mat 3 rfl) w hS)) ?_
              rintro r_12 _ _ ⟨rfl, rfl⟩
              refine TL.not r_12 rfl rfl rfl ?_
              refine TL.pick rfl rfl (b := false) rfl (r := .bool (!r_12)) rfl ?_
              refine TL.done ?_
              exact TC.nrm ((!r_12)) () ⟨rfl, rfl, rfl, rfl, rfl, rfl, rfl, rfl, rfl, rfl, rfl, rfl, rfl, rfl, rfl, rfl, rfl, rfl, rfl, rfl, rfl, rfl, rfl, rfl, rfl, rfl, rfl, rfl, rfl, rfl, rfl, rfl, rfl, rfl, rfl, rfl, rfl, rfl, rfl, rfl, rfl, rfl, rfl, rfl, (by rw [c10]; rfl), trivial⟩ [0, 0, 0, 0, 0] (by kernel_rfl)
          · rintro b_1 _
            refine TL.move rfl rfl (v := .bool b_1) rfl ?_
            refine TL.cutU 4 [(61, .bool (b_1 || (r_7 != r_4))), (0, SV.v s1), (2, .bool false), (3, .int .i64 r_1), (14, SV.v s1), (15, .int .i64 1048576), (16, .int .i64 r_1), (17, .int .i64 r_1), (18, .bool (decide (r_1 < 0))), (20, SV.v s1), (21, SV.v s2), (22, .tuple #[SV.v s3, .int .i64 r_4]), (19, .tuple #[SV.v s3, .int .i64 r_4]), (23, SV.v s3), (24, .int .i64 r_4), (4, SV.v s3), (5, .int .i64 r_4), (25, SV.v s1), (26, SV.v s4), (6, SV.v s4), (28, SV.v s4), (29, .tuple #[SV.v s5, .int .i64 r_7]), (27, .tuple #[SV.v s5, .int .i64 r_7]), (30, SV.v s5), (31, .int .i64 r_7), (7, SV.v s5), (8, .int .i64 r_7), (32, SV.v s5), (33, SV.v s3), (34, .bool r_8), (35, .bool (!r_8)), (36, .bool (!r_8)), (40, .bool ((!r_8) || (r_7 != r_4))), (41, SV.v s4), (42, SV.v s1), (43, SV.v s6), (44, .bool r_10), (45, .bool (!r_10)), (9, .int .i64 r_11), (46, SV.v s4), (47, .int .i64 1), (48, .int .i64 r_11), (49, .int .i64 r_11), (50, .bool (decide (r_11 < 0))), (51, .bool (decide (r_11 < 0))), (56, .bool b_1), (57, .bool b_1)] [mat Ei 2 22 s4 ss7 l1, mat Ei 2 22 s6 ss6 r_9, mat Ei 2 22 s5 ss5 r_6, mat Ei 2 22 s3 ss3 r_3, mat Ei 2 22 s2 ss2 r_2] ?_ ?_
            · refine TL.cases (t := 57) (b := b_1) rfl (fun c11 => ?_) (fun c12 => ?_)
              · refine TL.skip rfl rfl (by decide) ?_
                refine TL.skip rfl rfl (by decide) ?_
                refine TL.skip rfl rfl (by decide) ?_
                refine TL.pick rfl rfl (b := true) rfl (r := .bool true) rfl ?_
                refine TL.done ?_
                exact TC.nrm () () ⟨(by rw [c11]; rfl), rfl, rfl, rfl, rfl, rfl, rfl, rfl, rfl, rfl, rfl, rfl, rfl, rfl, rfl, rfl, rfl, rfl, rfl, rfl, rfl, rfl, rfl, rfl, rfl, rfl, rfl, rfl, rfl, rfl, rfl, rfl, rfl, rfl, rfl, rfl, rfl, rfl, rfl, rfl, rfl, rfl, rfl, rfl, rfl, rfl, (by rw [c11]; rfl), trivial⟩ [0, 0, 0, 0, 0] (by kernel_rfl)
              · refine TL.move rfl rfl (v := .int .i64 r_7) rfl ?_
                refine TL.move rfl rfl (v := .int .i64 r_4) rfl ?_
                refine TL.bin .i64 r_7 r_4 rfl rfl rfl rfl (v := .bool (r_7 != r_4)) rfl ?_
                refine TL.pick rfl rfl (b := false) rfl (r := .bool (r_7 != r_4)) rfl ?_
                refine TL.done ?_
                exact TC.nrm () () ⟨(by rw [c12]; rfl), rfl, rfl, rfl, rfl, rfl, rfl, rfl, rfl, rfl, rfl, rfl, rfl, rfl, rfl, rfl, rfl, rfl, rfl, rfl, rfl, rfl, rfl, rfl, rfl, rfl, rfl, rfl, rfl, rfl, rfl, rfl, rfl, rfl, rfl, rfl, rfl, rfl, rfl, rfl, rfl, rfl, rfl, rfl, rfl, rfl, (by rw [c12]; rfl), trivial⟩ [0, 0, 0, 0, 0] (by kernel_rfl)
            · refine TL.done ?_
              refine TC.cond (b := (b_1 || (r_7 != r_4))) rfl (fun c13 => ?_) (fun c14 => ?_)
              · refine TC.seq ?_
                refine TC.region ?_
                refine TL.assign rfl rfl (v := .bool false) rfl ?_
                refine TL.done ?_
                exact TC.retF (Fin.body (fin1 (.inr rfl) rfl (.tmp rfl) [] rfl ⟨rfl, rfl⟩))
              · refine TC.skip ?_
                refine TC.seq ?_
                refine TC.region ?_
                refine TL.assign rfl rfl (v := .int .i64 1) rfl ?_
                refine TL.done ?_
                refine TC.seq ?_
                refine TC.region ?_
                refine TL.move rfl rfl (v := SV.v s5) rfl ?_
                refine TL.move rfl rfl (v := .int .i64 1) rfl ?_
                refine TL.callX (R := G.laws_markInt64SS.R s5) [2, 0, 0, 0, 0] [mat Ei 2 22 s5 ss5 r_6] [mat Ei 2 22 s4 ss7 l1, mat Ei 2 22 s6 ss6 r_9, mat Ei 2 22 s3 ss3 r_3, mat Ei 2 22 s2 ss2 r_2] rfl Try.call25 rfl rfl rfl (fun w I_ hle hB hS => G.laws_markInt64SS.calls _ I_ w s5 ss5 r_6 1 hS) ?_
                rintro ⟨r_13, l2⟩ _ _ ⟨ss8, rfl, rfl⟩
                refine TL.assign rfl rfl (v := .int .i64 r_13) rfl ?_
                refine TL.done ?_
                refine TC.seq ?_
                refine TC.region ?_
                refine TL.assign rfl rfl (v := .int .i64 1) rfl ?_
                refine TL.done ?_
                refine TC.seq ?_
                refine TC.region ?_
                refine TL.move rfl rfl (v := SV.v s5) rfl ?_
                refine TL.move rfl rfl (v := .int .i64 1) rfl ?_
                refine TL.call (R := G.laws_heldInt64SS.R) Try.call26 rfl rfl rfl (fun w hS => G.laws_heldInt64SS.calls w s5 ss8 l2 1 ((RdM.mat 0 rfl) w hS)) ?_
                rintro r_14 _ _ ⟨rfl, rfl⟩
                refine TL.assign rfl rfl (v := .int .i64 r_14) rfl ?_
                refine TL.done ?_
                refine TC.seq ?_
                refine TC.seq ?_
                refine TC.region ?_
                refine TL.move rfl rfl (v := .int .i64 r_14) rfl ?_
                refine TL.bin .i64 r_14 0 rfl rfl rfl rfl (v := .bool (decide (r_14 < 0))) rfl ?_
                refine TL.done ?_
                refine TC.cond (b := (decide (r_14 < 0))) rfl (fun c15 => ?_) (fun c16 => ?_)
                · refine TC.seq ?_
                  refine TC.region ?_
                  refine TL.assign rfl rfl (v := .bool false) rfl ?_
                  refine TL.done ?_
                  exact TC.retF (Fin.body (fin1 (.inr rfl) rfl (.tmp rfl) [] rfl ⟨rfl, rfl⟩))
                · refine TC.skip ?_
                  refine TC.seq ?_
                  refine TC.seq ?_
                  refine TC.region ?_
                  refine TL.move rfl rfl (v := .int .i64 r_14) rfl ?_
                  refine TL.move rfl rfl (v := .int .i64 r_13) rfl ?_
                  refine TL.bin .i64 r_14 r_13 rfl rfl rfl rfl (v := .bool (r_14 != r_13)) rfl ?_
                  refine TL.done ?_
                  refine TC.cond (b := (r_14 != r_13)) rfl (fun c17 => ?_) (fun c18 => ?_)
                  · refine TC.seq ?_
                    refine TC.region ?_
                    refine TL.assign rfl rfl (v := .bool false) rfl ?_
                    refine TL.done ?_
                    exact TC.retF (Fin.body (fin1 (.inr rfl) rfl (.tmp rfl) [] rfl ⟨rfl, rfl⟩))
                  · refine TC.skip ?_
                    refine TC.seq ?_
                    refine TC.region ?_
                    refine TL.move rfl rfl (v := SV.v s1) rfl ?_
                    refine TL.call (R := G.laws_toInt64SS.R) Try.call34 rfl rfl rfl (fun w hS => G.laws_toInt64SS.calls w s1 ss1 x1 ((RdM.old h1) w hS)) ?_
                    rintro r_15 _ _ ⟨s7, ss9, rfl, rfl⟩
                    refine TL.call (R := G.impl_OrientSurface.R) Try.call35 rfl rfl rfl (fun w hS => G.impl_OrientSurface.calls w s7 ss9 r_15 ((RdM.mat 0 rfl) w hS)) ?_
                    rintro ⟨r_16, r_17⟩ _ _ ⟨s8, ss10, rfl, rfl⟩
                    refine TL.move rfl rfl (v := .tuple #[SV.v s8, .int .i64 r_17]) rfl ?_
                    refine TL.extract rfl rfl rfl (v := SV.v s8) rfl ?_
                    refine TL.extract rfl rfl rfl (v := .int .i64 r_17) rfl ?_
                    refine TL.assign rfl rfl (v := SV.v s8) rfl ?_
                    refine TL.assign rfl rfl (v := .int .i64 r_17) rfl ?_
                    refine TL.done ?_
                    refine TC.seq ?_
                    refine TC.seq ?_
                    refine TC.region ?_
                    refine TL.move rfl rfl (v := SV.v s8) rfl ?_
                    refine TL.move rfl rfl (v := SV.v s3) rfl ?_
                    refine TL.call (R := G.laws_eqInt64SS.R) Try.call24 rfl rfl rfl (fun w hS => G.laws_eqInt64SS.calls w s8 ss10 r_16 s3 ss3 r_3 ((RdM.mat 0 rfl) w hS) ((RdM.mat 5 rfl) w hS)) ?_
                    rintro r_18 _ _ ⟨rfl, rfl⟩
                    refine TL.not r_18 rfl rfl rfl ?_
                    refine TL.move rfl rfl (v := .bool (!r_18)) rfl ?_
                    refine TL.cutU 4 [(87, .bool ((!r_18) || (r_17 != r_4))), (0, SV.v s1), (2, .bool false), (3, .int .i64 r_1), (14, SV.v s1), (15, .int .i64 1048576), (16, .int .i64 r_1), (17, .int .i64 r_1), (18, .bool (decide (r_1 < 0))), (20, SV.v s1), (21, SV.v s2), (22, .tuple #[SV.v s3, .int .i64 r_4]), (19, .tuple #[SV.v s3, .int .i64 r_4]), (23, SV.v s3), (24, .int .i64 r_4), (4, SV.v s3), (5, .int .i64 r_4), (25, SV.v s1), (26, SV.v s4), (6, SV.v s4), (28, SV.v s4), (29, .tuple #[SV.v s5, .int .i64 r_7]), (27, .tuple #[SV.v s5, .int .i64 r_7]), (30, SV.v s5), (31, .int .i64 r_7), (7, SV.v s5), (8, .int .i64 r_7), (32, SV.v s5), (33, SV.v s3), (34, .bool r_8), (35, .bool (!r_8)), (36, .bool (!r_8)), (40, .bool ((!r_8) || (r_7 != r_4))), (41, SV.v s4), (42, SV.v s1), (43, SV.v s6), (44, .bool r_10), (45, .bool (!r_10)), (9, .int .i64 r_11), (46, SV.v s4), (47, .int .i64 1), (48, .int .i64 r_11), (49, .int .i64 r_11), (50, .bool (decide (r_11 < 0))), (51, .bool (decide (r_11 < 0))), (56, .bool b_1), (57, .bool b_1), (61, .bool (b_1 || (r_7 != r_4))), (10, .int .i64 r_13), (62, SV.v s5), (63, .int .i64 1), (64, .int .i64 r_13), (11, .int .i64 r_14), (65, SV.v s5), (66, .int .i64 1), (67, .int .i64 r_14), (68, .int .i64 r_14), (69, .bool (decide (r_14 < 0))), (70, .int .i64 r_14), (71, .int .i64 r_13), (72, .bool (r_14 != r_13)), (74, SV.v s1), (75, SV.v s7), (76, .tuple #[SV.v s8, .int .i64 r_17]), (73, .tuple #[SV.v s8, .int .i64 r_17]), (77, SV.v s8), (78, .int .i64 r_17), (12, SV.v s8), (13, .int .i64 r_17), (79, SV.v s8), (80, SV.v s3), (81, .bool r_18), (82, .bool (!r_18)), (83, .bool (!r_18))] [mat Ei 2 22 s8 ss10 r_16, mat Ei 2 22 s7 ss9 r_15, mat Ei 2 22 s5 ss8 l2, mat Ei 2 22 s4 ss7 l1, mat Ei 2 22 s6 ss6 r_9, mat Ei 2 22 s3 ss3 r_3, mat Ei 2 22 s2 ss2 r_2] ?_ ?_
                    · refine TL.cases (t := 83) (b := (!r_18)) rfl (fun c19 => ?_) (fun c20 => ?_)
                      · refine TL.skip rfl rfl (by decide) ?_
                        refine TL.skip rfl rfl (by decide) ?_
                        refine TL.skip rfl rfl (by decide) ?_
                        refine TL.pick rfl rfl (b := true) rfl (r := .bool true) rfl ?_
                        refine TL.done ?_
                        exact TC.nrm () () ⟨(by rw [c19]; rfl), rfl, rfl, rfl, rfl, rfl, rfl, rfl, rfl, rfl, rfl, rfl, rfl, rfl, rfl, rfl, rfl, rfl, rfl, rfl, rfl, rfl, rfl, rfl, rfl, rfl, rfl, rfl, rfl, rfl, rfl, rfl, rfl, rfl, rfl, rfl, rfl, rfl, rfl, rfl, rfl, rfl, rfl, rfl, rfl, rfl, rfl, rfl, rfl, rfl, rfl, rfl, rfl, rfl, rfl, rfl, rfl, rfl, rfl, rfl, rfl, rfl, rfl, rfl, rfl, rfl, rfl, rfl, rfl, rfl, rfl, rfl, rfl, (by rw [c19]; rfl), trivial⟩ [0, 0, 0, 0, 0, 0, 0] (by kernel_rfl)
                      · refine TL.move rfl rfl (v := .int .i64 r_17) rfl ?_
                        refine TL.move rfl rfl (v := .int .i64 r_4) rfl ?_
                        refine TL.bin .i64 r_17 r_4 rfl rfl rfl rfl (v := .bool (r_17 != r_4)) rfl ?_
                        refine TL.pick rfl rfl (b := false) rfl (r := .bool (r_17 != r_4)) rfl ?_
                        refine TL.done ?_
                        exact TC.nrm () () ⟨(by rw [c20]; rfl), rfl, rfl, rfl, rfl, rfl, rfl, rfl, rfl, rfl, rfl, rfl, rfl, rfl, rfl, rfl, rfl, rfl, rfl, rfl, rfl, rfl, rfl, rfl, rfl, rfl, rfl, rfl, rfl, rfl, rfl, rfl, rfl, rfl, rfl, rfl, rfl, rfl, rfl, rfl, rfl, rfl, rfl, rfl, rfl, rfl, rfl, rfl, rfl, rfl, rfl, rfl, rfl, rfl, rfl, rfl, rfl, rfl, rfl, rfl, rfl, rfl, rfl, rfl, rfl, rfl, rfl, rfl, rfl, rfl, rfl, rfl, rfl, (by rw [c20]; rfl), trivial⟩ [0, 0, 0, 0, 0, 0, 0] (by kernel_rfl)
                    · refine TL.done ?_
                      refine TC.cond (b := ((!r_18) || (r_17 != r_4))) rfl (fun c21 => ?_) (fun c22 => ?_)
                      · refine TC.seq ?_
                        refine TC.region ?_
                        refine TL.assign rfl rfl (v := .bool false) rfl ?_
                        refine TL.done ?_
                        exact TC.retF (Fin.body (fin1 (.inr rfl) rfl (.tmp rfl) [] rfl ⟨rfl, rfl⟩))
                      · refine TC.skip ?_
                        refine TC.seq ?_
                        refine TC.region ?_
                        refine TL.assign rfl rfl (v := .int .i64 1) rfl ?_
                        refine TL.done ?_
                        refine TC.seq ?_
                        refine TC.region ?_
                        refine TL.move rfl rfl (v := SV.v s5) rfl ?_
                        refine TL.move rfl rfl (v := .int .i64 1) rfl ?_
                        refine TL.call (R := G.laws_heldInt64SS.R) Try.call26 rfl rfl rfl (fun w hS => G.laws_heldInt64SS.calls w s5 ss8 l2 1 ((RdM.mat 2 rfl) w hS)) ?_
                        rintro r_19 _ _ ⟨rfl, rfl⟩
                        refine TL.assign rfl rfl (v := .int .i64 r_19) rfl ?_
                        refine TL.done ?_
                        refine TC.seq ?_
                        refine TC.seq ?_
                        refine TC.region ?_
                        refine TL.move rfl rfl (v := .int .i64 r_19) rfl ?_
                        refine TL.bin .i64 r_19 0 rfl rfl rfl rfl (v := .bool (decide (r_19 < 0))) rfl ?_
                        refine TL.done ?_
                        refine TC.cond (b := (decide (r_19 < 0))) rfl (fun c23 => ?_) (fun c24 => ?_)
                        · refine TC.seq ?_
                          refine TC.region ?_
                          refine TL.assign rfl rfl (v := .bool false) rfl ?_
                          refine TL.done ?_
                          exact TC.retF (Fin.body (fin1 (.inr rfl) rfl (.tmp rfl) [] rfl ⟨rfl, rfl⟩))
                        · refine TC.skip ?_
                          refine TC.seq ?_
                          refine TC.seq ?_
                          refine TC.region ?_
                          refine TL.move rfl rfl (v := .int .i64 r_19) rfl ?_
                          refine TL.move rfl rfl (v := .int .i64 r_13) rfl ?_
                          refine TL.bin .i64 r_19 r_13 rfl rfl rfl rfl (v := .bool (r_19 != r_13)) rfl ?_
                          refine TL.done ?_
                          refine TC.cond (b := (r_19 != r_13)) rfl (fun c25 => ?_) (fun c26 => ?_)
                          · refine TC.seq ?_
                            refine TC.region ?_
                            refine TL.assign rfl rfl (v := .bool false) rfl ?_
                            refine TL.done ?_
                            exact TC.retF (Fin.body (fin1 (.inr rfl) rfl (.tmp rfl) [] rfl ⟨rfl, rfl⟩))
                          · refine TC.skip ?_
                            refine TC.seq ?_
                            refine TC.region ?_
                            refine TL.assign rfl rfl (v := .bool true) rfl ?_
                            refine TL.done ?_
                            exact TC.retF (Fin.body (fin1 (.inr rfl) rfl (.tmp rfl) [] rfl ⟨rfl, rfl⟩))

end Go.Proofs.Ytiiljfpbcanphaa.G
