/- laws.FnExactFlipEdge, as a pure function. -/
import Derived.Test.YtnppkcemnjkboaaProg
import Derived.Test.YtnppkcemnjkboaaSx9
import Derived.Test.YtnppkcemnjkboaaQ13
import Derived.Test.YtnppkcemnjkboaaQ15
import Derived.Test.YtnppkcemnjkboaaQ17
import Derived.Test.YtnppkcemnjkboaaQ20
import Derived.Test.YtnppkcemnjkboaaQ21
import Derived.Test.YtnppkcemnjkboaaQ28
import Derived.Test.YtnppkcemnjkboaaQ29
set_option linter.unusedVariables false
namespace Go.Proofs.Ytnppkcemnjkboaa.G
open Go Go.Sx Go.Proofs

def laws_FnExactFlipEdge.f (x1 : List (List Int)) (x2 : Int) : Option Bool := (G.laws_szInt64SS.f x1 1048576).bind (fun r_1 => (bif (decide (r_1 < 0)) then some true else (G.laws_toInt64SS.f x1).bind (fun r_2 => (G.spec_FlipEdge.f r_2 x2).bind (fun p => match p with | (r_3, r_4) => (G.laws_toInt64SS.f x1).bind (fun r_5 => (G.impl_FlipEdge.f r_5 x2).bind (fun p => match p with | (r_6, r_7) => (G.laws_eqInt64SS.f r_6 r_3).bind (fun r_8 => (bif ((!r_8) || (r_7 != r_4)) then some false else (G.laws_toInt64SS.f x1).bind (fun r_9 => (G.laws_eqInt64SS.f r_5 r_9).bind (fun r_10 => (bif (!r_10) then some false else (G.laws_markInt64SS.f r_5 1).bind (fun p => match p with | (r_11, l1) => (bif (decide (r_11 < 0)) then some true else (G.laws_eqInt64SS.f r_6 r_3).bind (fun r_12 => some (!r_12))).bind (fun b_1 => (bif (b_1 || (r_7 != r_4)) then some false else (G.laws_markInt64SS.f r_6 1).bind (fun p => match p with | (r_13, l2) => (G.laws_heldInt64SS.f l2 1).bind (fun r_14 => (bif (decide (r_14 < 0)) then some false else (bif (r_14 != r_13) then some false else (G.laws_toInt64SS.f x1).bind (fun r_15 => (G.impl_FlipEdge.f r_15 x2).bind (fun p => match p with | (r_16, r_17) => (G.laws_eqInt64SS.f r_16 r_3).bind (fun r_18 => (bif ((!r_18) || (r_17 != r_4)) then some false else (G.laws_heldInt64SS.f l2 1).bind (fun r_19 => (bif (decide (r_19 < 0)) then some false else (bif (r_19 != r_13) then some false else some true)))))))))))))))))))))))))

def laws_FnExactFlipEdge.R (r : Bool) (v : Value) (L : List Asn) : Prop := v = .bool r ∧ L = []

set_option maxRecDepth 100000 in
set_option maxHeartbeats 4000000 in
theorem laws_FnExactFlipEdge.calls (w : World) (s1 : SV) (ss1 : List SV) (x1 : List (List Int)) (x2 : Int) (h1 : ReadsM Ei (hp w) s1 ss1 x1) :
    ∀ r, laws_FnExactFlipEdge.f x1 x2 = some r → Calls Try.prog 8 #[SV.v s1, .int .i64 x2] w (Ret w (laws_FnExactFlipEdge.R r)) := by

  refine calls_T (n := 101) (Γ := [(0, SV.v s1), (1, .int .i64 x2)]) (R := laws_FnExactFlipEdge.R) Try.func8 rfl rfl (Nat.le_of_ble_eq_true rfl) ⟨rfl, rfl, trivial⟩ ?_
  unfold laws_FnExactFlipEdge.f
  refine TC.seq ?_
  refine TC.region ?_
  refine TL.assign rfl rfl (v := .bool false) rfl ?_
  refine TL.done ?_
  refine TC.seq ?_
  refine TC.region ?_
  refine TL.assign rfl rfl (v := .int .i64 1048576) rfl ?_
  refine TL.done ?_
  refine TC.seq ?_
  refine TC.region ?_
  refine TL.move rfl rfl (v := SV.v s1) rfl ?_
  refine TL.move rfl rfl (v := .int .i64 1048576) rfl ?_
  refine TL.call (R := G.laws_szInt64SS.R) Try.call13 rfl rfl rfl (fun w hS => G.laws_szInt64SS.calls w s1 ss1 x1 1048576 ((RdM.old h1) w hS)) ?_
  rintro r_1 _ _ ⟨rfl, rfl⟩
  refine TL.assign rfl rfl (v := .int .i64 r_1) rfl ?_
  refine TL.done ?_
  refine TC.seq ?_
  refine TC.seq ?_
  refine TC.region ?_
  refine TL.move rfl rfl (v := .int .i64 r_1) rfl ?_
  refine TL.bin .i64 r_1 0 rfl rfl rfl rfl (v := .bool (decide (r_1 < 0))) rfl ?_
  refine TL.done ?_
  refine TC.cond (b := (decide (r_1 < 0))) rfl (fun c1 => ?_) (fun c2 => ?_)
  · refine TC.seq ?_
    refine TC.region ?_
    refine TL.assign rfl rfl (v := .bool true) rfl ?_
    refine TL.done ?_
    exact TC.retF (Fin.body (fin1 (.inr rfl) rfl (.tmp rfl) [] rfl ⟨rfl, rfl⟩))
  · refine TC.skip ?_
    refine TC.seq ?_
    refine TC.region ?_
    refine TL.move rfl rfl (v := SV.v s1) rfl ?_
    refine TL.call (R := G.laws_toInt64SS.R) Try.call15 rfl rfl rfl (fun w hS => G.laws_toInt64SS.calls w s1 ss1 x1 ((RdM.old h1) w hS)) ?_
    rintro r_2 _ _ ⟨s2, ss2, rfl, rfl⟩
    refine TL.move rfl rfl (v := .int .i64 x2) rfl ?_
    refine TL.call (R := G.spec_FlipEdge.R) Try.call28 rfl rfl rfl (fun w hS => G.spec_FlipEdge.calls w s2 ss2 r_2 x2 ((RdM.mat 0 rfl) w hS)) ?_
    rintro ⟨r_3, r_4⟩ _ _ ⟨s3, ss3, rfl, rfl⟩
    refine TL.move rfl rfl (v := .tuple #[SV.v s3, .int .i64 r_4]) rfl ?_
    refine TL.extract rfl rfl rfl (v := SV.v s3) rfl ?_
    refine TL.extract rfl rfl rfl (v := .int .i64 r_4) rfl ?_
    refine TL.assign rfl rfl (v := SV.v s3) rfl ?_
    refine TL.assign rfl rfl (v := .int .i64 r_4) rfl ?_
    refine TL.done ?_
    refine TC.seq ?_
    refine TC.region ?_
    refine TL.move rfl rfl (v := SV.v s1) rfl ?_
    refine TL.call (R := G.laws_toInt64SS.R) Try.call15 rfl rfl rfl (fun w hS => G.laws_toInt64SS.calls w s1 ss1 x1 ((RdM.old h1) w hS)) ?_
    rintro r_5 _ _ ⟨s4, ss4, rfl, rfl⟩
    refine TL.assign rfl rfl (v := SV.v s4) rfl ?_
    refine TL.done ?_
    refine TC.seq ?_
    refine TC.region ?_
    refine TL.move rfl rfl (v := SV.v s4) rfl ?_
    refine TL.move rfl rfl (v := .int .i64 x2) rfl ?_
    refine TL.call (R := G.impl_FlipEdge.R) Try.call29 rfl rfl rfl (fun w hS => G.impl_FlipEdge.calls w s4 ss4 r_5 x2 ((RdM.mat 0 rfl) w hS)) ?_
    rintro ⟨r_6, r_7⟩ _ _ ⟨s5, ss5, rfl, rfl⟩
    refine TL.move rfl rfl (v := .tuple #[SV.v s5, .int .i64 r_7]) rfl ?_
    refine TL.extract rfl rfl rfl (v := SV.v s5) rfl ?_
    refine TL.extract rfl rfl rfl (v := .int .i64 r_7) rfl ?_
    refine TL.assign rfl rfl (v := SV.v s5) rfl ?_
    refine TL.assign rfl rfl (v := .int .i64 r_7) rfl ?_
    refine TL.done ?_
    refine TC.seq ?_
    refine TC.seq ?_
    refine TC.region ?_
    refine TL.move rfl rfl (v := SV.v s5) rfl ?_
    refine TL.move rfl rfl (v := SV.v s3) rfl ?_
    refine TL.call (R := G.laws_eqInt64SS.R) Try.call17 rfl rfl rfl (fun w hS => G.laws_eqInt64SS.calls w s5 ss5 r_6 s3 ss3 r_3 ((RdM.mat 0 rfl) w hS) ((RdM.mat 2 rfl) w hS)) ?_
    rintro r_8 _ _ ⟨rfl, rfl⟩
    refine TL.not r_8 rfl rfl rfl ?_
    refine TL.move rfl rfl (v := .bool (!r_8)) rfl ?_
    refine TL.cutU 4 [(44, .bool ((!r_8) || (r_7 != r_4))), (0, SV.v s1), (1, .int .i64 x2), (4, .bool false), (5, .int .i64 r_1), (16, SV.v s1), (17, .int .i64 1048576), (18, .int .i64 r_1), (19, .int .i64 r_1), (20, .bool (decide (r_1 < 0))), (22, SV.v s1), (23, SV.v s2), (24, .int .i64 x2), (25, .tuple #[SV.v s3, .int .i64 r_4]), (21, .tuple #[SV.v s3, .int .i64 r_4]), (26, SV.v s3), (27, .int .i64 r_4), (6, SV.v s3), (7, .int .i64 r_4), (28, SV.v s1), (29, SV.v s4), (8, SV.v s4), (31, SV.v s4), (32, .int .i64 x2), (33, .tuple #[SV.v s5, .int .i64 r_7]), (30, .tuple #[SV.v s5, .int .i64 r_7]), (34, SV.v s5), (35, .int .i64 r_7), (9, SV.v s5), (10, .int .i64 r_7), (36, SV.v s5), (37, SV.v s3), (38, .bool r_8), (39, .bool (!r_8)), (40, .bool (!r_8))] [mat Ei 2 53 s5 ss5 r_6, mat Ei 2 53 s4 ss4 r_5, mat Ei 2 53 s3 ss3 r_3, mat Ei 2 53 s2 ss2 r_2] ?_ ?_
    · refine TL.cases (t := 40) (b := (!r_8)) rfl (fun c3 => ?_) (fun c4 => ?_)
      · refine TL.skip rfl rfl (by decide) ?_
        refine TL.skip rfl rfl (by decide) ?_
        refine TL.skip rfl rfl (by decide) ?_
        refine TL.pick rfl rfl (b := true) rfl (r := .bool true) rfl ?_
        refine TL.done ?_
        exact TC.nrm () () ⟨(by rw [c3]; rfl), rfl, rfl, rfl, rfl, rfl, rfl, rfl, rfl, rfl, rfl, rfl, rfl, rfl, rfl, rfl, rfl, rfl, rfl, rfl, rfl, rfl, rfl, rfl, rfl, rfl, rfl, rfl, rfl, rfl, rfl, rfl, rfl, rfl, (by rw [c3]; rfl), trivial⟩ [0, 0, 0, 0] rfl
      · refine TL.move rfl rfl (v := .int .i64 r_7) rfl ?_
        refine TL.move rfl rfl (v := .int .i64 r_4) rfl ?_
        refine TL.bin .i64 r_7 r_4 rfl rfl rfl rfl (v := .bool (r_7 != r_4)) rfl ?_
        refine TL.pick rfl rfl (b := false) rfl (r := .bool (r_7 != r_4)) rfl ?_
        refine TL.done ?_
        exact TC.nrm () () ⟨(by rw [c4]; rfl), rfl, rfl, rfl, rfl, rfl, rfl, rfl, rfl, rfl, rfl, rfl, rfl, rfl, rfl, rfl, rfl, rfl, rfl, rfl, rfl, rfl, rfl, rfl, rfl, rfl, rfl, rfl, rfl, rfl, rfl, rfl, rfl, rfl, (by rw [c4]; rfl), trivial⟩ [0, 0, 0, 0] rfl
    · refine TL.done ?_
      refine TC.cond (b := ((!r_8) || (r_7 != r_4))) rfl (fun c5 => ?_) (fun c6 => ?_)
      · refine TC.seq ?_
        refine TC.region ?_
        refine TL.assign rfl rfl (v := .bool false) rfl ?_
        refine TL.done ?_
        exact TC.retF (Fin.body (fin1 (.inr rfl) rfl (.tmp rfl) [] rfl ⟨rfl, rfl⟩))
      · refine TC.skip ?_
        refine TC.seq ?_
        refine TC.seq ?_
        refine TC.region ?_
        refine TL.move rfl rfl (v := SV.v s4) rfl ?_
        refine TL.move rfl rfl (v := SV.v s1) rfl ?_
        refine TL.call (R := G.laws_toInt64SS.R) Try.call15 rfl rfl rfl (fun w hS => G.laws_toInt64SS.calls w s1 ss1 x1 ((RdM.old h1) w hS)) ?_
        rintro r_9 _ _ ⟨s6, ss6, rfl, rfl⟩
        refine TL.call (R := G.laws_eqInt64SS.R) Try.call17 rfl rfl rfl (fun w hS => G.laws_eqInt64SS.calls w s4 ss4 r_5 s6 ss6 r_9 ((RdM.mat 2 rfl) w hS) ((RdM.mat 0 rfl) w hS)) ?_
        rintro r_10 _ _ ⟨rfl, rfl⟩
        refine TL.not r_10 rfl rfl rfl ?_
        refine TL.done ?_
        refine TC.cond (b := (!r_10)) rfl (fun c7 => ?_) (fun c8 => ?_)
        · refine TC.seq ?_
          refine TC.region ?_
          refine TL.assign rfl rfl (v := .bool false) rfl ?_
          refine TL.done ?_
          exact TC.retF (Fin.body (fin1 (.inr rfl) rfl (.tmp rfl) [] rfl ⟨rfl, rfl⟩))
        · refine TC.skip ?_
          refine TC.seq ?_
          refine TC.region ?_
          refine TL.assign rfl rfl (v := .int .i64 1) rfl ?_
          refine TL.done ?_
          refine TC.seq ?_
          refine TC.region ?_
          refine TL.move rfl rfl (v := SV.v s4) rfl ?_
          refine TL.move rfl rfl (v := .int .i64 1) rfl ?_
          refine TL.callX (R := G.laws_markInt64SS.R s4) [2, 0, 0, 0, 0] [mat Ei 2 53 s4 ss4 r_5] [mat Ei 2 53 s6 ss6 r_9, mat Ei 2 53 s5 ss5 r_6, mat Ei 2 53 s3 ss3 r_3, mat Ei 2 53 s2 ss2 r_2] rfl Try.call20 rfl rfl rfl (fun w I_ hle hB hS => G.laws_markInt64SS.calls _ I_ w s4 ss4 r_5 1 hS) ?_
          rintro ⟨r_11, l1⟩ _ _ ⟨ss7, rfl, rfl⟩
          refine TL.assign rfl rfl (v := .int .i64 r_11) rfl ?_
          refine TL.done ?_
          refine TC.seq ?_
          refine TC.seq ?_
          refine TC.region ?_
          refine TL.move rfl rfl (v := .int .i64 r_11) rfl ?_
          refine TL.bin .i64 r_11 0 rfl rfl rfl rfl (v := .bool (decide (r_11 < 0))) rfl ?_
          refine TL.move rfl rfl (v := .bool (decide (r_11 < 0))) rfl ?_
          refine TL.cutJ (σ := Bool) (γ := Unit) (Γ' := fun b_1 _ => [(60, .bool b_1), (0, SV.v s1), (1, .int .i64 x2), (4, .bool false), (5, .int .i64 r_1), (16, SV.v s1), (17, .int .i64 1048576), (18, .int .i64 r_1), (19, .int .i64 r_1), (20, .bool (decide (r_1 < 0))), (22, SV.v s1), (23, SV.v s2), (24, .int .i64 x2), (25, .tuple #[SV.v s3, .int .i64 r_4]), (21, .tuple #[SV.v s3, .int .i64 r_4]), (26, SV.v s3), (27, .int .i64 r_4), (6, SV.v s3), (7, .int .i64 r_4), (28, SV.v s1), (29, SV.v s4), (8, SV.v s4), (31, SV.v s4), (32, .int .i64 x2), (33, .tuple #[SV.v s5, .int .i64 r_7]), (30, .tuple #[SV.v s5, .int .i64 r_7]), (34, SV.v s5), (35, .int .i64 r_7), (9, SV.v s5), (10, .int .i64 r_7), (36, SV.v s5), (37, SV.v s3), (38, .bool r_8), (39, .bool (!r_8)), (40, .bool (!r_8)), (44, .bool ((!r_8) || (r_7 != r_4))), (45, SV.v s4), (46, SV.v s1), (47, SV.v s6), (48, .bool r_10), (49, .bool (!r_10)), (11, .int .i64 r_11), (50, SV.v s4), (51, .int .i64 1), (52, .int .i64 r_11), (53, .int .i64 r_11), (54, .bool (decide (r_11 < 0))), (55, .bool (decide (r_11 < 0)))]) (L' := fun _ _ => [mat Ei 2 53 s4 ss7 l1, mat Ei 2 53 s6 ss6 r_9, mat Ei 2 53 s5 ss5 r_6, mat Ei 2 53 s3 ss3 r_3, mat Ei 2 53 s2 ss2 r_2]) 5 ?_ ?_
          · refine TL.ifb (t := 55) (b := (decide (r_11 < 0))) rfl (fun c9 => ?_) (fun c10 => ?_)
            · refine TL.skip rfl rfl (by decide) ?_
              refine TL.skip rfl rfl (by decide) ?_
              refine TL.skip rfl rfl (by decide) ?_
              refine TL.skip rfl rfl (by decide) ?_
              refine TL.pick rfl rfl (b := true) rfl (r := .bool true) rfl ?_
              refine TL.done ?_
              exact TC.nrm (true) () ⟨rfl, rfl, rfl, rfl, rfl, rfl, rfl, rfl, rfl, rfl, rfl, rfl, rfl, rfl, rfl, rfl, rfl, rfl, rfl, rfl, rfl, rfl, rfl, rfl, rfl, rfl, rfl, rfl, rfl, rfl, rfl, rfl, rfl, rfl, rfl, rfl, rfl, rfl, rfl, rfl, rfl, rfl, rfl, rfl, rfl, rfl, rfl, (by rw [c9]; rfl), trivial⟩ [0, 0, 0, 0, 0] rfl
            · refine TL.move rfl rfl (v := SV.v s5) rfl ?_
              refine TL.move rfl rfl (v := SV.v s3) rfl ?_
              refine TL.call (R := G.laws_eqInt64SS.R) Try.call17 rfl rfl rfl (fun w hS => G.laws_eqInt64SS.calls w s5 ss5 r_6 s3 ss3 r_3 ((RdM.mat 2 rfl) w hS) ((RdM.mat 3 rfl) w hS)) ?_
              rintro r_12 _ _ ⟨rfl, rfl⟩
              refine TL.not r_12 rfl rfl rfl ?_
              refine TL.pick rfl rfl (b := false) rfl (r := .bool (!r_12)) rfl ?_
              refine TL.done ?_
              exact TC.nrm ((!r_12)) () ⟨rfl, rfl, rfl, rfl, rfl, rfl, rfl, rfl, rfl, rfl, rfl, rfl, rfl, rfl, rfl, rfl, rfl, rfl, rfl, rfl, rfl, rfl, rfl, rfl, rfl, rfl, rfl, rfl, rfl, rfl, rfl, rfl, rfl, rfl, rfl, rfl, rfl, rfl, rfl, rfl, rfl, rfl, rfl, rfl, rfl, rfl, rfl, (by rw [c10]; rfl), trivial⟩ [0, 0, 0, 0, 0] rfl
          · rintro b_1 _
            refine TL.move rfl rfl (v := .bool b_1) rfl ?_
            refine TL.cutU 4 [(65, .bool (b_1 || (r_7 != r_4))), (0, SV.v s1), (1, .int .i64 x2), (4, .bool false), (5, .int .i64 r_1), (16, SV.v s1), (17, .int .i64 1048576), (18, .int .i64 r_1), (19, .int .i64 r_1), (20, .bool (decide (r_1 < 0))), (22, SV.v s1), (23, SV.v s2), (24, .int .i64 x2), (25, .tuple #[SV.v s3, .int .i64 r_4]), (21, .tuple #[SV.v s3, .int .i64 r_4]), (26, SV.v s3), (27, .int .i64 r_4), (6, SV.v s3), (7, .int .i64 r_4), (28, SV.v s1), (29, SV.v s4), (8, SV.v s4), (31, SV.v s4), (32, .int .i64 x2), (33, .tuple #[SV.v s5, .int .i64 r_7]), (30, .tuple #[SV.v s5, .int .i64 r_7]), (34, SV.v s5), (35, .int .i64 r_7), (9, SV.v s5), (10, .int .i64 r_7), (36, SV.v s5), (37, SV.v s3), (38, .bool r_8), (39, .bool (!r_8)), (40, .bool (!r_8)), (44, .bool ((!r_8) || (r_7 != r_4))), (45, SV.v s4), (46, SV.v s1), (47, SV.v s6), (48, .bool r_10), (49, .bool (!r_10)), (11, .int .i64 r_11), (50, SV.v s4), (51, .int .i64 1), (52, .int .i64 r_11), (53, .int .i64 r_11), (54, .bool (decide (r_11 < 0))), (55, .bool (decide (r_11 < 0))), (60, .bool b_1), (61, .bool b_1)] [mat Ei 2 53 s4 ss7 l1, mat Ei 2 53 s6 ss6 r_9, mat Ei 2 53 s5 ss5 r_6, mat Ei 2 53 s3 ss3 r_3, mat Ei 2 53 s2 ss2 r_2] ?_ ?_
            · refine TL.cases (t := 61) (b := b_1) rfl (fun c11 => ?_) (fun c12 => ?_)
              · refine TL.skip rfl rfl (by decide) ?_
                refine TL.skip rfl rfl (by decide) ?_
                refine TL.skip rfl rfl (by decide) ?_
                refine TL.pick rfl rfl (b := true) rfl (r := .bool true) rfl ?_
                refine TL.done ?_
                exact TC.nrm () () ⟨(by rw [c11]; rfl), rfl, rfl, rfl, rfl, rfl, rfl, rfl, rfl, rfl, rfl, rfl, rfl, rfl, rfl, rfl, rfl, rfl, rfl, rfl, rfl, rfl, rfl, rfl, rfl, rfl, rfl, rfl, rfl, rfl, rfl, rfl, rfl, rfl, rfl, rfl, rfl, rfl, rfl, rfl, rfl, rfl, rfl, rfl, rfl, rfl, rfl, rfl, rfl, (by rw [c11]; rfl), trivial⟩ [0, 0, 0, 0, 0] rfl
              · refine TL.move rfl rfl (v := .int .i64 r_7) rfl ?_
                refine TL.move rfl rfl (v := .int .i64 r_4) rfl ?_
                refine TL.bin .i64 r_7 r_4 rfl rfl rfl rfl (v := .bool (r_7 != r_4)) rfl ?_
                refine TL.pick rfl rfl (b := false) rfl (r := .bool (r_7 != r_4)) rfl ?_
                refine TL.done ?_
                exact TC.nrm () () ⟨(by rw [c12]; rfl), rfl, rfl, rfl, rfl, rfl, rfl, rfl, rfl, rfl, rfl, rfl, rfl, rfl, rfl, rfl, rfl, rfl, rfl, rfl, rfl, rfl, rfl, rfl, rfl, rfl, rfl, rfl, rfl, rfl, rfl, rfl, rfl, rfl, rfl, rfl, rfl, rfl, rfl, rfl, rfl, rfl, rfl, rfl, rfl, rfl, rfl, rfl, rfl, (by rw [c12]; rfl), trivial⟩ [0, 0, 0, 0, 0] rfl
            · refine TL.done ?_
              refine TC.cond (b := (b_1 || (r_7 != r_4))) rfl (fun c13 => ?_) (fun c14 => ?_)
              · refine TC.seq ?_
                refine TC.region ?_
                refine TL.assign rfl rfl (v := .bool false) rfl ?_
                refine TL.done ?_
                exact TC.retF (Fin.body (fin1 (.inr rfl) rfl (.tmp rfl) [] rfl ⟨rfl, rfl⟩))
              · refine TC.skip ?_
                refine TC.seq ?_
                refine TC.region ?_
                refine TL.assign rfl rfl (v := .int .i64 1) rfl ?_
                refine TL.done ?_
                refine TC.seq ?_
                refine TC.region ?_
                refine TL.move rfl rfl (v := SV.v s5) rfl ?_
                refine TL.move rfl rfl (v := .int .i64 1) rfl ?_
                refine TL.callX (R := G.laws_markInt64SS.R s5) [2, 0, 0, 0, 0] [mat Ei 2 53 s5 ss5 r_6] [mat Ei 2 53 s4 ss7 l1, mat Ei 2 53 s6 ss6 r_9, mat Ei 2 53 s3 ss3 r_3, mat Ei 2 53 s2 ss2 r_2] rfl Try.call20 rfl rfl rfl (fun w I_ hle hB hS => G.laws_markInt64SS.calls _ I_ w s5 ss5 r_6 1 hS) ?_
                rintro ⟨r_13, l2⟩ _ _ ⟨ss8, rfl, rfl⟩
                refine TL.assign rfl rfl (v := .int .i64 r_13) rfl ?_
                refine TL.done ?_
                refine TC.seq ?_
                refine TC.region ?_
                refine TL.assign rfl rfl (v := .int .i64 1) rfl ?_
                refine TL.done ?_
                refine TC.seq ?_
                refine TC.region ?_
                refine TL.move rfl rfl (v := SV.v s5) rfl ?_
                refine TL.move rfl rfl (v := .int .i64 1) rfl ?_
                refine TL.call (R := G.laws_heldInt64SS.R) Try.call21 rfl rfl rfl (fun w hS => G.laws_heldInt64SS.calls w s5 ss8 l2 1 ((RdM.mat 0 rfl) w hS)) ?_
                rintro r_14 _ _ ⟨rfl, rfl⟩
                refine TL.assign rfl rfl (v := .int .i64 r_14) rfl ?_
                refine TL.done ?_
                refine TC.seq ?_
                refine TC.seq ?_
                refine TC.region ?_
                refine TL.move rfl rfl (v := .int .i64 r_14) rfl ?_
                refine TL.bin .i64 r_14 0 rfl rfl rfl rfl (v := .bool (decide (r_14 < 0))) rfl ?_
                refine TL.done ?_
                refine TC.cond (b := (decide (r_14 < 0))) rfl (fun c15 => ?_) (fun c16 => ?_)
                · refine TC.seq ?_
                  refine TC.region ?_
                  refine TL.assign rfl rfl (v := .bool false) rfl ?_
                  refine TL.done ?_
                  exact TC.retF (Fin.body (fin1 (.inr rfl) rfl (.tmp rfl) [] rfl ⟨rfl, rfl⟩))
                · refine TC.skip ?_
                  refine TC.seq ?_
                  refine TC.seq ?_
                  refine TC.region ?_
                  refine TL.move rfl rfl (v := .int .i64 r_14) rfl ?_
                  refine TL.move rfl rfl (v := .int .i64 r_13) rfl ?_
                  refine TL.bin .i64 r_14 r_13 rfl rfl rfl rfl (v := .bool (r_14 != r_13)) rfl ?_
                  refine TL.done ?_
                  refine TC.cond (b := (r_14 != r_13)) rfl (fun c17 => ?_) (fun c18 => ?_)
                  · refine TC.seq ?_
                    refine TC.region ?_
                    refine TL.assign rfl rfl (v := .bool false) rfl ?_
                    refine TL.done ?_
                    exact TC.retF (Fin.body (fin1 (.inr rfl) rfl (.tmp rfl) [] rfl ⟨rfl, rfl⟩))
                  · refine TC.skip ?_
                    refine TC.seq ?_
                    refine TC.region ?_
                    refine TL.move rfl rfl (v := SV.v s1) rfl ?_
                    refine TL.call (R := G.laws_toInt64SS.R) Try.call15 rfl rfl rfl (fun w hS => G.laws_toInt64SS.calls w s1 ss1 x1 ((RdM.old h1) w hS)) ?_
                    rintro r_15 _ _ ⟨s7, ss9, rfl, rfl⟩
                    refine TL.move rfl rfl (v := .int .i64 x2) rfl ?_
                    refine TL.call (R := G.impl_FlipEdge.R) Try.call29 rfl rfl rfl (fun w hS => G.impl_FlipEdge.calls w s7 ss9 r_15 x2 ((RdM.mat 0 rfl) w hS)) ?_
                    rintro ⟨r_16, r_17⟩ _ _ ⟨s8, ss10, rfl, rfl⟩
                    refine TL.move rfl rfl (v := .tuple #[SV.v s8, .int .i64 r_17]) rfl ?_
                    refine TL.extract rfl rfl rfl (v := SV.v s8) rfl ?_
                    refine TL.extract rfl rfl rfl (v := .int .i64 r_17) rfl ?_
                    refine TL.assign rfl rfl (v := SV.v s8) rfl ?_
                    refine TL.assign rfl rfl (v := .int .i64 r_17) rfl ?_
                    refine TL.done ?_
                    refine TC.seq ?_
                    refine TC.seq ?_
                    refine TC.region ?_
                    refine TL.move rfl rfl (v := SV.v s8) rfl ?_
                    refine TL.move rfl rfl (v := SV.v s3) rfl ?_
                    refine TL.call (R := G.laws_eqInt64SS.R) Try.call17 rfl rfl rfl (fun w hS => G.laws_eqInt64SS.calls w s8 ss10 r_16 s3 ss3 r_3 ((RdM.mat 0 rfl) w hS) ((RdM.mat 5 rfl) w hS)) ?_
                    rintro r_18 _ _ ⟨rfl, rfl⟩
                    refine TL.not r_18 rfl rfl rfl ?_
                    refine TL.move rfl rfl (v := .bool (!r_18)) rfl ?_
                    refine TL.cutU 4 [(92, .bool ((!r_18) || (r_17 != r_4))), (0, SV.v s1), (1, .int .i64 x2), (4, .bool false), (5, .int .i64 r_1), (16, SV.v s1), (17, .int .i64 1048576), (18, .int .i64 r_1), (19, .int .i64 r_1), (20, .bool (decide (r_1 < 0))), (22, SV.v s1), (23, SV.v s2), (24, .int .i64 x2), (25, .tuple #[SV.v s3, .int .i64 r_4]), (21, .tuple #[SV.v s3, .int .i64 r_4]), (26, SV.v s3), (27, .int .i64 r_4), (6, SV.v s3), (7, .int .i64 r_4), (28, SV.v s1), (29, SV.v s4), (8, SV.v s4), (31, SV.v s4), (32, .int .i64 x2), (33, .tuple #[SV.v s5, .int .i64 r_7]), (30, .tuple #[SV.v s5, .int .i64 r_7]), (34, SV.v s5), (35, .int .i64 r_7), (9, SV.v s5), (10, .int .i64 r_7), (36, SV.v s5), (37, SV.v s3), (38, .bool r_8), (39, .bool (!r_8)), (40, .bool (!r_8)), (44, .bool ((!r_8) || (r_7 != r_4))), (45, SV.v s4), (46, SV.v s1), (47, SV.v s6), (48, .bool r_10), (49, .bool (!r_10)), (11, .int .i64 r_11), (50, SV.v s4), (51, .int .i64 1), (52, .int .i64 r_11), (53, .int .i64 r_11), (54, .bool (decide (r_11 < 0))), (55, .bool (decide (r_11 < 0))), (60, .bool b_1), (61, .bool b_1), (65, .bool (b_1 || (r_7 != r_4))), (12, .int .i64 r_13), (66, SV.v s5), (67, .int .i64 1), (68, .int .i64 r_13), (13, .int .i64 r_14), (69, SV.v s5), (70, .int .i64 1), (71, .int .i64 r_14), (72, .int .i64 r_14), (73, .bool (decide (r_14 < 0))), (74, .int .i64 r_14), (75, .int .i64 r_13), (76, .bool (r_14 != r_13)), (78, SV.v s1), (79, SV.v s7), (80, .int .i64 x2), (81, .tuple #[SV.v s8, .int .i64 r_17]), (77, .tuple #[SV.v s8, .int .i64 r_17]), (82, SV.v s8), (83, .int .i64 r_17), (14, SV.v s8), (15, .int .i64 r_17), (84, SV.v s8), (85, SV.v s3), (86, .bool r_18), (87, .bool (!r_18)), (88, .bool (!r_18))] [mat Ei 2 53 s8 ss10 r_16, mat Ei 2 53 s7 ss9 r_15, mat Ei 2 53 s5 ss8 l2, mat Ei 2 53 s4 ss7 l1, mat Ei 2 53 s6 ss6 r_9, mat Ei 2 53 s3 ss3 r_3, mat Ei 2 53 s2 ss2 r_2] ?_ ?_
                    · refine TL.cases (t := 88) (b := (!r_18)) rfl (fun c19 => ?_) (fun c20 => ?_)
                      · refine TL.skip rfl rfl (by decide) ?_
                        refine TL.skip rfl rfl (by decide) ?_
                        refine TL.skip rfl rfl (by decide) ?_
                        refine TL.pick rfl rfl (b := true) rfl (r := .bool true) rfl ?_
                        refine TL.done ?_
                        exact TC.nrm () () ⟨(by rw [c19]; rfl), rfl, rfl, rfl, rfl, rfl, rfl, rfl, rfl, rfl, rfl, rfl, rfl, rfl, rfl, rfl, rfl, rfl, rfl, rfl, rfl, rfl, rfl, rfl, rfl, rfl, rfl, rfl, rfl, rfl, rfl, rfl, rfl, rfl, rfl, rfl, rfl, rfl, rfl, rfl, rfl, rfl, rfl, rfl, rfl, rfl, rfl, rfl, rfl, rfl, rfl, rfl, rfl, rfl, rfl, rfl, rfl, rfl, rfl, rfl, rfl, rfl, rfl, rfl, rfl, rfl, rfl, rfl, rfl, rfl, rfl, rfl, rfl, rfl, rfl, rfl, rfl, (by rw [c19]; rfl), trivial⟩ [0, 0, 0, 0, 0, 0, 0] rfl
                      · refine TL.move rfl rfl (v := .int .i64 r_17) rfl ?_
                        refine TL.move rfl rfl (v := .int .i64 r_4) rfl ?_
                        refine TL.bin .i64 r_17 r_4 rfl rfl rfl rfl (v := .bool (r_17 != r_4)) rfl ?_
                        refine TL.pick rfl rfl (b := false) rfl (r := .bool (r_17 != r_4)) rfl ?_
                        refine TL.done ?_
                        exact TC.nrm () () ⟨(by rw [c20]; rfl), rfl, rfl, rfl, rfl, rfl, rfl, rfl, rfl, rfl, rfl, rfl, rfl, rfl, rfl, rfl, rfl, rfl, rfl, rfl, rfl, rfl, rfl, rfl, rfl, rfl, rfl, rfl, rfl, rfl, rfl, rfl, rfl, rfl, rfl, rfl, rfl, rfl, rfl, rfl, rfl, rfl, rfl, rfl, rfl, rfl, rfl, rfl, rfl, rfl, rfl, rfl, rfl, rfl, rfl, rfl, rfl, rfl, rfl, rfl, rfl, rfl, rfl, rfl, rfl, rfl, rfl, rfl, rfl, rfl, rfl, rfl, rfl, rfl, rfl, rfl, rfl, (by rw [c20]; rfl), trivial⟩ [0, 0, 0, 0, 0, 0, 0] rfl
                    · refine TL.done ?_
                      refine TC.cond (b := ((!r_18) || (r_17 != r_4))) rfl (fun c21 => ?_) (fun c22 => ?_)
                      · refine TC.seq ?_
                        refine TC.region ?_
                        refine TL.assign rfl rfl (v := .bool false) rfl ?_
                        refine TL.done ?_
                        exact TC.retF (Fin.body (fin1 (.inr rfl) rfl (.tmp rfl) [] rfl ⟨rfl, rfl⟩))
                      · refine TC.skip ?_
                        refine TC.seq ?_
                        refine TC.region ?_
                        refine TL.assign rfl rfl (v := .int .i64 1) rfl ?_
                        refine TL.done ?_
                        refine TC.seq ?_
                        refine TC.region ?_
                        refine TL.move rfl rfl (v := SV.v s5) rfl ?_
                        refine TL.move rfl rfl (v := .int .i64 1) rfl ?_
                        refine TL.call (R := G.laws_heldInt64SS.R) Try.call21 rfl rfl rfl (fun w hS => G.laws_heldInt64SS.calls w s5 ss8 l2 1 ((RdM.mat 2 rfl) w hS)) ?_
                        rintro r_19 _ _ ⟨rfl, rfl⟩
                        refine TL.assign rfl rfl (v := .int .i64 r_19) rfl ?_
                        refine TL.done ?_
                        refine TC.seq ?_
                        refine TC.seq ?_
                        refine TC.region ?_
                        refine TL.move rfl rfl (v := .int .i64 r_19) rfl ?_
                        refine TL.bin .i64 r_19 0 rfl rfl rfl rfl (v := .bool (decide (r_19 < 0))) rfl ?_
                        refine TL.done ?_
                        refine TC.cond (b := (decide (r_19 < 0))) rfl (fun c23 => ?_) (fun c24 => ?_)
                        · refine TC.seq ?_
                          refine TC.region ?_
                          refine TL.assign rfl rfl (v := .bool false) rfl ?_
                          refine TL.done ?_
                          exact TC.retF (Fin.body (fin1 (.inr rfl) rfl (.tmp rfl) [] rfl ⟨rfl, rfl⟩))
                        · refine TC.skip ?_
                          refine TC.seq ?_
                          refine TC.seq ?_
                          refine TC.region ?_
                          refine TL.move rfl rfl (v := .int .i64 r_19) rfl ?_
                          refine TL.move rfl rfl (v := .int .i64 r_13) rfl ?_
                          refine TL.bin .i64 r_19 r_13 rfl rfl rfl rfl (v := .bool (r_19 != r_13)) rfl ?_
                          refine TL.done ?_
                          refine TC.cond (b := (r_19 != r_13)) rfl (fun c25 => ?_) (fun c26 => ?_)
                          · refine TC.seq ?_
                            refine TC.region ?_
                            refine TL.assign rfl rfl (v := .bool false) rfl ?_
                            refine TL.done ?_
                            exact TC.retF (Fin.body (fin1 (.inr rfl) rfl (.tmp rfl) [] rfl ⟨rfl, rfl⟩))
                          · refine TC.skip ?_
                            refine TC.seq ?_
                            refine TC.region ?_
                            refine TL.assign rfl rfl (v := .bool true) rfl ?_
                            refine TL.done ?_
                            exact TC.retF (Fin.body (fin1 (.inr rfl) rfl (.tmp rfl) [] rfl ⟨rfl, rfl⟩))

end Go.Proofs.Ytnppkcemnjkboaa.G
