/- laws.FnExactCoboundaryOf, as a pure function. -/
import Derived.Test.YtcombgcjgdkbiaaProg
import Derived.Test.YtcombgcjgdkbiaaSx9
import Derived.Test.YtcombgcjgdkbiaaQ16
import Derived.Test.YtcombgcjgdkbiaaQ18
import Derived.Test.YtcombgcjgdkbiaaQ19
import Derived.Test.YtcombgcjgdkbiaaQ24
import Derived.Test.YtcombgcjgdkbiaaQ39
import Derived.Test.YtcombgcjgdkbiaaQ40
import Derived.Test.YtcombgcjgdkbiaaQ41
import Derived.Test.YtcombgcjgdkbiaaQ42
import Derived.Test.YtcombgcjgdkbiaaQ43
set_option linter.unusedVariables false
namespace Go.Proofs.Ytcombgcjgdkbiaa.G
open Go Go.Sx Go.Proofs

def laws_FnExactCoboundaryOf.f (x1 : Int) (x2 : Int) (x3 : Nat → UInt8) (x4 : List Int) : Option Bool := (bif (decide ((x4.length : Int) > 1048576)) then some true else (G.laws_toGroup.f x2 x3).bind (fun p => match p with | (r_1, r_2) => (G.laws_toInt64S.f x4).bind (fun r_3 => (G.spec_CoboundaryOf.f x1 r_1 r_2 r_3).bind (fun p => match p with | (r_4, r_5) => (G.laws_toInt64S.f x4).bind (fun r_6 => (G.laws_toGroup.f x2 x3).bind (fun p => match p with | (r_7, r_8) => (G.impl_CoboundaryOf.f x1 r_7 r_8 r_6).bind (fun p => match p with | (r_9, r_10) => (G.laws_eqInt64SS.f r_9 r_4).bind (fun r_11 => (bif ((!r_11) || (r_10 != r_5)) then some false else (G.laws_toInt64S.f x4).bind (fun r_12 => (G.laws_eqInt64S.f r_6 r_12).bind (fun r_13 => (bif (!r_13) then some false else (G.laws_markInt64S.f r_6 1).bind (fun p => match p with | (r_14, l1) => (bif (decide (r_14 < 0)) then some true else (G.laws_eqInt64SS.f r_9 r_4).bind (fun r_15 => some (!r_15))).bind (fun b_2 => (bif (b_2 || (r_10 != r_5)) then some false else (G.laws_markInt64SS.f r_9 1).bind (fun p => match p with | (r_16, l2) => (G.laws_heldInt64SS.f l2 1).bind (fun r_17 => (bif (decide (r_17 < 0)) then some false else (bif (r_17 != r_16) then some false else (G.laws_toGroup.f x2 x3).bind (fun p => match p with | (r_18, r_19) => (G.laws_toInt64S.f x4).bind (fun r_20 => (G.impl_CoboundaryOf.f x1 r_18 r_19 r_20).bind (fun p => match p with | (r_21, r_22) => (G.laws_eqInt64SS.f r_21 r_4).bind (fun r_23 => (bif ((!r_23) || (r_22 != r_5)) then some false else (G.laws_heldInt64SS.f l2 1).bind (fun r_24 => (bif (decide (r_24 < 0)) then some false else (bif (r_24 != r_16) then some false else some true)))))))))))))))))))))))))))

def laws_FnExactCoboundaryOf.R (r : Bool) (v : Value) (L : List Asn) : Prop := v = .bool r ∧ L = []

set_option maxRecDepth 100000 in
set_option maxHeartbeats 4000000 in
theorem laws_FnExactCoboundaryOf.calls (w : World) (x1 : Int) (x2 : Int) (x3 : Nat → UInt8) (s1 : SV) (x4 : List Int) (h1 : Reads Ei (hp w) s1 x4) :
    ∀ r, laws_FnExactCoboundaryOf.f x1 x2 x3 x4 = some r → Calls Try.prog 12 #[.int .i64 x1, sval [.one (.int .i64 x2), .arr 36 (enf u8v x3)], SV.v s1] w (Ret w (laws_FnExactCoboundaryOf.R r)) := by

  refine calls_T (n := 106) (Γ := [(0, .int .i64 x1), (1, sval [.one (.int .i64 x2), .arr 36 (enf u8v x3)]), (2, SV.v s1)]) (R := laws_FnExactCoboundaryOf.R) Try.func12 rfl rfl (Nat.le_of_ble_eq_true rfl) ⟨rfl, rfl, rfl, trivial⟩ ?_
  unfold laws_FnExactCoboundaryOf.f
  refine TC.seq ?_
  refine TC.region ?_
  refine TL.box [.one (.int .i64 x2), .arr 36 (enf u8v x3)] rfl rfl rfl rfl fun b_1 => ?_
  refine TL.assign rfl rfl (v := .bool false) rfl ?_
  refine TL.done ?_
  refine TC.seq ?_
  refine TC.seq ?_
  refine TC.region ?_
  refine TL.move rfl rfl (v := SV.v s1) rfl ?_
  refine TL.len (Rd.old h1) Try.underlying22 rfl rfl rfl ?_
  refine TL.bin .i64 (x4.length : Int) 1048576 rfl rfl rfl rfl (v := .bool (decide ((x4.length : Int) > 1048576))) rfl ?_
  refine TL.done ?_
  refine TC.cond (b := (decide ((x4.length : Int) > 1048576))) rfl (fun c1 => ?_) (fun c2 => ?_)
  · refine TC.seq ?_
    refine TC.region ?_
    refine TL.assign rfl rfl (v := .bool true) rfl ?_
    refine TL.done ?_
    exact TC.retF (Fin.body (fin1 (.inr rfl) rfl (.tmp rfl) [] rfl ⟨rfl, rfl⟩))
  · refine TC.skip ?_
    refine TC.seq ?_
    refine TC.region ?_
    refine TL.move rfl rfl (v := .int .i64 x1) rfl ?_
    refine TL.loadM 0 2 (Src.box 0 rfl) Try.isAgg35 Try.sizeOf35 (mid := [.one (.int .i64 x2), .arr 36 (enf u8v x3)]) rfl rfl rfl rfl rfl rfl ?_
    refine TL.call (R := G.laws_toGroup.R) Try.call24 rfl rfl rfl (fun w hS => G.laws_toGroup.calls w x2 x3) ?_
    rintro ⟨r_1, r_2⟩ _ _ ⟨rfl, rfl⟩
    refine TL.move rfl rfl (v := SV.v s1) rfl ?_
    refine TL.call (R := G.laws_toInt64S.R) Try.call16 rfl rfl rfl (fun w hS => G.laws_toInt64S.calls w s1 x4 ((Rd.old h1) w hS)) ?_
    rintro r_3 _ _ ⟨s2, rfl, rfl⟩
    refine TL.call (R := G.spec_CoboundaryOf.R) Try.call39 rfl rfl rfl (fun w hS => G.spec_CoboundaryOf.calls w x1 r_1 r_2 s2 r_3 ((Rd.row 0 rfl) w hS)) ?_
    rintro ⟨r_4, r_5⟩ _ _ ⟨s3, ss1, rfl, rfl⟩
    refine TL.move rfl rfl (v := .tuple #[SV.v s3, .int .i64 r_5]) rfl ?_
    refine TL.extract rfl rfl rfl (v := SV.v s3) rfl ?_
    refine TL.extract rfl rfl rfl (v := .int .i64 r_5) rfl ?_
    refine TL.assign rfl rfl (v := SV.v s3) rfl ?_
    refine TL.assign rfl rfl (v := .int .i64 r_5) rfl ?_
    refine TL.done ?_
    refine TC.seq ?_
    refine TC.region ?_
    refine TL.move rfl rfl (v := SV.v s1) rfl ?_
    refine TL.call (R := G.laws_toInt64S.R) Try.call16 rfl rfl rfl (fun w hS => G.laws_toInt64S.calls w s1 x4 ((Rd.old h1) w hS)) ?_
    rintro r_6 _ _ ⟨s4, rfl, rfl⟩
    refine TL.assign rfl rfl (v := SV.v s4) rfl ?_
    refine TL.done ?_
    refine TC.seq ?_
    refine TC.region ?_
    refine TL.move rfl rfl (v := .int .i64 x1) rfl ?_
    refine TL.loadM 0 2 (Src.box 3 rfl) Try.isAgg35 Try.sizeOf35 (mid := [.one (.int .i64 x2), .arr 36 (enf u8v x3)]) rfl rfl rfl rfl rfl rfl ?_
    refine TL.call (R := G.laws_toGroup.R) Try.call24 rfl rfl rfl (fun w hS => G.laws_toGroup.calls w x2 x3) ?_
    rintro ⟨r_7, r_8⟩ _ _ ⟨rfl, rfl⟩
    refine TL.move rfl rfl (v := SV.v s4) rfl ?_
    refine TL.call (R := G.impl_CoboundaryOf.R) Try.call40 rfl rfl rfl (fun w hS => G.impl_CoboundaryOf.calls w x1 r_7 r_8 s4 r_6 ((Rd.row 0 rfl) w hS)) ?_
    rintro ⟨r_9, r_10⟩ _ _ ⟨s5, ss2, rfl, rfl⟩
    refine TL.move rfl rfl (v := .tuple #[SV.v s5, .int .i64 r_10]) rfl ?_
    refine TL.extract rfl rfl rfl (v := SV.v s5) rfl ?_
    refine TL.extract rfl rfl rfl (v := .int .i64 r_10) rfl ?_
    refine TL.assign rfl rfl (v := SV.v s5) rfl ?_
    refine TL.assign rfl rfl (v := .int .i64 r_10) rfl ?_
    refine TL.done ?_
    refine TC.seq ?_
    refine TC.seq ?_
    refine TC.region ?_
    refine TL.move rfl rfl (v := SV.v s5) rfl ?_
    refine TL.move rfl rfl (v := SV.v s3) rfl ?_
    refine TL.call (R := G.laws_eqInt64SS.R) Try.call41 rfl rfl rfl (fun w hS => G.laws_eqInt64SS.calls w s5 ss2 r_9 s3 ss1 r_4 ((RdM.mat 0 rfl) w hS) ((RdM.mat 2 rfl) w hS)) ?_
    rintro r_11 _ _ ⟨rfl, rfl⟩
    refine TL.not r_11 rfl rfl rfl ?_
    refine TL.move rfl rfl (v := .bool (!r_11)) rfl ?_
    refine TL.cutU 4 [(47, .bool ((!r_11) || (r_10 != r_5))), (0, .int .i64 x1), (1, sval [.one (.int .i64 x2), .arr 36 (enf u8v x3)]), (2, SV.v s1), (4, bp b_1 0), (6, .bool false), (17, SV.v s1), (18, .int .i64 (x4.length : Int)), (19, .bool (decide ((x4.length : Int) > 1048576))), (21, .int .i64 x1), (22, sval [.one (.int .i64 x2), .arr 36 (enf u8v x3)]), (23, sval [.one (.int .i64 r_1), .arr 36 (enf u8v r_2)]), (24, SV.v s1), (25, SV.v s2), (26, .tuple #[SV.v s3, .int .i64 r_5]), (20, .tuple #[SV.v s3, .int .i64 r_5]), (27, SV.v s3), (28, .int .i64 r_5), (7, SV.v s3), (8, .int .i64 r_5), (29, SV.v s1), (30, SV.v s4), (9, SV.v s4), (32, .int .i64 x1), (33, sval [.one (.int .i64 x2), .arr 36 (enf u8v x3)]), (34, sval [.one (.int .i64 r_7), .arr 36 (enf u8v r_8)]), (35, SV.v s4), (36, .tuple #[SV.v s5, .int .i64 r_10]), (31, .tuple #[SV.v s5, .int .i64 r_10]), (37, SV.v s5), (38, .int .i64 r_10), (10, SV.v s5), (11, .int .i64 r_10), (39, SV.v s5), (40, SV.v s3), (41, .bool r_11), (42, .bool (!r_11)), (43, .bool (!r_11))] [mat Ei 2 22 s5 ss2 r_9, row Ei 2 s4 r_6, mat Ei 2 22 s3 ss1 r_4, row Ei 2 s2 r_3, box b_1 35 [.one (.int .i64 x2), .arr 36 (enf u8v x3)]] ?_ ?_
    · refine TL.cases (t := 43) (b := (!r_11)) rfl (fun c3 => ?_) (fun c4 => ?_)
      · refine TL.skip rfl rfl (by decide) ?_
        refine TL.skip rfl rfl (by decide) ?_
        refine TL.skip rfl rfl (by decide) ?_
        refine TL.pick rfl rfl (b := true) rfl (r := .bool true) rfl ?_
        refine TL.done ?_
        exact TC.nrm () () ⟨(by rw [c3]; rfl), rfl, rfl, rfl, rfl, rfl, rfl, rfl, rfl, rfl, rfl, rfl, rfl, rfl, rfl, rfl, rfl, rfl, rfl, rfl, rfl, rfl, rfl, rfl, rfl, rfl, rfl, rfl, rfl, rfl, rfl, rfl, rfl, rfl, rfl, rfl, rfl, (by rw [c3]; rfl), trivial⟩ [0, 0, 0, 0, 0] rfl
      · refine TL.move rfl rfl (v := .int .i64 r_10) rfl ?_
        refine TL.move rfl rfl (v := .int .i64 r_5) rfl ?_
        refine TL.bin .i64 r_10 r_5 rfl rfl rfl rfl (v := .bool (r_10 != r_5)) rfl ?_
        refine TL.pick rfl rfl (b := false) rfl (r := .bool (r_10 != r_5)) rfl ?_
        refine TL.done ?_
        exact TC.nrm () () ⟨(by rw [c4]; rfl), rfl, rfl, rfl, rfl, rfl, rfl, rfl, rfl, rfl, rfl, rfl, rfl, rfl, rfl, rfl, rfl, rfl, rfl, rfl, rfl, rfl, rfl, rfl, rfl, rfl, rfl, rfl, rfl, rfl, rfl, rfl, rfl, rfl, rfl, rfl, rfl, (by rw [c4]; rfl), trivial⟩ [0, 0, 0, 0, 0] rfl
    · refine TL.done ?_
      refine TC.cond (b := ((!r_11) || (r_10 != r_5))) rfl (fun c5 => ?_) (fun c6 => ?_)
      · refine TC.seq ?_
        refine TC.region ?_
        refine TL.assign rfl rfl (v := .bool false) rfl ?_
        refine TL.done ?_
        exact TC.retF (Fin.body (fin1 (.inr rfl) rfl (.tmp rfl) [] rfl ⟨rfl, rfl⟩))
      · refine TC.skip ?_
        refine TC.seq ?_
        refine TC.seq ?_
        refine TC.region ?_
        refine TL.move rfl rfl (v := SV.v s4) rfl ?_
        refine TL.move rfl rfl (v := SV.v s1) rfl ?_
        refine TL.call (R := G.laws_toInt64S.R) Try.call16 rfl rfl rfl (fun w hS => G.laws_toInt64S.calls w s1 x4 ((Rd.old h1) w hS)) ?_
        rintro r_12 _ _ ⟨s6, rfl, rfl⟩
        refine TL.call (R := G.laws_eqInt64S.R) Try.call18 rfl rfl rfl (fun w hS => G.laws_eqInt64S.calls w s4 r_6 s6 r_12 ((Rd.row 2 rfl) w hS) ((Rd.row 0 rfl) w hS)) ?_
        rintro r_13 _ _ ⟨rfl, rfl⟩
        refine TL.not r_13 rfl rfl rfl ?_
        refine TL.done ?_
        refine TC.cond (b := (!r_13)) rfl (fun c7 => ?_) (fun c8 => ?_)
        · refine TC.seq ?_
          refine TC.region ?_
          refine TL.assign rfl rfl (v := .bool false) rfl ?_
          refine TL.done ?_
          exact TC.retF (Fin.body (fin1 (.inr rfl) rfl (.tmp rfl) [] rfl ⟨rfl, rfl⟩))
        · refine TC.skip ?_
          refine TC.seq ?_
          refine TC.region ?_
          refine TL.assign rfl rfl (v := .int .i64 1) rfl ?_
          refine TL.done ?_
          refine TC.seq ?_
          refine TC.region ?_
          refine TL.move rfl rfl (v := SV.v s4) rfl ?_
          refine TL.move rfl rfl (v := .int .i64 1) rfl ?_
          refine TL.callX (R := G.laws_markInt64S.R s4) [2, 0, 0, 0, 0, 0] [row Ei 2 s4 r_6] [row Ei 2 s6 r_12, mat Ei 2 22 s5 ss2 r_9, mat Ei 2 22 s3 ss1 r_4, row Ei 2 s2 r_3, box b_1 35 [.one (.int .i64 x2), .arr 36 (enf u8v x3)]] rfl Try.call19 rfl rfl rfl (fun w I_ hle hB hS => G.laws_markInt64S.calls _ I_ w s4 r_6 1 hS) ?_
          rintro ⟨r_14, l1⟩ _ _ ⟨rfl, rfl⟩
          refine TL.assign rfl rfl (v := .int .i64 r_14) rfl ?_
          refine TL.done ?_
          refine TC.seq ?_
          refine TC.seq ?_
          refine TC.region ?_
          refine TL.move rfl rfl (v := .int .i64 r_14) rfl ?_
          refine TL.bin .i64 r_14 0 rfl rfl rfl rfl (v := .bool (decide (r_14 < 0))) rfl ?_
          refine TL.move rfl rfl (v := .bool (decide (r_14 < 0))) rfl ?_
          refine TL.cutJ (σ := Bool) (γ := Unit) (Γ' := fun b_2 _ => [(63, .bool b_2), (0, .int .i64 x1), (1, sval [.one (.int .i64 x2), .arr 36 (enf u8v x3)]), (2, SV.v s1), (4, bp b_1 0), (6, .bool false), (17, SV.v s1), (18, .int .i64 (x4.length : Int)), (19, .bool (decide ((x4.length : Int) > 1048576))), (21, .int .i64 x1), (22, sval [.one (.int .i64 x2), .arr 36 (enf u8v x3)]), (23, sval [.one (.int .i64 r_1), .arr 36 (enf u8v r_2)]), (24, SV.v s1), (25, SV.v s2), (26, .tuple #[SV.v s3, .int .i64 r_5]), (20, .tuple #[SV.v s3, .int .i64 r_5]), (27, SV.v s3), (28, .int .i64 r_5), (7, SV.v s3), (8, .int .i64 r_5), (29, SV.v s1), (30, SV.v s4), (9, SV.v s4), (32, .int .i64 x1), (33, sval [.one (.int .i64 x2), .arr 36 (enf u8v x3)]), (34, sval [.one (.int .i64 r_7), .arr 36 (enf u8v r_8)]), (35, SV.v s4), (36, .tuple #[SV.v s5, .int .i64 r_10]), (31, .tuple #[SV.v s5, .int .i64 r_10]), (37, SV.v s5), (38, .int .i64 r_10), (10, SV.v s5), (11, .int .i64 r_10), (39, SV.v s5), (40, SV.v s3), (41, .bool r_11), (42, .bool (!r_11)), (43, .bool (!r_11)), (47, .bool ((!r_11) || (r_10 != r_5))), (48, SV.v s4), (49, SV.v s1), (50, SV.v s6), (51, .bool r_13), (52, .bool (!r_13)), (12, .int .i64 r_14), (53, SV.v s4), (54, .int .i64 1), (55, .int .i64 r_14), (56, .int .i64 r_14), (57, .bool (decide (r_14 < 0))), (58, .bool (decide (r_14 < 0)))]) (L' := fun _ _ => [row Ei 2 s4 l1, row Ei 2 s6 r_12, mat Ei 2 22 s5 ss2 r_9, mat Ei 2 22 s3 ss1 r_4, row Ei 2 s2 r_3, box b_1 35 [.one (.int .i64 x2), .arr 36 (enf u8v x3)]]) 5 ?_ ?_
          · refine TL.ifb (t := 58) (b := (decide (r_14 < 0))) rfl (fun c9 => ?_) (fun c10 => ?_)
            · refine TL.skip rfl rfl (by decide) ?_
              refine TL.skip rfl rfl (by decide) ?_
              refine TL.skip rfl rfl (by decide) ?_
              refine TL.skip rfl rfl (by decide) ?_
              refine TL.pick rfl rfl (b := true) rfl (r := .bool true) rfl ?_
              refine TL.done ?_
              exact TC.nrm (true) () ⟨rfl, rfl, rfl, rfl, rfl, rfl, rfl, rfl, rfl, rfl, rfl, rfl, rfl, rfl, rfl, rfl, rfl, rfl, rfl, rfl, rfl, rfl, rfl, rfl, rfl, rfl, rfl, rfl, rfl, rfl, rfl, rfl, rfl, rfl, rfl, rfl, rfl, rfl, rfl, rfl, rfl, rfl, rfl, rfl, rfl, rfl, rfl, rfl, rfl, rfl, (by rw [c9]; rfl), trivial⟩ [0, 0, 0, 0, 0, 0] rfl
            · refine TL.move rfl rfl (v := SV.v s5) rfl ?_
              refine TL.move rfl rfl (v := SV.v s3) rfl ?_
              refine TL.call (R := G.laws_eqInt64SS.R) Try.call41 rfl rfl rfl (fun w hS => G.laws_eqInt64SS.calls w s5 ss2 r_9 s3 ss1 r_4 ((RdM.mat 2 rfl) w hS) ((RdM.mat 3 rfl) w hS)) ?_
              rintro r_15 _ _ ⟨rfl, rfl⟩
              refine TL.not r_15 rfl rfl rfl ?_
              refine TL.pick rfl rfl (b := false) rfl (r := .bool (!r_15)) rfl ?_
              refine TL.done ?_
              exact TC.nrm ((!r_15)) () ⟨rfl, rfl, rfl, rfl, rfl, rfl, rfl, rfl, rfl, rfl, rfl, rfl, rfl, rfl, rfl, rfl, rfl, rfl, rfl, rfl, rfl, rfl, rfl, rfl, rfl, rfl, rfl, rfl, rfl, rfl, rfl, rfl, rfl, rfl, rfl, rfl, rfl, rfl, rfl, rfl, rfl, rfl, rfl, rfl, rfl, rfl, rfl, rfl, rfl, rfl, (by rw [c10]; rfl), trivial⟩ [0, 0, 0, 0, 0, 0] rfl
          · rintro b_2 _
            refine TL.move rfl rfl (v := .bool b_2) rfl ?_
            refine TL.cutU 4 [(68, .bool (b_2 || (r_10 != r_5))), (0, .int .i64 x1), (1, sval [.one (.int .i64 x2), .arr 36 (enf u8v x3)]), (2, SV.v s1), (4, bp b_1 0), (6, .bool false), (17, SV.v s1), (18, .int .i64 (x4.length : Int)), (19, .bool (decide ((x4.length : Int) > 1048576))), (21, .int .i64 x1), (22, sval [.one (.int .i64 x2), .arr 36 (enf u8v x3)]), (23, sval [.one (.int .i64 r_1), .arr 36 (enf u8v r_2)]), (24, SV.v s1), (25, SV.v s2), (26, .tuple #[SV.v s3, .int .i64 r_5]), (20, .tuple #[SV.v s3, .int .i64 r_5]), (27, SV.v s3), (28, .int .i64 r_5), (7, SV.v s3), (8, .int .i64 r_5), (29, SV.v s1), (30, SV.v s4), (9, SV.v s4), (32, .int .i64 x1), (33, sval [.one (.int .i64 x2), .arr 36 (enf u8v x3)]), (34, sval [.one (.int .i64 r_7), .arr 36 (enf u8v r_8)]), (35, SV.v s4), (36, .tuple #[SV.v s5, .int .i64 r_10]), (31, .tuple #[SV.v s5, .int .i64 r_10]), (37, SV.v s5), (38, .int .i64 r_10), (10, SV.v s5), (11, .int .i64 r_10), (39, SV.v s5), (40, SV.v s3), (41, .bool r_11), (42, .bool (!r_11)), (43, .bool (!r_11)), (47, .bool ((!r_11) || (r_10 != r_5))), (48, SV.v s4), (49, SV.v s1), (50, SV.v s6), (51, .bool r_13), (52, .bool (!r_13)), (12, .int .i64 r_14), (53, SV.v s4), (54, .int .i64 1), (55, .int .i64 r_14), (56, .int .i64 r_14), (57, .bool (decide (r_14 < 0))), (58, .bool (decide (r_14 < 0))), (63, .bool b_2), (64, .bool b_2)] [row Ei 2 s4 l1, row Ei 2 s6 r_12, mat Ei 2 22 s5 ss2 r_9, mat Ei 2 22 s3 ss1 r_4, row Ei 2 s2 r_3, box b_1 35 [.one (.int .i64 x2), .arr 36 (enf u8v x3)]] ?_ ?_
            · refine TL.cases (t := 64) (b := b_2) rfl (fun c11 => ?_) (fun c12 => ?_)
              · refine TL.skip rfl rfl (by decide) ?_
                refine TL.skip rfl rfl (by decide) ?_
                refine TL.skip rfl rfl (by decide) ?_
                refine TL.pick rfl rfl (b := true) rfl (r := .bool true) rfl ?_
                refine TL.done ?_
                exact TC.nrm () () ⟨(by rw [c11]; rfl), rfl, rfl, rfl, rfl, rfl, rfl, rfl, rfl, rfl, rfl, rfl, rfl, rfl, rfl, rfl, rfl, rfl, rfl, rfl, rfl, rfl, rfl, rfl, rfl, rfl, rfl, rfl, rfl, rfl, rfl, rfl, rfl, rfl, rfl, rfl, rfl, rfl, rfl, rfl, rfl, rfl, rfl, rfl, rfl, rfl, rfl, rfl, rfl, rfl, rfl, rfl, (by rw [c11]; rfl), trivial⟩ [0, 0, 0, 0, 0, 0] rfl
              · refine TL.move rfl rfl (v := .int .i64 r_10) rfl ?_
                refine TL.move rfl rfl (v := .int .i64 r_5) rfl ?_
                refine TL.bin .i64 r_10 r_5 rfl rfl rfl rfl (v := .bool (r_10 != r_5)) rfl ?_
                refine TL.pick rfl rfl (b := false) rfl (r := .bool (r_10 != r_5)) rfl ?_
                refine TL.done ?_
                exact TC.nrm () () ⟨(by rw [c12]; rfl), rfl, rfl, rfl, rfl, rfl, rfl, rfl, rfl, rfl, rfl, rfl, rfl, rfl, rfl, rfl, rfl, rfl, rfl, rfl, rfl, rfl, rfl, rfl, rfl, rfl, rfl, rfl, rfl, rfl, rfl, rfl, rfl, rfl, rfl, rfl, rfl, rfl, rfl, rfl, rfl, rfl, rfl, rfl, rfl, rfl, rfl, rfl, rfl, rfl, rfl, rfl, (by rw [c12]; rfl), trivial⟩ [0, 0, 0, 0, 0, 0] rfl
            · refine TL.done ?_
              refine TC.cond (b := (b_2 || (r_10 != r_5))) rfl (fun c13 => ?_) (fun c14 => ?_)
              · refine TC.seq ?_
                refine TC.region ?_
                refine TL.assign rfl rfl (v := .bool false) rfl ?_
                refine TL.done ?_
                exact TC.retF (Fin.body (fin1 (.inr rfl) rfl (.tmp rfl) [] rfl ⟨rfl, rfl⟩))
              · refine TC.skip ?_
                refine TC.seq ?_
                refine TC.region ?_
                refine TL.assign rfl rfl (v := .int .i64 1) rfl ?_
                refine TL.done ?_
                refine TC.seq ?_
                refine TC.region ?_
                refine TL.move rfl rfl (v := SV.v s5) rfl ?_
                refine TL.move rfl rfl (v := .int .i64 1) rfl ?_
                refine TL.callX (R := G.laws_markInt64SS.R s5) [2, 0, 0, 0, 0, 0] [mat Ei 2 22 s5 ss2 r_9] [row Ei 2 s4 l1, row Ei 2 s6 r_12, mat Ei 2 22 s3 ss1 r_4, row Ei 2 s2 r_3, box b_1 35 [.one (.int .i64 x2), .arr 36 (enf u8v x3)]] rfl Try.call42 rfl rfl rfl (fun w I_ hle hB hS => G.laws_markInt64SS.calls _ I_ w s5 ss2 r_9 1 hS) ?_
                rintro ⟨r_16, l2⟩ _ _ ⟨ss3, rfl, rfl⟩
                refine TL.assign rfl rfl (v := .int .i64 r_16) rfl ?_
                refine TL.done ?_
                refine TC.seq ?_
                refine TC.region ?_
                refine TL.assign rfl rfl (v := .int .i64 1) rfl ?_
                refine TL.done ?_
                refine TC.seq ?_
                refine TC.region ?_
                refine TL.move rfl rfl (v := SV.v s5) rfl ?_
                refine TL.move rfl rfl (v := .int .i64 1) rfl ?_
                refine TL.call (R := G.laws_heldInt64SS.R) Try.call43 rfl rfl rfl (fun w hS => G.laws_heldInt64SS.calls w s5 ss3 l2 1 ((RdM.mat 0 rfl) w hS)) ?_
                rintro r_17 _ _ ⟨rfl, rfl⟩
                refine TL.assign rfl rfl (v := .int .i64 r_17) rfl ?_
                refine TL.done ?_
                refine TC.seq ?_
                refine TC.seq ?_
                refine TC.region ?_
                refine TL.move rfl rfl (v := .int .i64 r_17) rfl ?_
                refine TL.bin .i64 r_17 0 rfl rfl rfl rfl (v := .bool (decide (r_17 < 0))) rfl ?_
                refine TL.done ?_
                refine TC.cond (b := (decide (r_17 < 0))) rfl (fun c15 => ?_) (fun c16 => ?_)
                · refine TC.seq ?_
                  refine TC.region ?_
                  refine TL.assign rfl rfl (v := .bool false) rfl ?_
                  refine TL.done ?_
                  exact TC.retF (Fin.body (fin1 (.inr rfl) rfl (.tmp rfl) [] rfl ⟨rfl, rfl⟩))
                · refine TC.skip ?_
                  refine TC.seq ?_
                  refine TC.seq ?_
                  refine TC.region ?_
                  refine TL.move rfl rfl (v := .int .i64 r_17) rfl ?_
                  refine TL.move rfl rfl (v := .int .i64 r_16) rfl ?_
                  refine TL.bin .i64 r_17 r_16 rfl rfl rfl rfl (v := .bool (r_17 != r_16)) rfl ?_
                  refine TL.done ?_
                  refine TC.cond (b := (r_17 != r_16)) rfl (fun c17 => ?_) (fun c18 => ?_)
                  · refine TC.seq ?_
                    refine TC.region ?_
                    refine TL.assign rfl rfl (v := .bool false) rfl ?_
                    refine TL.done ?_
                    exact TC.retF (Fin.body (fin1 (.inr rfl) rfl (.tmp rfl) [] rfl ⟨rfl, rfl⟩))
                  · refine TC.skip ?_
                    refine TC.seq ?_
                    refine TC.region ?_
                    refine TL.move rfl rfl (v := .int .i64 x1) rfl ?_
                    refine TL.loadM 0 2 (Src.box 5 rfl) Try.isAgg35 Try.sizeOf35 (mid := [.one (.int .i64 x2), .arr 36 (enf u8v x3)]) rfl rfl rfl rfl rfl rfl ?_
                    refine TL.call (R := G.laws_toGroup.R) Try.call24 rfl rfl rfl (fun w hS => G.laws_toGroup.calls w x2 x3) ?_
                    rintro ⟨r_18, r_19⟩ _ _ ⟨rfl, rfl⟩
                    refine TL.move rfl rfl (v := SV.v s1) rfl ?_
                    refine TL.call (R := G.laws_toInt64S.R) Try.call16 rfl rfl rfl (fun w hS => G.laws_toInt64S.calls w s1 x4 ((Rd.old h1) w hS)) ?_
                    rintro r_20 _ _ ⟨s7, rfl, rfl⟩
                    refine TL.call (R := G.impl_CoboundaryOf.R) Try.call40 rfl rfl rfl (fun w hS => G.impl_CoboundaryOf.calls w x1 r_18 r_19 s7 r_20 ((Rd.row 0 rfl) w hS)) ?_
                    rintro ⟨r_21, r_22⟩ _ _ ⟨s8, ss4, rfl, rfl⟩
                    refine TL.move rfl rfl (v := .tuple #[SV.v s8, .int .i64 r_22]) rfl ?_
                    refine TL.extract rfl rfl rfl (v := SV.v s8) rfl ?_
                    refine TL.extract rfl rfl rfl (v := .int .i64 r_22) rfl ?_
                    refine TL.assign rfl rfl (v := SV.v s8) rfl ?_
                    refine TL.assign rfl rfl (v := .int .i64 r_22) rfl ?_
                    refine TL.done ?_
                    refine TC.seq ?_
                    refine TC.seq ?_
                    refine TC.region ?_
                    refine TL.move rfl rfl (v := SV.v s8) rfl ?_
                    refine TL.move rfl rfl (v := SV.v s3) rfl ?_
                    refine TL.call (R := G.laws_eqInt64SS.R) Try.call41 rfl rfl rfl (fun w hS => G.laws_eqInt64SS.calls w s8 ss4 r_21 s3 ss1 r_4 ((RdM.mat 0 rfl) w hS) ((RdM.mat 5 rfl) w hS)) ?_
                    rintro r_23 _ _ ⟨rfl, rfl⟩
                    refine TL.not r_23 rfl rfl rfl ?_
                    refine TL.move rfl rfl (v := .bool (!r_23)) rfl ?_
                    refine TL.cutU 4 [(97, .bool ((!r_23) || (r_22 != r_5))), (0, .int .i64 x1), (1, sval [.one (.int .i64 x2), .arr 36 (enf u8v x3)]), (2, SV.v s1), (4, bp b_1 0), (6, .bool false), (17, SV.v s1), (18, .int .i64 (x4.length : Int)), (19, .bool (decide ((x4.length : Int) > 1048576))), (21, .int .i64 x1), (22, sval [.one (.int .i64 x2), .arr 36 (enf u8v x3)]), (23, sval [.one (.int .i64 r_1), .arr 36 (enf u8v r_2)]), (24, SV.v s1), (25, SV.v s2), (26, .tuple #[SV.v s3, .int .i64 r_5]), (20, .tuple #[SV.v s3, .int .i64 r_5]), (27, SV.v s3), (28, .int .i64 r_5), (7, SV.v s3), (8, .int .i64 r_5), (29, SV.v s1), (30, SV.v s4), (9, SV.v s4), (32, .int .i64 x1), (33, sval [.one (.int .i64 x2), .arr 36 (enf u8v x3)]), (34, sval [.one (.int .i64 r_7), .arr 36 (enf u8v r_8)]), (35, SV.v s4), (36, .tuple #[SV.v s5, .int .i64 r_10]), (31, .tuple #[SV.v s5, .int .i64 r_10]), (37, SV.v s5), (38, .int .i64 r_10), (10, SV.v s5), (11, .int .i64 r_10), (39, SV.v s5), (40, SV.v s3), (41, .bool r_11), (42, .bool (!r_11)), (43, .bool (!r_11)), (47, .bool ((!r_11) || (r_10 != r_5))), (48, SV.v s4), (49, SV.v s1), (50, SV.v s6), (51, .bool r_13), (52, .bool (!r_13)), (12, .int .i64 r_14), (53, SV.v s4), (54, .int .i64 1), (55, .int .i64 r_14), (56, .int .i64 r_14), (57, .bool (decide (r_14 < 0))), (58, .bool (decide (r_14 < 0))), (63, .bool b_2), (64, .bool b_2), (68, .bool (b_2 || (r_10 != r_5))), (13, .int .i64 r_16), (69, SV.v s5), (70, .int .i64 1), (71, .int .i64 r_16), (14, .int .i64 r_17), (72, SV.v s5), (73, .int .i64 1), (74, .int .i64 r_17), (75, .int .i64 r_17), (76, .bool (decide (r_17 < 0))), (77, .int .i64 r_17), (78, .int .i64 r_16), (79, .bool (r_17 != r_16)), (81, .int .i64 x1), (82, sval [.one (.int .i64 x2), .arr 36 (enf u8v x3)]), (83, sval [.one (.int .i64 r_18), .arr 36 (enf u8v r_19)]), (84, SV.v s1), (85, SV.v s7), (86, .tuple #[SV.v s8, .int .i64 r_22]), (80, .tuple #[SV.v s8, .int .i64 r_22]), (87, SV.v s8), (88, .int .i64 r_22), (15, SV.v s8), (16, .int .i64 r_22), (89, SV.v s8), (90, SV.v s3), (91, .bool r_23), (92, .bool (!r_23)), (93, .bool (!r_23))] [mat Ei 2 22 s8 ss4 r_21, row Ei 2 s7 r_20, mat Ei 2 22 s5 ss3 l2, row Ei 2 s4 l1, row Ei 2 s6 r_12, mat Ei 2 22 s3 ss1 r_4, row Ei 2 s2 r_3, box b_1 35 [.one (.int .i64 x2), .arr 36 (enf u8v x3)]] ?_ ?_
                    · refine TL.cases (t := 93) (b := (!r_23)) rfl (fun c19 => ?_) (fun c20 => ?_)
                      · refine TL.skip rfl rfl (by decide) ?_
                        refine TL.skip rfl rfl (by decide) ?_
                        refine TL.skip rfl rfl (by decide) ?_
                        refine TL.pick rfl rfl (b := true) rfl (r := .bool true) rfl ?_
                        refine TL.done ?_
                        exact TC.nrm () () ⟨(by rw [c19]; rfl), rfl, rfl, rfl, rfl, rfl, rfl, rfl, rfl, rfl, rfl, rfl, rfl, rfl, rfl, rfl, rfl, rfl, rfl, rfl, rfl, rfl, rfl, rfl, rfl, rfl, rfl, rfl, rfl, rfl, rfl, rfl, rfl, rfl, rfl, rfl, rfl, rfl, rfl, rfl, rfl, rfl, rfl, rfl, rfl, rfl, rfl, rfl, rfl, rfl, rfl, rfl, rfl, rfl, rfl, rfl, rfl, rfl, rfl, rfl, rfl, rfl, rfl, rfl, rfl, rfl, rfl, rfl, rfl, rfl, rfl, rfl, rfl, rfl, rfl, rfl, rfl, rfl, rfl, rfl, rfl, rfl, (by rw [c19]; rfl), trivial⟩ [0, 0, 0, 0, 0, 0, 0, 0] rfl
                      · refine TL.move rfl rfl (v := .int .i64 r_22) rfl ?_
                        refine TL.move rfl rfl (v := .int .i64 r_5) rfl ?_
                        refine TL.bin .i64 r_22 r_5 rfl rfl rfl rfl (v := .bool (r_22 != r_5)) rfl ?_
                        refine TL.pick rfl rfl (b := false) rfl (r := .bool (r_22 != r_5)) rfl ?_
                        refine TL.done ?_
                        exact TC.nrm () () ⟨(by rw [c20]; rfl), rfl, rfl, rfl, rfl, rfl, rfl, rfl, rfl, rfl, rfl, rfl, rfl, rfl, rfl, rfl, rfl, rfl, rfl, rfl, rfl, rfl, rfl, rfl, rfl, rfl, rfl, rfl, rfl, rfl, rfl, rfl, rfl, rfl, rfl, rfl, rfl, rfl, rfl, rfl, rfl, rfl, rfl, rfl, rfl, rfl, rfl, rfl, rfl, rfl, rfl, rfl, rfl, rfl, rfl, rfl, rfl, rfl, rfl, rfl, rfl, rfl, rfl, rfl, rfl, rfl, rfl, rfl, rfl, rfl, rfl, rfl, rfl, rfl, rfl, rfl, rfl, rfl, rfl, rfl, rfl, rfl, (by rw [c20]; rfl), trivial⟩ [0, 0, 0, 0, 0, 0, 0, 0] rfl
                    · refine TL.done ?_
                      refine TC.cond (b := ((!r_23) || (r_22 != r_5))) rfl (fun c21 => ?_) (fun c22 => ?_)
                      · refine TC.seq ?_
                        refine TC.region ?_
                        refine TL.assign rfl rfl (v := .bool false) rfl ?_
                        refine TL.done ?_
                        exact TC.retF (Fin.body (fin1 (.inr rfl) rfl (.tmp rfl) [] rfl ⟨rfl, rfl⟩))
                      · refine TC.skip ?_
                        refine TC.seq ?_
                        refine TC.region ?_
                        refine TL.assign rfl rfl (v := .int .i64 1) rfl ?_
                        refine TL.done ?_
                        refine TC.seq ?_
                        refine TC.region ?_
                        refine TL.move rfl rfl (v := SV.v s5) rfl ?_
                        refine TL.move rfl rfl (v := .int .i64 1) rfl ?_
                        refine TL.call (R := G.laws_heldInt64SS.R) Try.call43 rfl rfl rfl (fun w hS => G.laws_heldInt64SS.calls w s5 ss3 l2 1 ((RdM.mat 2 rfl) w hS)) ?_
                        rintro r_24 _ _ ⟨rfl, rfl⟩
                        refine TL.assign rfl rfl (v := .int .i64 r_24) rfl ?_
                        refine TL.done ?_
                        refine TC.seq ?_
                        refine TC.seq ?_
                        refine TC.region ?_
                        refine TL.move rfl rfl (v := .int .i64 r_24) rfl ?_
                        refine TL.bin .i64 r_24 0 rfl rfl rfl rfl (v := .bool (decide (r_24 < 0))) rfl ?_
                        refine TL.done ?_
                        refine TC.cond (b := (decide (r_24 < 0))) rfl (fun c23 => ?_) (fun c24 => ?_)
                        · refine TC.seq ?_
                          refine TC.region ?_
                          refine TL.assign rfl rfl (v := .bool false) rfl ?_
                          refine TL.done ?_
                          exact TC.retF (Fin.body (fin1 (.inr rfl) rfl (.tmp rfl) [] rfl ⟨rfl, rfl⟩))
                        · refine TC.skip ?_
                          refine TC.seq ?_
                          refine TC.seq ?_
                          refine TC.region ?_
                          refine TL.move rfl rfl (v := .int .i64 r_24) rfl ?_
                          refine TL.move rfl rfl (v := .int .i64 r_16) rfl ?_
                          refine TL.bin .i64 r_24 r_16 rfl rfl rfl rfl (v := .bool (r_24 != r_16)) rfl ?_
                          refine TL.done ?_
                          refine TC.cond (b := (r_24 != r_16)) rfl (fun c25 => ?_) (fun c26 => ?_)
                          · refine TC.seq ?_
                            refine TC.region ?_
                            refine TL.assign rfl rfl (v := .bool false) rfl ?_
                            refine TL.done ?_
                            exact TC.retF (Fin.body (fin1 (.inr rfl) rfl (.tmp rfl) [] rfl ⟨rfl, rfl⟩))
                          · refine TC.skip ?_
                            refine TC.seq ?_
                            refine TC.region ?_
                            refine TL.assign rfl rfl (v := .bool true) rfl ?_
                            refine TL.done ?_
                            exact TC.retF (Fin.body (fin1 (.inr rfl) rfl (.tmp rfl) [] rfl ⟨rfl, rfl⟩))

end Go.Proofs.Ytcombgcjgdkbiaa.G
