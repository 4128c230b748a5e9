/- laws.FnExactNamedSurface, as a pure function. -/
import Derived.Test.YtgljkechjkllgaaProg
import Derived.Test.YtgljkechjkllgaaSx9
import Derived.Test.YtgljkechjkllgaaQ19
import Derived.Test.YtgljkechjkllgaaQ20
import Derived.Test.YtgljkechjkllgaaQ21
import Derived.Test.YtgljkechjkllgaaQ22
import Derived.Test.YtgljkechjkllgaaQ23
set_option linter.unusedVariables false
namespace Go.Proofs.Ytgljkechjkllgaa.G
open Go Go.Sx Go.Proofs

def laws_FnExactNamedSurface.f (x1 : Str) : Option Bool := (bif (decide ((x1.length : Int) > 1048576)) then some true else (G.spec_NamedSurface.f x1).bind (fun p => match p with | (r_1, r_2) => (G.impl_NamedSurface.f x1).bind (fun p => match p with | (r_3, r_4) => (G.laws_eqInt64SS.f r_3 r_1).bind (fun r_5 => (bif ((!r_5) || (r_4 != r_2)) then some false else (G.laws_markInt64SS.f r_3 1).bind (fun p => match p with | (r_6, l1) => (G.laws_heldInt64SS.f l1 1).bind (fun r_7 => (bif (decide (r_7 < 0)) then some false else (bif (r_7 != r_6) then some false else (G.impl_NamedSurface.f x1).bind (fun p => match p with | (r_8, r_9) => (G.laws_eqInt64SS.f r_8 r_1).bind (fun r_10 => (bif ((!r_10) || (r_9 != r_2)) then some false else (G.laws_heldInt64SS.f l1 1).bind (fun r_11 => (bif (decide (r_11 < 0)) then some false else (bif (r_11 != r_6) then some false else some true)))))))))))))))

def laws_FnExactNamedSurface.R (r : Bool) (v : Value) (L : List Asn) : Prop := v = .bool r ∧ L = []

set_option maxRecDepth 100000 in
set_option maxHeartbeats 4000000 in
theorem laws_FnExactNamedSurface.calls (w : World) (x1 : Str) :
    ∀ r, laws_FnExactNamedSurface.f x1 = some r → Calls Try.prog 5 #[strv x1] w (Ret w (laws_FnExactNamedSurface.R r)) := by

  refine calls_T (n := 66) (Γ := [(0, strv x1)]) (R := laws_FnExactNamedSurface.R) Try.func5 rfl rfl (Nat.le_of_ble_eq_true rfl) ⟨rfl, trivial⟩ ?_
  unfold laws_FnExactNamedSurface.f
  refine TC.seq ?_
  refine TC.region ?_
  refine TL.assign rfl rfl (v := .bool false) rfl ?_
  refine TL.done ?_
  refine TC.seq ?_
  refine TC.seq ?_
  refine TC.region ?_
  refine TL.move rfl rfl (v := strv x1) rfl ?_
  refine TL.lenstr Try.underlying9 rfl rfl rfl ?_
  refine TL.bin .i64 (x1.length : Int) 1048576 rfl rfl rfl rfl (v := .bool (decide ((x1.length : Int) > 1048576))) rfl ?_
  refine TL.done ?_
  refine TC.cond (b := (decide ((x1.length : Int) > 1048576))) rfl (fun c1 => ?_) (fun c2 => ?_)
  · refine TC.seq ?_
    refine TC.region ?_
    refine TL.assign rfl rfl (v := .bool true) rfl ?_
    refine TL.done ?_
    exact TC.retF (Fin.body (fin1 (.inr rfl) rfl (.tmp rfl) [] rfl ⟨rfl, rfl⟩))
  · refine TC.skip ?_
    refine TC.seq ?_
    refine TC.region ?_
    refine TL.move rfl rfl (v := strv x1) rfl ?_
    refine TL.call (R := G.spec_NamedSurface.R) Try.call19 rfl rfl rfl (fun w hS => G.spec_NamedSurface.calls w x1) ?_
    rintro ⟨r_1, r_2⟩ _ _ ⟨s1, ss1, rfl, rfl⟩
    refine TL.move rfl rfl (v := .tuple #[SV.v s1, .int .i64 r_2]) rfl ?_
    refine TL.extract rfl rfl rfl (v := SV.v s1) rfl ?_
    refine TL.extract rfl rfl rfl (v := .int .i64 r_2) rfl ?_
    refine TL.assign rfl rfl (v := SV.v s1) rfl ?_
    refine TL.assign rfl rfl (v := .int .i64 r_2) rfl ?_
    refine TL.done ?_
    refine TC.seq ?_
    refine TC.region ?_
    refine TL.move rfl rfl (v := strv x1) rfl ?_
    refine TL.call (R := G.impl_NamedSurface.R) Try.call20 rfl rfl rfl (fun w hS => G.impl_NamedSurface.calls w x1) ?_
    rintro ⟨r_3, r_4⟩ _ _ ⟨s2, ss2, rfl, rfl⟩
    refine TL.move rfl rfl (v := .tuple #[SV.v s2, .int .i64 r_4]) rfl ?_
    refine TL.extract rfl rfl rfl (v := SV.v s2) rfl ?_
    refine TL.extract rfl rfl rfl (v := .int .i64 r_4) rfl ?_
    refine TL.assign rfl rfl (v := SV.v s2) rfl ?_
    refine TL.assign rfl rfl (v := .int .i64 r_4) rfl ?_
    refine TL.done ?_
    refine TC.seq ?_
    refine TC.seq ?_
    refine TC.region ?_
    refine TL.move rfl rfl (v := SV.v s2) rfl ?_
    refine TL.move rfl rfl (v := SV.v s1) rfl ?_
    refine TL.call (R := G.laws_eqInt64SS.R) Try.call21 rfl rfl rfl (fun w hS => G.laws_eqInt64SS.calls w s2 ss2 r_3 s1 ss1 r_1 ((RdM.mat 0 rfl) w hS) ((RdM.mat 1 rfl) w hS)) ?_
    rintro r_5 _ _ ⟨rfl, rfl⟩
    refine TL.not r_5 rfl rfl rfl ?_
    refine TL.move rfl rfl (v := .bool (!r_5)) rfl ?_
    refine TL.cutU 4 [(32, .bool ((!r_5) || (r_4 != r_2))), (0, strv x1), (2, .bool false), (11, strv x1), (12, .int .i64 (x1.length : Int)), (13, .bool (decide ((x1.length : Int) > 1048576))), (15, strv x1), (16, .tuple #[SV.v s1, .int .i64 r_2]), (14, .tuple #[SV.v s1, .int .i64 r_2]), (17, SV.v s1), (18, .int .i64 r_2), (3, SV.v s1), (4, .int .i64 r_2), (20, strv x1), (21, .tuple #[SV.v s2, .int .i64 r_4]), (19, .tuple #[SV.v s2, .int .i64 r_4]), (22, SV.v s2), (23, .int .i64 r_4), (5, SV.v s2), (6, .int .i64 r_4), (24, SV.v s2), (25, SV.v s1), (26, .bool r_5), (27, .bool (!r_5)), (28, .bool (!r_5))] [mat Ei 2 44 s2 ss2 r_3, mat Ei 2 44 s1 ss1 r_1] ?_ ?_
    · refine TL.cases (t := 28) (b := (!r_5)) rfl (fun c3 => ?_) (fun c4 => ?_)
      · refine TL.skip rfl rfl (by decide) ?_
        refine TL.skip rfl rfl (by decide) ?_
        refine TL.skip rfl rfl (by decide) ?_
        refine TL.pick rfl rfl (b := true) rfl (r := .bool true) rfl ?_
        refine TL.done ?_
        exact TC.nrm () () ⟨(by rw [c3]; rfl), rfl, rfl, rfl, rfl, rfl, rfl, rfl, rfl, rfl, rfl, rfl, rfl, rfl, rfl, rfl, rfl, rfl, rfl, rfl, rfl, rfl, rfl, rfl, (by rw [c3]; rfl), trivial⟩ [0, 0] rfl
      · refine TL.move rfl rfl (v := .int .i64 r_4) rfl ?_
        refine TL.move rfl rfl (v := .int .i64 r_2) rfl ?_
        refine TL.bin .i64 r_4 r_2 rfl rfl rfl rfl (v := .bool (r_4 != r_2)) rfl ?_
        refine TL.pick rfl rfl (b := false) rfl (r := .bool (r_4 != r_2)) rfl ?_
        refine TL.done ?_
        exact TC.nrm () () ⟨(by rw [c4]; rfl), rfl, rfl, rfl, rfl, rfl, rfl, rfl, rfl, rfl, rfl, rfl, rfl, rfl, rfl, rfl, rfl, rfl, rfl, rfl, rfl, rfl, rfl, rfl, (by rw [c4]; rfl), trivial⟩ [0, 0] rfl
    · refine TL.done ?_
      refine TC.cond (b := ((!r_5) || (r_4 != r_2))) rfl (fun c5 => ?_) (fun c6 => ?_)
      · refine TC.seq ?_
        refine TC.region ?_
        refine TL.assign rfl rfl (v := .bool false) rfl ?_
        refine TL.done ?_
        exact TC.retF (Fin.body (fin1 (.inr rfl) rfl (.tmp rfl) [] rfl ⟨rfl, rfl⟩))
      · refine TC.skip ?_
        refine TC.seq ?_
        refine TC.region ?_
        refine TL.assign rfl rfl (v := .int .i64 1) rfl ?_
        refine TL.done ?_
        refine TC.seq ?_
        refine TC.region ?_
        refine TL.move rfl rfl (v := SV.v s2) rfl ?_
        refine TL.move rfl rfl (v := .int .i64 1) rfl ?_
        refine TL.callX (R := G.laws_markInt64SS.R s2) [0, 0] [mat Ei 2 44 s2 ss2 r_3] [mat Ei 2 44 s1 ss1 r_1] rfl Try.call22 rfl rfl rfl (fun w I_ hle hB hS => G.laws_markInt64SS.calls _ I_ w s2 ss2 r_3 1 hS) ?_
        rintro ⟨r_6, l1⟩ _ _ ⟨ss3, rfl, rfl⟩
        refine TL.assign rfl rfl (v := .int .i64 r_6) rfl ?_
        refine TL.done ?_
        refine TC.seq ?_
        refine TC.region ?_
        refine TL.assign rfl rfl (v := .int .i64 1) rfl ?_
        refine TL.done ?_
        refine TC.seq ?_
        refine TC.region ?_
        refine TL.move rfl rfl (v := SV.v s2) rfl ?_
        refine TL.move rfl rfl (v := .int .i64 1) rfl ?_
        refine TL.call (R := G.laws_heldInt64SS.R) Try.call23 rfl rfl rfl (fun w hS => G.laws_heldInt64SS.calls w s2 ss3 l1 1 ((RdM.mat 0 rfl) w hS)) ?_
        rintro r_7 _ _ ⟨rfl, rfl⟩
        refine TL.assign rfl rfl (v := .int .i64 r_7) rfl ?_
        refine TL.done ?_
        refine TC.seq ?_
        refine TC.seq ?_
        refine TC.region ?_
        refine TL.move rfl rfl (v := .int .i64 r_7) rfl ?_
        refine TL.bin .i64 r_7 0 rfl rfl rfl rfl (v := .bool (decide (r_7 < 0))) rfl ?_
        refine TL.done ?_
        refine TC.cond (b := (decide (r_7 < 0))) rfl (fun c7 => ?_) (fun c8 => ?_)
        · refine TC.seq ?_
          refine TC.region ?_
          refine TL.assign rfl rfl (v := .bool false) rfl ?_
          refine TL.done ?_
          exact TC.retF (Fin.body (fin1 (.inr rfl) rfl (.tmp rfl) [] rfl ⟨rfl, rfl⟩))
        · refine TC.skip ?_
          refine TC.seq ?_
          refine TC.seq ?_
          refine TC.region ?_
          refine TL.move rfl rfl (v := .int .i64 r_7) rfl ?_
          refine TL.move rfl rfl (v := .int .i64 r_6) rfl ?_
          refine TL.bin .i64 r_7 r_6 rfl rfl rfl rfl (v := .bool (r_7 != r_6)) rfl ?_
          refine TL.done ?_
          refine TC.cond (b := (r_7 != r_6)) rfl (fun c9 => ?_) (fun c10 => ?_)
          · refine TC.seq ?_
            refine TC.region ?_
            refine TL.assign rfl rfl (v := .bool false) rfl ?_
            refine TL.done ?_
            exact TC.retF (Fin.body (fin1 (.inr rfl) rfl (.tmp rfl) [] rfl ⟨rfl, rfl⟩))
          · refine TC.skip ?_
            refine TC.seq ?_
            refine TC.region ?_
            refine TL.move rfl rfl (v := strv x1) rfl ?_
            refine TL.call (R := G.impl_NamedSurface.R) Try.call20 rfl rfl rfl (fun w hS => G.impl_NamedSurface.calls w x1) ?_
            rintro ⟨r_8, r_9⟩ _ _ ⟨s3, ss4, rfl, rfl⟩
            refine TL.move rfl rfl (v := .tuple #[SV.v s3, .int .i64 r_9]) rfl ?_
            refine TL.extract rfl rfl rfl (v := SV.v s3) rfl ?_
            refine TL.extract rfl rfl rfl (v := .int .i64 r_9) rfl ?_
            refine TL.assign rfl rfl (v := SV.v s3) rfl ?_
            refine TL.assign rfl rfl (v := .int .i64 r_9) rfl ?_
            refine TL.done ?_
            refine TC.seq ?_
            refine TC.seq ?_
            refine TC.region ?_
            refine TL.move rfl rfl (v := SV.v s3) rfl ?_
            refine TL.move rfl rfl (v := SV.v s1) rfl ?_
            refine TL.call (R := G.laws_eqInt64SS.R) Try.call21 rfl rfl rfl (fun w hS => G.laws_eqInt64SS.calls w s3 ss4 r_8 s1 ss1 r_1 ((RdM.mat 0 rfl) w hS) ((RdM.mat 2 rfl) w hS)) ?_
            rintro r_10 _ _ ⟨rfl, rfl⟩
            refine TL.not r_10 rfl rfl rfl ?_
            refine TL.move rfl rfl (v := .bool (!r_10)) rfl ?_
            refine TL.cutU 4 [(57, .bool ((!r_10) || (r_9 != r_2))), (0, strv x1), (2, .bool false), (11, strv x1), (12, .int .i64 (x1.length : Int)), (13, .bool (decide ((x1.length : Int) > 1048576))), (15, strv x1), (16, .tuple #[SV.v s1, .int .i64 r_2]), (14, .tuple #[SV.v s1, .int .i64 r_2]), (17, SV.v s1), (18, .int .i64 r_2), (3, SV.v s1), (4, .int .i64 r_2), (20, strv x1), (21, .tuple #[SV.v s2, .int .i64 r_4]), (19, .tuple #[SV.v s2, .int .i64 r_4]), (22, SV.v s2), (23, .int .i64 r_4), (5, SV.v s2), (6, .int .i64 r_4), (24, SV.v s2), (25, SV.v s1), (26, .bool r_5), (27, .bool (!r_5)), (28, .bool (!r_5)), (32, .bool ((!r_5) || (r_4 != r_2))), (7, .int .i64 r_6), (33, SV.v s2), (34, .int .i64 1), (35, .int .i64 r_6), (8, .int .i64 r_7), (36, SV.v s2), (37, .int .i64 1), (38, .int .i64 r_7), (39, .int .i64 r_7), (40, .bool (decide (r_7 < 0))), (41, .int .i64 r_7), (42, .int .i64 r_6), (43, .bool (r_7 != r_6)), (45, strv x1), (46, .tuple #[SV.v s3, .int .i64 r_9]), (44, .tuple #[SV.v s3, .int .i64 r_9]), (47, SV.v s3), (48, .int .i64 r_9), (9, SV.v s3), (10, .int .i64 r_9), (49, SV.v s3), (50, SV.v s1), (51, .bool r_10), (52, .bool (!r_10)), (53, .bool (!r_10))] [mat Ei 2 44 s3 ss4 r_8, mat Ei 2 44 s2 ss3 l1, mat Ei 2 44 s1 ss1 r_1] ?_ ?_
            · refine TL.cases (t := 53) (b := (!r_10)) rfl (fun c11 => ?_) (fun c12 => ?_)
              · refine TL.skip rfl rfl (by decide) ?_
                refine TL.skip rfl rfl (by decide) ?_
                refine TL.skip rfl rfl (by decide) ?_
                refine TL.pick rfl rfl (b := true) rfl (r := .bool true) rfl ?_
                refine TL.done ?_
                exact TC.nrm () () ⟨(by rw [c11]; rfl), rfl, rfl, rfl, rfl, rfl, rfl, rfl, rfl, rfl, rfl, rfl, rfl, rfl, rfl, rfl, rfl, rfl, rfl, rfl, rfl, rfl, rfl, rfl, rfl, rfl, rfl, rfl, rfl, rfl, rfl, rfl, rfl, rfl, rfl, rfl, rfl, rfl, rfl, rfl, rfl, rfl, rfl, rfl, rfl, rfl, rfl, rfl, rfl, rfl, (by rw [c11]; rfl), trivial⟩ [0, 0, 0] rfl
              · refine TL.move rfl rfl (v := .int .i64 r_9) rfl ?_
                refine TL.move rfl rfl (v := .int .i64 r_2) rfl ?_
                refine TL.bin .i64 r_9 r_2 rfl rfl rfl rfl (v := .bool (r_9 != r_2)) rfl ?_
                refine TL.pick rfl rfl (b := false) rfl (r := .bool (r_9 != r_2)) rfl ?_
                refine TL.done ?_
                exact TC.nrm () () ⟨(by rw [c12]; rfl), rfl, rfl, rfl, rfl, rfl, rfl, rfl, rfl, rfl, rfl, rfl, rfl, rfl, rfl, rfl, rfl, rfl, rfl, rfl, rfl, rfl, rfl, rfl, rfl, rfl, rfl, rfl, rfl, rfl, rfl, rfl, rfl, rfl, rfl, rfl, rfl, rfl, rfl, rfl, rfl, rfl, rfl, rfl, rfl, rfl, rfl, rfl, rfl, rfl, (by rw [c12]; rfl), trivial⟩ [0, 0, 0] rfl
            · refine TL.done ?_
              refine TC.cond (b := ((!r_10) || (r_9 != r_2))) rfl (fun c13 => ?_) (fun c14 => ?_)
              · refine TC.seq ?_
                refine TC.region ?_
                refine TL.assign rfl rfl (v := .bool false) rfl ?_
                refine TL.done ?_
                exact TC.retF (Fin.body (fin1 (.inr rfl) rfl (.tmp rfl) [] rfl ⟨rfl, rfl⟩))
              · refine TC.skip ?_
                refine TC.seq ?_
                refine TC.region ?_
                refine TL.assign rfl rfl (v := .int .i64 1) rfl ?_
                refine TL.done ?_
                refine TC.seq ?_
                refine TC.region ?_
                refine TL.move rfl rfl (v := SV.v s2) rfl ?_
                refine TL.move rfl rfl (v := .int .i64 1) rfl ?_
                refine TL.call (R := G.laws_heldInt64SS.R) Try.call23 rfl rfl rfl (fun w hS => G.laws_heldInt64SS.calls w s2 ss3 l1 1 ((RdM.mat 1 rfl) w hS)) ?_
                rintro r_11 _ _ ⟨rfl, rfl⟩
                refine TL.assign rfl rfl (v := .int .i64 r_11) rfl ?_
                refine TL.done ?_
                refine TC.seq ?_
                refine TC.seq ?_
                refine TC.region ?_
                refine TL.move rfl rfl (v := .int .i64 r_11) rfl ?_
                refine TL.bin .i64 r_11 0 rfl rfl rfl rfl (v := .bool (decide (r_11 < 0))) rfl ?_
                refine TL.done ?_
                refine TC.cond (b := (decide (r_11 < 0))) rfl (fun c15 => ?_) (fun c16 => ?_)
                · refine TC.seq ?_
                  refine TC.region ?_
                  refine TL.assign rfl rfl (v := .bool false) rfl ?_
                  refine TL.done ?_
                  exact TC.retF (Fin.body (fin1 (.inr rfl) rfl (.tmp rfl) [] rfl ⟨rfl, rfl⟩))
                · refine TC.skip ?_
                  refine TC.seq ?_
                  refine TC.seq ?_
                  refine TC.region ?_
                  refine TL.move rfl rfl (v := .int .i64 r_11) rfl ?_
                  refine TL.move rfl rfl (v := .int .i64 r_6) rfl ?_
                  refine TL.bin .i64 r_11 r_6 rfl rfl rfl rfl (v := .bool (r_11 != r_6)) rfl ?_
                  refine TL.done ?_
                  refine TC.cond (b := (r_11 != r_6)) rfl (fun c17 => ?_) (fun c18 => ?_)
                  · refine TC.seq ?_
                    refine TC.region ?_
                    refine TL.assign rfl rfl (v := .bool false) rfl ?_
                    refine TL.done ?_
                    exact TC.retF (Fin.body (fin1 (.inr rfl) rfl (.tmp rfl) [] rfl ⟨rfl, rfl⟩))
                  · refine TC.skip ?_
                    refine TC.seq ?_
                    refine TC.region ?_
                    refine TL.assign rfl rfl (v := .bool true) rfl ?_
                    refine TL.done ?_
                    exact TC.retF (Fin.body (fin1 (.inr rfl) rfl (.tmp rfl) [] rfl ⟨rfl, rfl⟩))

end Go.Proofs.Ytgljkechjkllgaa.G
