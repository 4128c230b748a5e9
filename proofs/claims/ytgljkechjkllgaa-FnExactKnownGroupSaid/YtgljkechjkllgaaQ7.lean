/- laws.FnExactKnownGroup, as a pure function. -/
import Derived.Test.YtgljkechjkllgaaProg
import Derived.Test.YtgljkechjkllgaaSx9
import Derived.Test.YtgljkechjkllgaaQ27
import Derived.Test.YtgljkechjkllgaaQ28
import Derived.Test.YtgljkechjkllgaaQ29
set_option linter.unusedVariables false
namespace Go.Proofs.Ytgljkechjkllgaa.G
open Go Go.Sx Go.Proofs

def laws_FnExactKnownGroup.f (aName1 : Str) : Option Bool := (bif (decide ((aName1.length : Int) > 1048576)) then some true else (G.spec_KnownGroup.f aName1).bind (fun p => match p with | (r_1, r_2, r_3) => (G.impl_KnownGroup.f aName1).bind (fun p => match p with | (r_4, r_5, r_6) => (G.laws_eqGroup.f r_4 r_5 r_1 r_2).bind (fun r_7 => (bif ((!r_7) || (r_6 != r_3)) then some false else some true)))))

def laws_FnExactKnownGroup.R (r : Bool) (v : Value) (L : List Asn) : Prop := v = .bool r ∧ L = []

set_option maxRecDepth 100000 in
set_option maxHeartbeats 4000000 in
theorem laws_FnExactKnownGroup.calls (w : World) (aName1 : Str) :
    ∀ r, laws_FnExactKnownGroup.f aName1 = some r → Calls Try.prog 7 #[strv aName1] w (Ret w (laws_FnExactKnownGroup.R r)) := by

  refine calls_T (n := 29) (Γ := [(0, strv aName1)]) (R := laws_FnExactKnownGroup.R) Try.func7 rfl rfl (Nat.le_of_ble_eq_true rfl) ⟨rfl, trivial⟩ ?_
  unfold laws_FnExactKnownGroup.f
  refine TC.seq ?_
  refine TC.region ?_
  refine TL.assign rfl rfl (v := .bool false) rfl ?_
  refine TL.done ?_
  refine TC.seq ?_
  refine TC.seq ?_
  refine TC.region ?_
  refine TL.move rfl rfl (v := strv aName1) rfl ?_
  refine TL.lenstr Try.underlying9 rfl rfl rfl ?_
  refine TL.bin .i64 (aName1.length : Int) 1048576 rfl rfl rfl rfl (v := .bool (decide ((aName1.length : Int) > 1048576))) rfl ?_
  refine TL.done ?_
  refine TC.cond (b := (decide ((aName1.length : Int) > 1048576))) rfl (fun c1 => ?_) (fun c2 => ?_)
  · refine TC.seq ?_
    refine TC.region ?_
    refine TL.assign rfl rfl (v := .bool true) rfl ?_
    refine TL.done ?_
    exact TC.retF (Fin.body (fin1 (.inr rfl) rfl (.tmp rfl) [] rfl ⟨rfl, rfl⟩))
  · refine TC.skip ?_
    refine TC.seq ?_
    refine TC.region ?_
    refine TL.move rfl rfl (v := strv aName1) rfl ?_
    refine TL.call (R := G.spec_KnownGroup.R) Try.call27 rfl rfl rfl (fun w hS => G.spec_KnownGroup.calls w aName1) ?_
    rintro ⟨r_1, r_2, r_3⟩ _ _ ⟨rfl, rfl⟩
    refine TL.move rfl rfl (v := .tuple #[sval [.one (.int .i64 r_1), .arr 36 (enf u8v r_2)], .int .i64 r_3]) rfl ?_
    refine TL.extract rfl rfl rfl (v := sval [.one (.int .i64 r_1), .arr 36 (enf u8v r_2)]) rfl ?_
    refine TL.extract rfl rfl rfl (v := .int .i64 r_3) rfl ?_
    refine TL.alloc [.one (.int .i64 0), .arr 36 (enf u8v (fun _ => (0 : UInt8)))] rfl rfl Try.zeroValue38 rfl fun b_1 => ?_
    refine TL.stM (news := [.one (.int .i64 r_1), .arr 36 (enf u8v r_2)]) 0 0 2 rfl Try.sizeOf38 (ones_one rfl (ones_arr (fun _ => rfl) ones_nil)) rfl rfl rfl rfl rfl rfl ?_
    refine TL.assign rfl rfl (v := .int .i64 r_3) rfl ?_
    refine TL.done ?_
    refine TC.seq ?_
    refine TC.region ?_
    refine TL.move rfl rfl (v := strv aName1) rfl ?_
    refine TL.call (R := G.impl_KnownGroup.R) Try.call28 rfl rfl rfl (fun w hS => G.impl_KnownGroup.calls w aName1) ?_
    rintro ⟨r_4, r_5, r_6⟩ _ _ ⟨rfl, rfl⟩
    refine TL.move rfl rfl (v := .tuple #[sval [.one (.int .i64 r_4), .arr 36 (enf u8v r_5)], .int .i64 r_6]) rfl ?_
    refine TL.extract rfl rfl rfl (v := sval [.one (.int .i64 r_4), .arr 36 (enf u8v r_5)]) rfl ?_
    refine TL.extract rfl rfl rfl (v := .int .i64 r_6) rfl ?_
    refine TL.alloc [.one (.int .i64 0), .arr 36 (enf u8v (fun _ => (0 : UInt8)))] rfl rfl Try.zeroValue38 rfl fun b_2 => ?_
    refine TL.stM (news := [.one (.int .i64 r_4), .arr 36 (enf u8v r_5)]) 0 0 2 rfl Try.sizeOf38 (ones_one rfl (ones_arr (fun _ => rfl) ones_nil)) rfl rfl rfl rfl rfl rfl ?_
    refine TL.assign rfl rfl (v := .int .i64 r_6) rfl ?_
    refine TL.done ?_
    refine TC.seq ?_
    refine TC.seq ?_
    refine TC.region ?_
    refine TL.loadM 0 2 (Src.box 0 rfl) Try.isAgg38 Try.sizeOf38 (mid := [.one (.int .i64 r_4), .arr 36 (enf u8v r_5)]) rfl rfl rfl rfl rfl rfl ?_
    refine TL.loadM 0 2 (Src.box 1 rfl) Try.isAgg38 Try.sizeOf38 (mid := [.one (.int .i64 r_1), .arr 36 (enf u8v r_2)]) rfl rfl rfl rfl rfl rfl ?_
    refine TL.call (R := G.laws_eqGroup.R) Try.call29 rfl rfl rfl (fun w hS => G.laws_eqGroup.calls w r_4 r_5 r_1 r_2) ?_
    rintro r_7 _ _ ⟨rfl, rfl⟩
    refine TL.not r_7 rfl rfl rfl ?_
    refine TL.move rfl rfl (v := .bool (!r_7)) rfl ?_
    refine TL.cutU 4 [(28, .bool ((!r_7) || (r_6 != r_3))), (0, strv aName1), (2, .bool false), (7, strv aName1), (8, .int .i64 (aName1.length : Int)), (9, .bool (decide ((aName1.length : Int) > 1048576))), (11, strv aName1), (12, .tuple #[sval [.one (.int .i64 r_1), .arr 36 (enf u8v r_2)], .int .i64 r_3]), (10, .tuple #[sval [.one (.int .i64 r_1), .arr 36 (enf u8v r_2)], .int .i64 r_3]), (13, sval [.one (.int .i64 r_1), .arr 36 (enf u8v r_2)]), (14, .int .i64 r_3), (3, bp b_1 0), (4, .int .i64 r_3), (16, strv aName1), (17, .tuple #[sval [.one (.int .i64 r_4), .arr 36 (enf u8v r_5)], .int .i64 r_6]), (15, .tuple #[sval [.one (.int .i64 r_4), .arr 36 (enf u8v r_5)], .int .i64 r_6]), (18, sval [.one (.int .i64 r_4), .arr 36 (enf u8v r_5)]), (19, .int .i64 r_6), (5, bp b_2 0), (6, .int .i64 r_6), (20, sval [.one (.int .i64 r_4), .arr 36 (enf u8v r_5)]), (21, sval [.one (.int .i64 r_1), .arr 36 (enf u8v r_2)]), (22, .bool r_7), (23, .bool (!r_7)), (24, .bool (!r_7))] [box b_2 38 [.one (.int .i64 r_4), .arr 36 (enf u8v r_5)], box b_1 38 [.one (.int .i64 r_1), .arr 36 (enf u8v r_2)]] ?_ ?_
    · refine TL.cases (t := 24) (b := (!r_7)) rfl (fun c3 => ?_) (fun c4 => ?_)
      · refine TL.skip rfl rfl (by decide) ?_
        refine TL.skip rfl rfl (by decide) ?_
        refine TL.skip rfl rfl (by decide) ?_
        refine TL.pick rfl rfl (b := true) rfl (r := .bool true) rfl ?_
        refine TL.done ?_
        exact TC.nrm () () ⟨(by rw [c3]; rfl), rfl, rfl, rfl, rfl, rfl, rfl, rfl, rfl, rfl, rfl, rfl, rfl, rfl, rfl, rfl, rfl, rfl, rfl, rfl, rfl, rfl, rfl, rfl, (by rw [c3]; rfl), trivial⟩ [0, 0] rfl
      · refine TL.move rfl rfl (v := .int .i64 r_6) rfl ?_
        refine TL.move rfl rfl (v := .int .i64 r_3) rfl ?_
        refine TL.bin .i64 r_6 r_3 rfl rfl rfl rfl (v := .bool (r_6 != r_3)) rfl ?_
        refine TL.pick rfl rfl (b := false) rfl (r := .bool (r_6 != r_3)) rfl ?_
        refine TL.done ?_
        exact TC.nrm () () ⟨(by rw [c4]; rfl), rfl, rfl, rfl, rfl, rfl, rfl, rfl, rfl, rfl, rfl, rfl, rfl, rfl, rfl, rfl, rfl, rfl, rfl, rfl, rfl, rfl, rfl, rfl, (by rw [c4]; rfl), trivial⟩ [0, 0] rfl
    · refine TL.done ?_
      refine TC.cond (b := ((!r_7) || (r_6 != r_3))) rfl (fun c5 => ?_) (fun c6 => ?_)
      · refine TC.seq ?_
        refine TC.region ?_
        refine TL.assign rfl rfl (v := .bool false) rfl ?_
        refine TL.done ?_
        exact TC.retF (Fin.body (fin1 (.inr rfl) rfl (.tmp rfl) [] rfl ⟨rfl, rfl⟩))
      · refine TC.skip ?_
        refine TC.seq ?_
        refine TC.region ?_
        refine TL.assign rfl rfl (v := .bool true) rfl ?_
        refine TL.done ?_
        exact TC.retF (Fin.body (fin1 (.inr rfl) rfl (.tmp rfl) [] rfl ⟨rfl, rfl⟩))

end Go.Proofs.Ytgljkechjkllgaa.G
