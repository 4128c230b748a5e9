/- laws.FnExactIsTensor, as a pure function. -/
import Derived.Test.YtgljkechjkllgaaProg
import Derived.Test.YtgljkechjkllgaaSx9
import Derived.Test.YtgljkechjkllgaaQ44
import Derived.Test.YtgljkechjkllgaaQ45
import Derived.Test.YtgljkechjkllgaaQ46
import Derived.Test.YtgljkechjkllgaaQ47
import Derived.Test.YtgljkechjkllgaaQ48
set_option linter.unusedVariables false
namespace Go.Proofs.Ytgljkechjkllgaa.G
open Go Go.Sx Go.Proofs

def laws_FnExactIsTensor.f (aT1 : Int) (aT2 : Int) (aT3 : Int) (aT4 : Int) (aT5 : List Int) : Option Bool := (G.laws_szTensor.f aT1 aT2 aT3 aT4 aT5 1048576).bind (fun r_1 => (bif (decide (r_1 < 0)) then some true else (G.laws_toTensor.f aT1 aT2 aT3 aT4 aT5).bind (fun p => match p with | (r_2, r_3, r_4, r_5, r_6) => (G.spec_IsTensor.f r_2 r_3 r_4 r_5 r_6).bind (fun r_7 => (G.laws_toTensor.f aT1 aT2 aT3 aT4 aT5).bind (fun p => match p with | (r_8, r_9, r_10, r_11, r_12) => (G.impl_IsTensor.f r_8 r_9 r_10 r_11 r_12).bind (fun r_13 => (bif (r_13 != r_7) then some false else (G.laws_toTensor.f aT1 aT2 aT3 aT4 aT5).bind (fun p => match p with | (r_14, r_15, r_16, r_17, r_18) => (G.laws_eqTensor.f r_8 r_9 r_10 r_11 r_12 r_14 r_15 r_16 r_17 r_18).bind (fun r_19 => (bif (!r_19) then some false else some true))))))))))

def laws_FnExactIsTensor.R (r : Bool) (v : Value) (L : List Asn) : Prop := v = .bool r ∧ L = []

set_option maxRecDepth 100000 in
set_option maxHeartbeats 4000000 in
theorem laws_FnExactIsTensor.calls (w : World) (aT1 : Int) (aT2 : Int) (aT3 : Int) (aT4 : Int) (s1 : SV) (aT5 : List Int) (h1 : Reads Ei (hp w) s1 aT5) :
    ∀ r, laws_FnExactIsTensor.f aT1 aT2 aT3 aT4 aT5 = some r → Calls Try.prog 12 #[sval [.one (.int .i64 aT1), .one (.int .i64 aT2), .one (.int .i64 aT3), .one (.int .i64 aT4), .one (SV.v s1)]] w (Ret w (laws_FnExactIsTensor.R r)) := by

  refine calls_T (n := 27) (Γ := [(0, sval [.one (.int .i64 aT1), .one (.int .i64 aT2), .one (.int .i64 aT3), .one (.int .i64 aT4), .one (SV.v s1)])]) (R := laws_FnExactIsTensor.R) Try.func12 rfl rfl (Nat.le_of_ble_eq_true rfl) ⟨rfl, trivial⟩ ?_
  unfold laws_FnExactIsTensor.f
  refine TC.seq ?_
  refine TC.region ?_
  refine TL.box [.one (.int .i64 aT1), .one (.int .i64 aT2), .one (.int .i64 aT3), .one (.int .i64 aT4), .one (SV.v s1)] rfl rfl rfl rfl fun b_1 => ?_
  refine TL.assign rfl rfl (v := .bool false) rfl ?_
  refine TL.done ?_
  refine TC.seq ?_
  refine TC.region ?_
  refine TL.assign rfl rfl (v := .int .i64 1048576) rfl ?_
  refine TL.done ?_
  refine TC.seq ?_
  refine TC.region ?_
  refine TL.loadM 0 5 (Src.box 0 rfl) Try.isAgg58 Try.sizeOf58 (mid := [.one (.int .i64 aT1), .one (.int .i64 aT2), .one (.int .i64 aT3), .one (.int .i64 aT4), .one (SV.v s1)]) rfl rfl rfl rfl rfl rfl ?_
  refine TL.move rfl rfl (v := .int .i64 1048576) rfl ?_
  refine TL.call (R := G.laws_szTensor.R) Try.call44 rfl rfl rfl (fun w hS => G.laws_szTensor.calls w aT1 aT2 aT3 aT4 s1 aT5 1048576 ((Rd.old h1) w hS)) ?_
  rintro r_1 _ _ ⟨rfl, rfl⟩
  refine TL.assign rfl rfl (v := .int .i64 r_1) rfl ?_
  refine TL.done ?_
  refine TC.seq ?_
  refine TC.seq ?_
  refine TC.region ?_
  refine TL.move rfl rfl (v := .int .i64 r_1) rfl ?_
  refine TL.bin .i64 r_1 0 rfl rfl rfl rfl (v := .bool (decide (r_1 < 0))) rfl ?_
  refine TL.done ?_
  refine TC.cond (b := (decide (r_1 < 0))) rfl (fun c1 => ?_) (fun c2 => ?_)
  · refine TC.seq ?_
    refine TC.region ?_
    refine TL.assign rfl rfl (v := .bool true) rfl ?_
    refine TL.done ?_
    exact TC.retF (Fin.body (fin1 (.inr rfl) rfl (.tmp rfl) [] rfl ⟨rfl, rfl⟩))
  · refine TC.skip ?_
    refine TC.seq ?_
    refine TC.region ?_
    refine TL.loadM 0 5 (Src.box 0 rfl) Try.isAgg58 Try.sizeOf58 (mid := [.one (.int .i64 aT1), .one (.int .i64 aT2), .one (.int .i64 aT3), .one (.int .i64 aT4), .one (SV.v s1)]) rfl rfl rfl rfl rfl rfl ?_
    refine TL.call (R := G.laws_toTensor.R) Try.call46 rfl rfl rfl (fun w hS => G.laws_toTensor.calls w aT1 aT2 aT3 aT4 s1 aT5 ((Rd.old h1) w hS)) ?_
    rintro ⟨r_2, r_3, r_4, r_5, r_6⟩ _ _ ⟨s2, rfl, rfl⟩
    refine TL.call (R := G.spec_IsTensor.R) Try.call45 rfl rfl rfl (fun w hS => G.spec_IsTensor.calls w r_2 r_3 r_4 r_5 s2 r_6 ((Rd.row 0 rfl) w hS)) ?_
    rintro r_7 _ _ ⟨rfl, rfl⟩
    refine TL.assign rfl rfl (v := .bool r_7) rfl ?_
    refine TL.done ?_
    refine TC.seq ?_
    refine TC.region ?_
    refine TL.loadM 0 5 (Src.box 1 rfl) Try.isAgg58 Try.sizeOf58 (mid := [.one (.int .i64 aT1), .one (.int .i64 aT2), .one (.int .i64 aT3), .one (.int .i64 aT4), .one (SV.v s1)]) rfl rfl rfl rfl rfl rfl ?_
    refine TL.call (R := G.laws_toTensor.R) Try.call46 rfl rfl rfl (fun w hS => G.laws_toTensor.calls w aT1 aT2 aT3 aT4 s1 aT5 ((Rd.old h1) w hS)) ?_
    rintro ⟨r_8, r_9, r_10, r_11, r_12⟩ _ _ ⟨s3, rfl, rfl⟩
    refine TL.alloc [.one (.int .i64 0), .one (.int .i64 0), .one (.int .i64 0), .one (.int .i64 0), .one (SV.v ⟨none, 0, 0⟩)] rfl rfl Try.zeroValue61 rfl fun b_2 => ?_
    refine TL.stM (news := [.one (.int .i64 r_8), .one (.int .i64 r_9), .one (.int .i64 r_10), .one (.int .i64 r_11), .one (SV.v s3)]) 0 0 5 rfl Try.sizeOf61 (ones_one rfl (ones_one rfl (ones_one rfl (ones_one rfl (ones_one rfl ones_nil))))) rfl rfl rfl rfl rfl rfl ?_
    refine TL.done ?_
    refine TC.seq ?_
    refine TC.region ?_
    refine TL.loadM 0 5 (Src.box 0 rfl) Try.isAgg61 Try.sizeOf61 (mid := [.one (.int .i64 r_8), .one (.int .i64 r_9), .one (.int .i64 r_10), .one (.int .i64 r_11), .one (SV.v s3)]) rfl rfl rfl rfl rfl rfl ?_
    refine TL.call (R := G.impl_IsTensor.R) Try.call47 rfl rfl rfl (fun w hS => G.impl_IsTensor.calls w r_8 r_9 r_10 r_11 s3 r_12 ((Rd.row 1 rfl) w hS)) ?_
    rintro r_13 _ _ ⟨rfl, rfl⟩
    refine TL.assign rfl rfl (v := .bool r_13) rfl ?_
    refine TL.done ?_
    refine TC.seq ?_
    refine TC.seq ?_
    refine TC.region ?_
    refine TL.move rfl rfl (v := .bool r_13) rfl ?_
    refine TL.move rfl rfl (v := .bool r_7) rfl ?_
    refine TL.boolNe r_13 r_7 Try.underlying4 rfl rfl rfl rfl ?_
    refine TL.done ?_
    refine TC.cond (b := (r_13 != r_7)) rfl (fun c3 => ?_) (fun c4 => ?_)
    · refine TC.seq ?_
      refine TC.region ?_
      refine TL.assign rfl rfl (v := .bool false) rfl ?_
      refine TL.done ?_
      exact TC.retF (Fin.body (fin1 (.inr rfl) rfl (.tmp rfl) [] rfl ⟨rfl, rfl⟩))
    · refine TC.skip ?_
      refine TC.seq ?_
      refine TC.seq ?_
      refine TC.wk (Γ' := [(0, sval [.one (.int .i64 aT1), .one (.int .i64 aT2), .one (.int .i64 aT3), .one (.int .i64 aT4), .one (SV.v s1)]), (1, bp b_1 0), (2, .bool false), (3, .int .i64 r_1), (7, sval [.one (.int .i64 aT1), .one (.int .i64 aT2), .one (.int .i64 aT3), .one (.int .i64 aT4), .one (SV.v s1)]), (8, .int .i64 1048576), (9, .int .i64 r_1), (10, .int .i64 r_1), (11, .bool (decide (r_1 < 0))), (12, sval [.one (.int .i64 aT1), .one (.int .i64 aT2), .one (.int .i64 aT3), .one (.int .i64 aT4), .one (SV.v s1)]), (13, sval [.one (.int .i64 r_2), .one (.int .i64 r_3), .one (.int .i64 r_4), .one (.int .i64 r_5), .one (SV.v s2)]), (14, .bool r_7), (4, .bool r_7), (15, sval [.one (.int .i64 aT1), .one (.int .i64 aT2), .one (.int .i64 aT3), .one (.int .i64 aT4), .one (SV.v s1)]), (16, sval [.one (.int .i64 r_8), .one (.int .i64 r_9), .one (.int .i64 r_10), .one (.int .i64 r_11), .one (SV.v s3)]), (5, bp b_2 0), (17, sval [.one (.int .i64 r_8), .one (.int .i64 r_9), .one (.int .i64 r_10), .one (.int .i64 r_11), .one (SV.v s3)]), (18, .bool r_13), (6, .bool r_13), (19, .bool r_13), (20, .bool r_7), (21, .bool (r_13 != r_7))]) ⟨rfl, rfl, rfl, rfl, rfl, rfl, rfl, rfl, rfl, rfl, rfl, rfl, rfl, rfl, rfl, rfl, rfl, rfl, rfl, rfl, rfl, rfl, trivial⟩ ?_
      refine TC.bindE ?_
      rintro ⟨r_14, r_15, r_16, r_17, r_18⟩ hr1
      refine TC.bindE ?_
      rintro r_19 hr2
      refine TC.drawG [(0, sval [.one (.int .i64 aT1), .one (.int .i64 aT2), .one (.int .i64 aT3), .one (.int .i64 aT4), .one (SV.v s1)]), (1, bp b_1 0), (2, .bool false), (3, .int .i64 r_1), (7, sval [.one (.int .i64 aT1), .one (.int .i64 aT2), .one (.int .i64 aT3), .one (.int .i64 aT4), .one (SV.v s1)]), (8, .int .i64 1048576), (9, .int .i64 r_1), (10, .int .i64 r_1), (11, .bool (decide (r_1 < 0))), (12, sval [.one (.int .i64 aT1), .one (.int .i64 aT2), .one (.int .i64 aT3), .one (.int .i64 aT4), .one (SV.v s1)]), (13, sval [.one (.int .i64 r_2), .one (.int .i64 r_3), .one (.int .i64 r_4), .one (.int .i64 r_5), .one (SV.v s2)]), (14, .bool r_7), (4, .bool r_7), (15, sval [.one (.int .i64 aT1), .one (.int .i64 aT2), .one (.int .i64 aT3), .one (.int .i64 aT4), .one (SV.v s1)]), (16, sval [.one (.int .i64 r_8), .one (.int .i64 r_9), .one (.int .i64 r_10), .one (.int .i64 r_11), .one (SV.v s3)]), (5, bp b_2 0), (17, sval [.one (.int .i64 r_8), .one (.int .i64 r_9), .one (.int .i64 r_10), .one (.int .i64 r_11), .one (SV.v s3)]), (18, .bool r_13), (6, .bool r_13), (19, .bool r_13), (20, .bool r_7), (21, .bool (r_13 != r_7))] [] ⟨rfl, rfl, rfl, rfl, rfl, rfl, rfl, rfl, rfl, rfl, rfl, rfl, rfl, rfl, rfl, rfl, rfl, rfl, rfl, rfl, rfl, rfl, trivial⟩ trivial (fun l_ g1 => [box b_2 61 [.one (.int .i64 r_8), .one (.int .i64 r_9), .one (.int .i64 r_10), .one (.int .i64 r_11), .one (SV.v s3)], row Ei 2 s3 r_12, row Ei 2 s2 r_6, box b_1 58 [.one (.int .i64 aT1), .one (.int .i64 aT2), .one (.int .i64 aT3), .one (.int .i64 aT4), .one (SV.v s1)], (bif nb l_ 2 then row Ei 2 (gs (g1 16)) r_18 else emp)]) (fun g1 => [sval [.one (.int .i64 r_8), .one (.int .i64 r_9), .one (.int .i64 r_10), .one (.int .i64 r_11), .one (SV.v s3)], sval [.one (.int .i64 aT1), .one (.int .i64 aT2), .one (.int .i64 aT3), .one (.int .i64 aT4), .one (SV.v s1)], sval [.one (.int .i64 r_14), .one (.int .i64 r_15), .one (.int .i64 r_16), .one (.int .i64 r_17), .one (SV.v (gs (g1 16)))], .bool r_19, .bool (!r_19)]) [[], [], [1], [0, 1, 2], [0, 1, 2, 3]] [[some false, none, none, some false, some false], [none, some false, some false, some false, some false], [none, some true, some false, some false, some false], [some true, some true, some true, some false, some false], [some true, some true, some true, some true, some false]] (by kernel_rfl) (fun _ => rfl) rfl rfl rfl rfl rfl (fun _ _ => ⟨⟨⟨⟨⟨trivial, rfl⟩, rfl⟩, rfl⟩, rfl⟩, rfl⟩) 1 [1, 1, 1, 1, 0] (fun _ => rfl) ?_ ?_
      · refine ⟨rfl, ?_, rfl, ?_, rfl, ?_, rfl, ?_, rfl, ?_, trivial⟩
        · intro b1_ b2_ g1
          refine TL.asL [box b_2 61 [.one (.int .i64 r_8), .one (.int .i64 r_9), .one (.int .i64 r_10), .one (.int .i64 r_11), .one (SV.v s3)], row Ei 2 s3 r_12, row Ei 2 s2 r_6, box b_1 58 [.one (.int .i64 aT1), .one (.int .i64 aT2), .one (.int .i64 aT3), .one (.int .i64 aT4), .one (SV.v s1)], (bif b2_ then row Ei 2 (gs (g1 16)) r_18 else emp)] rfl ?_
          refine TL.loadM 0 5 (Src.box 0 rfl) Try.isAgg61 Try.sizeOf61 (mid := [.one (.int .i64 r_8), .one (.int .i64 r_9), .one (.int .i64 r_10), .one (.int .i64 r_11), .one (SV.v s3)]) rfl rfl rfl rfl rfl rfl ?_
          refine TL.done ?_
          exact TC.nrm () [] ⟨rfl, trivial⟩ [0, 0, 0, 0, 0] rfl
        · intro b0_ g1
          refine TL.asL [box b_2 61 [.one (.int .i64 r_8), .one (.int .i64 r_9), .one (.int .i64 r_10), .one (.int .i64 r_11), .one (SV.v s3)], row Ei 2 s3 r_12, row Ei 2 s2 r_6, box b_1 58 [.one (.int .i64 aT1), .one (.int .i64 aT2), .one (.int .i64 aT3), .one (.int .i64 aT4), .one (SV.v s1)], emp] rfl ?_
          refine TL.loadM 0 5 (Src.box 3 rfl) Try.isAgg58 Try.sizeOf58 (mid := [.one (.int .i64 aT1), .one (.int .i64 aT2), .one (.int .i64 aT3), .one (.int .i64 aT4), .one (SV.v s1)]) rfl rfl rfl rfl rfl rfl ?_
          refine TL.done ?_
          exact TC.nrm () [] ⟨rfl, trivial⟩ [0, 0, 0, 0, 0] rfl
        · intro b0_ g1
          refine TL.asL [box b_2 61 [.one (.int .i64 r_8), .one (.int .i64 r_9), .one (.int .i64 r_10), .one (.int .i64 r_11), .one (SV.v s3)], row Ei 2 s3 r_12, row Ei 2 s2 r_6, box b_1 58 [.one (.int .i64 aT1), .one (.int .i64 aT2), .one (.int .i64 aT3), .one (.int .i64 aT4), .one (SV.v s1)], emp] rfl ?_
          refine TL.callH (R := G.laws_toTensor.R) hr1 Try.call46 rfl rfl rfl (fun w hS => G.laws_toTensor.calls w aT1 aT2 aT3 aT4 s1 aT5 ((Rd.old h1) w hS)) ?_
          rintro _ _ ⟨s4, rfl, rfl⟩
          refine TL.done ?_
          exact TC.nrm () [[s4]] ⟨rfl, trivial⟩ [1, 1, 1, 1, 0] rfl
        · intro g1
          refine TL.asL [box b_2 61 [.one (.int .i64 r_8), .one (.int .i64 r_9), .one (.int .i64 r_10), .one (.int .i64 r_11), .one (SV.v s3)], row Ei 2 s3 r_12, row Ei 2 s2 r_6, box b_1 58 [.one (.int .i64 aT1), .one (.int .i64 aT2), .one (.int .i64 aT3), .one (.int .i64 aT4), .one (SV.v s1)], row Ei 2 (gs (g1 16)) r_18] rfl ?_
          refine TL.callH (R := G.laws_eqTensor.R) hr2 Try.call48 rfl rfl rfl (fun w hS => G.laws_eqTensor.calls w r_8 r_9 r_10 r_11 s3 r_12 r_14 r_15 r_16 r_17 (gs (g1 16)) r_18 ((Rd.row 1 rfl) w hS) ((Rd.row 4 rfl) w hS)) ?_
          rintro _ _ ⟨rfl, rfl⟩
          refine TL.done ?_
          exact TC.nrm () [] ⟨rfl, trivial⟩ [0, 0, 0, 0, 0] rfl
        · intro g1
          refine TL.not r_19 rfl rfl rfl ?_
          refine TL.done ?_
          exact TC.nrm () [] ⟨rfl, trivial⟩ [0, 0, 0, 0, 0] rfl
      · intro g1
        refine TC.asL [box b_2 61 [.one (.int .i64 r_8), .one (.int .i64 r_9), .one (.int .i64 r_10), .one (.int .i64 r_11), .one (SV.v s3)], row Ei 2 s3 r_12, row Ei 2 s2 r_6, box b_1 58 [.one (.int .i64 aT1), .one (.int .i64 aT2), .one (.int .i64 aT3), .one (.int .i64 aT4), .one (SV.v s1)], row Ei 2 (gs (g1 16)) r_18] rfl ?_
        refine TC.cond (b := (!r_19)) rfl (fun c5 => ?_) (fun c6 => ?_)
        · refine TC.seq ?_
          refine TC.region ?_
          refine TL.assign rfl rfl (v := .bool false) rfl ?_
          refine TL.done ?_
          exact TC.retF (Fin.body (fin1 (.inr rfl) rfl (.tmp rfl) [] rfl ⟨rfl, rfl⟩))
        · refine TC.skip ?_
          refine TC.seq ?_
          refine TC.region ?_
          refine TL.assign rfl rfl (v := .bool true) rfl ?_
          refine TL.done ?_
          exact TC.retF (Fin.body (fin1 (.inr rfl) rfl (.tmp rfl) [] rfl ⟨rfl, rfl⟩))

end Go.Proofs.Ytgljkechjkllgaa.G
