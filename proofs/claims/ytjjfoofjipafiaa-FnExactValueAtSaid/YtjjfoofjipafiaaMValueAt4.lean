/- Functions of the program, as pure functions. -/
import Derived.Test.YtjjfoofjipafiaaMValueAt3
import Derived.Test.YtjjfoofjipafiaaProg
/- laws.FnExactValueAt, as a pure function. -/
set_option linter.unusedVariables false
namespace Go.Proofs.Ytjjfoofjipafiaa.G
open Go Go.Sx Go.Proofs

def laws_FnExactValueAt.f (x1 : Int) (x2 : Int) (x3 : Int) (x4 : Int) (x5 : List Int) (x6 : List (Nat → UInt8)) : Option Bool := (G.laws_szTensor.f x1 x2 x3 x4 x5 1048576).bind (fun r_1 => (bif (decide (r_1 < 0)) then some true else (G.laws_szVectorS.f x6 r_1).bind (fun r_2 => (bif (decide (r_2 < 0)) then some true else (G.laws_toTensor.f x1 x2 x3 x4 x5).bind (fun p => match p with | (r_3, r_4, r_5, r_6, r_7) => (G.laws_toVectorS.f x6).bind (fun r_8 => (G.spec_ValueAt.f r_3 r_4 r_5 r_6 r_7 r_8).bind (fun p => match p with | (r_9, r_10) => (G.laws_toTensor.f x1 x2 x3 x4 x5).bind (fun p => match p with | (r_11, r_12, r_13, r_14, r_15) => (G.laws_toVectorS.f x6).bind (fun r_16 => (G.impl_ValueAt.f r_11 r_12 r_13 r_14 r_15 r_16).bind (fun p => match p with | (r_17, r_18) => (G.laws_eqInt64S.f r_17 r_9).bind (fun r_19 => (bif ((!r_19) || (r_18 != r_10)) then some false else (G.laws_toTensor.f x1 x2 x3 x4 x5).bind (fun p => match p with | (r_20, r_21, r_22, r_23, r_24) => (G.laws_eqTensor.f r_11 r_12 r_13 r_14 r_15 r_20 r_21 r_22 r_23 r_24).bind (fun r_25 => (bif (!r_25) then some false else (G.laws_toVectorS.f x6).bind (fun r_26 => (G.laws_eqVectorS.f r_16 r_26).bind (fun r_27 => (bif (!r_27) then some false else (G.laws_markTensor.f r_11 r_12 r_13 r_14 r_15 1).bind (fun p => match p with | (r_28, l1) => (G.laws_markVectorS.f r_16 r_28).bind (fun p => match p with | (r_29, l2) => (bif (decide (r_29 < 0)) then some true else (G.laws_eqInt64S.f r_17 r_9).bind (fun r_30 => some (!r_30))).bind (fun b_3 => (bif (b_3 || (r_18 != r_10)) then some false else (G.laws_markInt64S.f r_17 1).bind (fun p => match p with | (r_31, l3) => (G.laws_heldInt64S.f l3 1).bind (fun r_32 => (bif (decide (r_32 < 0)) then some false else (bif (r_32 != r_31) then some false else (G.laws_toTensor.f x1 x2 x3 x4 x5).bind (fun p => match p with | (r_33, r_34, r_35, r_36, r_37) => (G.laws_toVectorS.f x6).bind (fun r_38 => (G.impl_ValueAt.f r_33 r_34 r_35 r_36 r_37 r_38).bind (fun p => match p with | (r_39, r_40) => (G.laws_eqInt64S.f r_39 r_9).bind (fun r_41 => (bif ((!r_41) || (r_40 != r_10)) then some false else (G.laws_heldInt64S.f l3 1).bind (fun r_42 => (bif (decide (r_42 < 0)) then some false else (bif (r_42 != r_31) then some false else some true))))))))))))))))))))))))))))))))))

def laws_FnExactValueAt.R (r : Bool) (v : Value) (L : List Asn) : Prop := v = .bool r ∧ L = []

set_option maxRecDepth 100000 in
set_option maxHeartbeats 4000000 in
theorem laws_FnExactValueAt.calls (w : World) (x1 : Int) (x2 : Int) (x3 : Int) (x4 : Int) (s1 : SV) (x5 : List Int) (s2 : SV) (x6 : List (Nat → UInt8)) (h1 : Reads Ei (hp w) s1 x5) (h2 : Reads (Evec 6) (hp w) s2 x6) :
    ∀ r, laws_FnExactValueAt.f x1 x2 x3 x4 x5 x6 = some r → Calls Try.prog 9 #[sval [.one (.int .i64 x1), .one (.int .i64 x2), .one (.int .i64 x3), .one (.int .i64 x4), .one (SV.v s1)], SV.v s2] w (Ret w (laws_FnExactValueAt.R r)) := by

  refine calls_T (n := 119) (Γ := [(0, sval [.one (.int .i64 x1), .one (.int .i64 x2), .one (.int .i64 x3), .one (.int .i64 x4), .one (SV.v s1)]), (1, SV.v s2)]) (R := laws_FnExactValueAt.R) Try.func9 rfl rfl (Nat.le_of_ble_eq_true rfl) ⟨rfl, rfl, trivial⟩ ?_
  unfold laws_FnExactValueAt.f
  refine TC.seq ?_
  refine TC.region ?_
  refine TL.box [.one (.int .i64 x1), .one (.int .i64 x2), .one (.int .i64 x3), .one (.int .i64 x4), .one (SV.v s1)] rfl rfl rfl rfl fun b_1 => ?_
  refine TL.assign rfl rfl (v := .bool false) rfl ?_
  refine TL.done ?_
  refine TC.seq ?_
  refine TC.region ?_
  refine TL.assign rfl rfl (v := .int .i64 1048576) rfl ?_
  refine TL.done ?_
  refine TC.seq ?_
  refine TC.region ?_
  refine TL.loadM 0 5 (Src.box 0 rfl) Try.isAgg32 Try.sizeOf32 (mid := [.one (.int .i64 x1), .one (.int .i64 x2), .one (.int .i64 x3), .one (.int .i64 x4), .one (SV.v s1)]) rfl rfl rfl rfl rfl rfl ?_
  refine TL.move rfl rfl (v := .int .i64 1048576) rfl ?_
  refine TL.call (R := G.laws_szTensor.R) Try.call19 rfl rfl rfl (fun w hS => G.laws_szTensor.calls w x1 x2 x3 x4 s1 x5 1048576 ((Rd.old h1) w hS)) ?_
  rintro r_1 _ _ ⟨rfl, rfl⟩
  refine TL.assign rfl rfl (v := .int .i64 r_1) rfl ?_
  refine TL.done ?_
  refine TC.seq ?_
  refine TC.seq ?_
  refine TC.region ?_
  refine TL.move rfl rfl (v := .int .i64 r_1) rfl ?_
  refine TL.bin .i64 r_1 0 rfl rfl rfl rfl (v := .bool (decide (r_1 < 0))) rfl ?_
  refine TL.done ?_
  refine TC.cond (b := (decide (r_1 < 0))) rfl (fun c1 => ?_) (fun c2 => ?_)
  · refine TC.seq ?_
    refine TC.region ?_
    refine TL.assign rfl rfl (v := .bool true) rfl ?_
    refine TL.done ?_
    exact TC.retF (Fin.body (fin1 (.inr rfl) rfl (.tmp rfl) [] rfl ⟨rfl, rfl⟩))
  · refine TC.skip ?_
    refine TC.seq ?_
    refine TC.region ?_
    refine TL.move rfl rfl (v := SV.v s2) rfl ?_
    refine TL.move rfl rfl (v := .int .i64 r_1) rfl ?_
    refine TL.call (R := G.laws_szVectorS.R) Try.call29 rfl rfl rfl (fun w hS => G.laws_szVectorS.calls w s2 x6 r_1 ((Rd.old h2) w hS)) ?_
    rintro r_2 _ _ ⟨rfl, rfl⟩
    refine TL.assign rfl rfl (v := .int .i64 r_2) rfl ?_
    refine TL.done ?_
    refine TC.seq ?_
    refine TC.seq ?_
    refine TC.region ?_
    refine TL.move rfl rfl (v := .int .i64 r_2) rfl ?_
    refine TL.bin .i64 r_2 0 rfl rfl rfl rfl (v := .bool (decide (r_2 < 0))) rfl ?_
    refine TL.done ?_
    refine TC.cond (b := (decide (r_2 < 0))) rfl (fun c3 => ?_) (fun c4 => ?_)
    · refine TC.seq ?_
      refine TC.region ?_
      refine TL.assign rfl rfl (v := .bool true) rfl ?_
      refine TL.done ?_
      exact TC.retF (Fin.body (fin1 (.inr rfl) rfl (.tmp rfl) [] rfl ⟨rfl, rfl⟩))
    · refine TC.skip ?_
      refine TC.seq ?_
      refine TC.region ?_
      refine TL.loadM 0 5 (Src.box 0 rfl) Try.isAgg32 Try.sizeOf32 (mid := [.one (.int .i64 x1), .one (.int .i64 x2), .one (.int .i64 x3), .one (.int .i64 x4), .one (SV.v s1)]) rfl rfl rfl rfl rfl rfl ?_
      refine TL.call (R := G.laws_toTensor.R) Try.call21 rfl rfl rfl (fun w hS => G.laws_toTensor.calls w x1 x2 x3 x4 s1 x5 ((Rd.old h1) w hS)) ?_
      rintro ⟨r_3, r_4, r_5, r_6, r_7⟩ _ _ ⟨s3, rfl, rfl⟩
      refine TL.move rfl rfl (v := SV.v s2) rfl ?_
      refine TL.call (R := G.laws_toVectorS.R) Try.call31 rfl rfl rfl (fun w hS => G.laws_toVectorS.calls w s2 x6 ((Rd.old h2) w hS)) ?_
      rintro r_8 _ _ ⟨s4, rfl, rfl⟩
      refine TL.call (R := G.spec_ValueAt.R) Try.call30 rfl rfl rfl (fun w hS => G.spec_ValueAt.calls w r_3 r_4 r_5 r_6 s3 r_7 s4 r_8 ((Rd.row 1 rfl) w hS) ((Rd.row 0 rfl) w hS)) ?_
      rintro ⟨r_9, r_10⟩ _ _ ⟨s5, rfl, rfl⟩
      refine TL.move rfl rfl (v := .tuple #[SV.v s5, .int .i64 r_10]) rfl ?_
      refine TL.extract rfl rfl rfl (v := SV.v s5) rfl ?_
      refine TL.extract rfl rfl rfl (v := .int .i64 r_10) rfl ?_
      refine TL.assign rfl rfl (v := SV.v s5) rfl ?_
      refine TL.assign rfl rfl (v := .int .i64 r_10) rfl ?_
      refine TL.done ?_
      refine TC.seq ?_
      refine TC.region ?_
      refine TL.loadM 0 5 (Src.box 3 rfl) Try.isAgg32 Try.sizeOf32 (mid := [.one (.int .i64 x1), .one (.int .i64 x2), .one (.int .i64 x3), .one (.int .i64 x4), .one (SV.v s1)]) rfl rfl rfl rfl rfl rfl ?_
      refine TL.call (R := G.laws_toTensor.R) Try.call21 rfl rfl rfl (fun w hS => G.laws_toTensor.calls w x1 x2 x3 x4 s1 x5 ((Rd.old h1) w hS)) ?_
      rintro ⟨r_11, r_12, r_13, r_14, r_15⟩ _ _ ⟨s6, rfl, rfl⟩
      refine TL.alloc [.one (.int .i64 0), .one (.int .i64 0), .one (.int .i64 0), .one (.int .i64 0), .one (SV.v ⟨none, 0, 0⟩)] rfl rfl Try.zeroValue24 rfl fun b_2 => ?_
      refine TL.stM (news := [.one (.int .i64 r_11), .one (.int .i64 r_12), .one (.int .i64 r_13), .one (.int .i64 r_14), .one (SV.v s6)]) 0 0 5 rfl Try.sizeOf24 (ones_one rfl (ones_one rfl (ones_one rfl (ones_one rfl (ones_one rfl ones_nil))))) rfl rfl rfl rfl rfl rfl ?_
      refine TL.done ?_
      refine TC.seq ?_
      refine TC.region ?_
      refine TL.move rfl rfl (v := SV.v s2) rfl ?_
      refine TL.call (R := G.laws_toVectorS.R) Try.call31 rfl rfl rfl (fun w hS => G.laws_toVectorS.calls w s2 x6 ((Rd.old h2) w hS)) ?_
      rintro r_16 _ _ ⟨s7, rfl, rfl⟩
      refine TL.assign rfl rfl (v := SV.v s7) rfl ?_
      refine TL.done ?_
      refine TC.seq ?_
      refine TC.region ?_
      refine TL.loadM 0 5 (Src.box 1 rfl) Try.isAgg24 Try.sizeOf24 (mid := [.one (.int .i64 r_11), .one (.int .i64 r_12), .one (.int .i64 r_13), .one (.int .i64 r_14), .one (SV.v s6)]) rfl rfl rfl rfl rfl rfl ?_
      refine TL.move rfl rfl (v := SV.v s7) rfl ?_
      refine TL.call (R := G.impl_ValueAt.R) Try.call32 rfl rfl rfl (fun w hS => G.impl_ValueAt.calls w r_11 r_12 r_13 r_14 s6 r_15 s7 r_16 ((Rd.row 2 rfl) w hS) ((Rd.row 0 rfl) w hS)) ?_
      rintro ⟨r_17, r_18⟩ _ _ ⟨s8, rfl, rfl⟩
      refine TL.move rfl rfl (v := .tuple #[SV.v s8, .int .i64 r_18]) rfl ?_
      refine TL.extract rfl rfl rfl (v := SV.v s8) rfl ?_
      refine TL.extract rfl rfl rfl (v := .int .i64 r_18) rfl ?_
      refine TL.assign rfl rfl (v := SV.v s8) rfl ?_
      refine TL.assign rfl rfl (v := .int .i64 r_18) rfl ?_
      refine TL.done ?_
      refine TC.seq ?_
      refine TC.seq ?_
      refine TC.region ?_
      refine TL.move rfl rfl (v := SV.v s8) rfl ?_
      refine TL.move rfl rfl (v := SV.v s5) rfl ?_
      refine TL.call (R := G.laws_eqInt64S.R) Try.call33 rfl rfl rfl (fun w hS => G.laws_eqInt64S.calls w s8 r_17 s5 r_9 ((Rd.row 0 rfl) w hS) ((Rd.row 4 rfl) w hS)) ?_
      rintro r_19 _ _ ⟨rfl, rfl⟩
      refine TL.not r_19 rfl rfl rfl ?_
      refine TL.move rfl rfl (v := .bool (!r_19)) rfl ?_
      refine TL.cutU 4 [(53, .bool ((!r_19) || (r_18 != r_10))), (0, sval [.one (.int .i64 x1), .one (.int .i64 x2), .one (.int .i64 x3), .one (.int .i64 x4), .one (SV.v s1)]), (1, SV.v s2), (2, bp b_1 0), (4, .bool false), (5, .int .i64 r_2), (17, sval [.one (.int .i64 x1), .one (.int .i64 x2), .one (.int .i64 x3), .one (.int .i64 x4), .one (SV.v s1)]), (18, .int .i64 1048576), (19, .int .i64 r_1), (20, .int .i64 r_1), (21, .bool (decide (r_1 < 0))), (22, SV.v s2), (23, .int .i64 r_1), (24, .int .i64 r_2), (25, .int .i64 r_2), (26, .bool (decide (r_2 < 0))), (28, sval [.one (.int .i64 x1), .one (.int .i64 x2), .one (.int .i64 x3), .one (.int .i64 x4), .one (SV.v s1)]), (29, sval [.one (.int .i64 r_3), .one (.int .i64 r_4), .one (.int .i64 r_5), .one (.int .i64 r_6), .one (SV.v s3)]), (30, SV.v s2), (31, SV.v s4), (32, .tuple #[SV.v s5, .int .i64 r_10]), (27, .tuple #[SV.v s5, .int .i64 r_10]), (33, SV.v s5), (34, .int .i64 r_10), (6, SV.v s5), (7, .int .i64 r_10), (35, sval [.one (.int .i64 x1), .one (.int .i64 x2), .one (.int .i64 x3), .one (.int .i64 x4), .one (SV.v s1)]), (36, sval [.one (.int .i64 r_11), .one (.int .i64 r_12), .one (.int .i64 r_13), .one (.int .i64 r_14), .one (SV.v s6)]), (8, bp b_2 0), (37, SV.v s2), (38, SV.v s7), (9, SV.v s7), (40, sval [.one (.int .i64 r_11), .one (.int .i64 r_12), .one (.int .i64 r_13), .one (.int .i64 r_14), .one (SV.v s6)]), (41, SV.v s7), (42, .tuple #[SV.v s8, .int .i64 r_18]), (39, .tuple #[SV.v s8, .int .i64 r_18]), (43, SV.v s8), (44, .int .i64 r_18), (10, SV.v s8), (11, .int .i64 r_18), (45, SV.v s8), (46, SV.v s5), (47, .bool r_19), (48, .bool (!r_19)), (49, .bool (!r_19))] [row Ei 2 s8 r_17, row (Evec 6) 58 s7 r_16, box b_2 24 [.one (.int .i64 r_11), .one (.int .i64 r_12), .one (.int .i64 r_13), .one (.int .i64 r_14), .one (SV.v s6)], row Ei 2 s6 r_15, row Ei 2 s5 r_9, row (Evec 6) 58 s4 r_8, row Ei 2 s3 r_7, box b_1 32 [.one (.int .i64 x1), .one (.int .i64 x2), .one (.int .i64 x3), .one (.int .i64 x4), .one (SV.v s1)]] ?_ ?_
      · refine TL.cases (t := 49) (b := (!r_19)) rfl (fun c5 => ?_) (fun c6 => ?_)
        · refine TL.skip rfl rfl (by decide) ?_
          refine TL.skip rfl rfl (by decide) ?_
          refine TL.skip rfl rfl (by decide) ?_
          refine TL.pick rfl rfl (b := true) rfl (r := .bool true) rfl ?_
          refine TL.done ?_
          exact TC.nrm () () ⟨(by rw [c5]; rfl), rfl, rfl, rfl, rfl, rfl, rfl, rfl, rfl, rfl, rfl, rfl, rfl, rfl, rfl, rfl, rfl, rfl, rfl, rfl, rfl, rfl, rfl, rfl, rfl, rfl, rfl, rfl, rfl, rfl, rfl, rfl, rfl, rfl, rfl, rfl, rfl, rfl, rfl, rfl, rfl, rfl, rfl, rfl, (by rw [c5]; rfl), trivial⟩ [0, 0, 0, 0, 0, 0, 0, 0] (by kernel_rfl)
        · refine TL.move rfl rfl (v := .int .i64 r_18) rfl ?_
          refine TL.move rfl rfl (v := .int .i64 r_10) rfl ?_
          refine TL.bin .i64 r_18 r_10 rfl rfl rfl rfl (v := .bool (r_18 != r_10)) rfl ?_
          refine TL.pick rfl rfl (b := false) rfl (r := .bool (r_18 != r_10)) rfl ?_
          refine TL.done ?_
          exact TC.nrm () () ⟨(by rw [c6]; rfl), rfl, rfl, rfl, rfl, rfl, rfl, rfl, rfl, rfl, rfl, rfl, rfl, rfl, rfl, rfl, rfl, rfl, rfl, rfl, rfl, rfl, rfl, rfl, rfl, rfl, rfl, rfl, rfl, rfl, rfl, rfl, rfl, rfl, rfl, rfl, rfl, rfl, rfl, rfl, rfl, rfl, rfl, rfl, (by rw [c6]; rfl), trivial⟩ [0, 0, 0, 0, 0, 0, 0, 0] (by kernel_rfl)
      · refine TL.done ?_
        refine TC.cond (b := ((!r_19) || (r_18 != r_10))) rfl (fun c7 => ?_) (fun c8 => ?_)
        · refine TC.seq ?_
          refine TC.region ?_
          refine TL.assign rfl rfl (v := .bool false) rfl ?_
          refine TL.done ?_
          exact TC.retF (Fin.body (fin1 (.inr rfl) rfl (.tmp rfl) [] rfl ⟨rfl, rfl⟩))
        · refine TC.skip ?_
          refine TC.seq ?_
          refine TC.seq ?_
          refine TC.wk (Γ' := [(1, SV.v s2), (2, bp b_1 0), (6, SV.v s5), (7, .int .i64 r_10), (8, bp b_2 0), (9, SV.v s7), (10, SV.v s8), (11, .int .i64 r_18)]) ⟨rfl, rfl, rfl, rfl, rfl, rfl, rfl, rfl, trivial⟩ ?_
          refine TC.bindE ?_
          rintro ⟨r_20, r_21, r_22, r_23, r_24⟩ hr1
          refine TC.bindE ?_
          rintro r_25 hr2
          refine TC.drawG [(1, SV.v s2), (2, bp b_1 0), (6, SV.v s5), (7, .int .i64 r_10), (8, bp b_2 0), (9, SV.v s7), (10, SV.v s8), (11, .int .i64 r_18)] [] ⟨rfl, rfl, rfl, rfl, rfl, rfl, rfl, rfl, trivial⟩ trivial (fun l_ g1 => [row Ei 2 s8 r_17, row (Evec 6) 58 s7 r_16, box b_2 24 [.one (.int .i64 r_11), .one (.int .i64 r_12), .one (.int .i64 r_13), .one (.int .i64 r_14), .one (SV.v s6)], row Ei 2 s6 r_15, row Ei 2 s5 r_9, row (Evec 6) 58 s4 r_8, row Ei 2 s3 r_7, box b_1 32 [.one (.int .i64 x1), .one (.int .i64 x2), .one (.int .i64 x3), .one (.int .i64 x4), .one (SV.v s1)], (bif nb l_ 2 then row Ei 2 (gs (g1 16)) r_24 else emp)]) (fun g1 => [sval [.one (.int .i64 r_11), .one (.int .i64 r_12), .one (.int .i64 r_13), .one (.int .i64 r_14), .one (SV.v s6)], sval [.one (.int .i64 x1), .one (.int .i64 x2), .one (.int .i64 x3), .one (.int .i64 x4), .one (SV.v s1)], sval [.one (.int .i64 r_20), .one (.int .i64 r_21), .one (.int .i64 r_22), .one (.int .i64 r_23), .one (SV.v (gs (g1 16)))], .bool r_25, .bool (!r_25)]) [[], [], [1], [0, 1, 2], [0, 1, 2, 3]] [[some false, none, none, some false, some false], [none, some false, some false, some false, some false], [none, some true, some false, some false, some false], [some true, some true, some true, some false, some false], [some true, some true, some true, some true, some false]] (by kernel_rfl) (fun _ => rfl) rfl rfl rfl rfl rfl (fun _ _ => ⟨⟨⟨⟨⟨trivial, rfl⟩, rfl⟩, rfl⟩, rfl⟩, rfl⟩) 1 [1, 1, 1, 1, 1, 1, 1, 1, 0] (fun _ => by kernel_rfl) ?_ ?_
          · refine ⟨rfl, ?_, rfl, ?_, rfl, ?_, rfl, ?_, rfl, ?_, trivial⟩
            · intro b1_ b2_ g1
              refine TL.asL [row Ei 2 s8 r_17, row (Evec 6) 58 s7 r_16, box b_2 24 [.one (.int .i64 r_11), .one (.int .i64 r_12), .one (.int .i64 r_13), .one (.int .i64 r_14), .one (SV.v s6)], row Ei 2 s6 r_15, row Ei 2 s5 r_9, row (Evec 6) 58 s4 r_8, row Ei 2 s3 r_7, box b_1 32 [.one (.int .i64 x1), .one (.int .i64 x2), .one (.int .i64 x3), .one (.int .i64 x4), .one (SV.v s1)], (bif b2_ then row Ei 2 (gs (g1 16)) r_24 else emp)] (by kernel_rfl) ?_
              refine TL.loadM 0 5 (Src.box 2 rfl) Try.isAgg24 Try.sizeOf24 (mid := [.one (.int .i64 r_11), .one (.int .i64 r_12), .one (.int .i64 r_13), .one (.int .i64 r_14), .one (SV.v s6)]) rfl rfl rfl rfl rfl rfl ?_
              refine TL.done ?_
              exact TC.nrm () [] ⟨rfl, trivial⟩ [0, 0, 0, 0, 0, 0, 0, 0, 0] (by kernel_rfl)
            · intro b0_ g1
              refine TL.asL [row Ei 2 s8 r_17, row (Evec 6) 58 s7 r_16, box b_2 24 [.one (.int .i64 r_11), .one (.int .i64 r_12), .one (.int .i64 r_13), .one (.int .i64 r_14), .one (SV.v s6)], row Ei 2 s6 r_15, row Ei 2 s5 r_9, row (Evec 6) 58 s4 r_8, row Ei 2 s3 r_7, box b_1 32 [.one (.int .i64 x1), .one (.int .i64 x2), .one (.int .i64 x3), .one (.int .i64 x4), .one (SV.v s1)], emp] (by kernel_rfl) ?_
              refine TL.loadM 0 5 (Src.box 7 rfl) Try.isAgg32 Try.sizeOf32 (mid := [.one (.int .i64 x1), .one (.int .i64 x2), .one (.int .i64 x3), .one (.int .i64 x4), .one (SV.v s1)]) rfl rfl rfl rfl rfl rfl ?_
              refine TL.done ?_
              exact TC.nrm () [] ⟨rfl, trivial⟩ [0, 0, 0, 0, 0, 0, 0, 0, 0] (by kernel_rfl)
            · intro b0_ g1
              refine TL.asL [row Ei 2 s8 r_17, row (Evec 6) 58 s7 r_16, box b_2 24 [.one (.int .i64 r_11), .one (.int .i64 r_12), .one (.int .i64 r_13), .one (.int .i64 r_14), .one (SV.v s6)], row Ei 2 s6 r_15, row Ei 2 s5 r_9, row (Evec 6) 58 s4 r_8, row Ei 2 s3 r_7, box b_1 32 [.one (.int .i64 x1), .one (.int .i64 x2), .one (.int .i64 x3), .one (.int .i64 x4), .one (SV.v s1)], emp] (by kernel_rfl) ?_
              refine TL.callH (R := G.laws_toTensor.R) hr1 Try.call21 rfl rfl rfl (fun w hS => G.laws_toTensor.calls w x1 x2 x3 x4 s1 x5 ((Rd.old h1) w hS)) ?_
              rintro _ _ ⟨s9, rfl, rfl⟩
              refine TL.done ?_
              exact TC.nrm () [[s9]] ⟨rfl, trivial⟩ [1, 1, 1, 1, 1, 1, 1, 1, 0] (by kernel_rfl)
            · intro g1
              refine TL.asL [row Ei 2 s8 r_17, row (Evec 6) 58 s7 r_16, box b_2 24 [.one (.int .i64 r_11), .one (.int .i64 r_12), .one (.int .i64 r_13), .one (.int .i64 r_14), .one (SV.v s6)], row Ei 2 s6 r_15, row Ei 2 s5 r_9, row (Evec 6) 58 s4 r_8, row Ei 2 s3 r_7, box b_1 32 [.one (.int .i64 x1), .one (.int .i64 x2), .one (.int .i64 x3), .one (.int .i64 x4), .one (SV.v s1)], row Ei 2 (gs (g1 16)) r_24] (by kernel_rfl) ?_
              refine TL.callH (R := G.laws_eqTensor.R) hr2 Try.call14 rfl rfl rfl (fun w hS => G.laws_eqTensor.calls w r_11 r_12 r_13 r_14 s6 r_15 r_20 r_21 r_22 r_23 (gs (g1 16)) r_24 ((Rd.row 3 rfl) w hS) ((Rd.row 8 rfl) w hS)) ?_
              rintro _ _ ⟨rfl, rfl⟩
              refine TL.done ?_
              exact TC.nrm () [] ⟨rfl, trivial⟩ [0, 0, 0, 0, 0, 0, 0, 0, 0] (by kernel_rfl)
            · intro g1
              refine TL.not r_25 rfl rfl rfl ?_
              refine TL.done ?_
              exact TC.nrm () [] ⟨rfl, trivial⟩ [0, 0, 0, 0, 0, 0, 0, 0, 0] (by kernel_rfl)
          · intro g1
            refine TC.asL [row Ei 2 s8 r_17, row (Evec 6) 58 s7 r_16, box b_2 24 [.one (.int .i64 r_11), .one (.int .i64 r_12), .one (.int .i64 r_13), .one (.int .i64 r_14), .one (SV.v s6)], row Ei 2 s6 r_15, row Ei 2 s5 r_9, row (Evec 6) 58 s4 r_8, row Ei 2 s3 r_7, box b_1 32 [.one (.int .i64 x1), .one (.int .i64 x2), .one (.int .i64 x3), .one (.int .i64 x4), .one (SV.v s1)], row Ei 2 (gs (g1 16)) r_24] (by kernel_rfl) ?_
            refine TC.cond (b := (!r_25)) rfl (fun c9 => ?_) (fun c10 => ?_)
            · refine TC.seq ?_
              refine TC.region ?_
              refine TL.assign rfl rfl (v := .bool false) rfl ?_
              refine TL.done ?_
              exact TC.retF (Fin.body (fin1 (.inr rfl) rfl (.tmp rfl) [] rfl ⟨rfl, rfl⟩))
            · refine TC.skip ?_
              refine TC.seq ?_
              refine TC.seq ?_
              refine TC.region ?_
              refine TL.move rfl rfl (v := SV.v s7) rfl ?_
              refine TL.move rfl rfl (v := SV.v s2) rfl ?_
              refine TL.call (R := G.laws_toVectorS.R) Try.call31 rfl rfl rfl (fun w hS => G.laws_toVectorS.calls w s2 x6 ((Rd.old h2) w hS)) ?_
              rintro r_26 _ _ ⟨s10, rfl, rfl⟩
              refine TL.call (R := G.laws_eqVectorS.R) Try.call34 rfl rfl rfl (fun w hS => G.laws_eqVectorS.calls w s7 r_16 s10 r_26 ((Rd.row 2 rfl) w hS) ((Rd.row 0 rfl) w hS)) ?_
              rintro r_27 _ _ ⟨rfl, rfl⟩
              refine TL.not r_27 rfl rfl rfl ?_
              refine TL.done ?_
              refine TC.cond (b := (!r_27)) rfl (fun c11 => ?_) (fun c12 => ?_)
              · refine TC.seq ?_
                refine TC.region ?_
                refine TL.assign rfl rfl (v := .bool false) rfl ?_
                refine TL.done ?_
                exact TC.retF (Fin.body (fin1 (.inr rfl) rfl (.tmp rfl) [] rfl ⟨rfl, rfl⟩))
              · refine TC.skip ?_
                refine TC.seq ?_
                refine TC.region ?_
                refine TL.assign rfl rfl (v := .int .i64 1) rfl ?_
                refine TL.done ?_
                refine TC.seq ?_
                refine TC.region ?_
                refine TL.loadM 0 5 (Src.box 3 rfl) Try.isAgg24 Try.sizeOf24 (mid := [.one (.int .i64 r_11), .one (.int .i64 r_12), .one (.int .i64 r_13), .one (.int .i64 r_14), .one (SV.v s6)]) rfl rfl rfl rfl rfl rfl ?_
                refine TL.move rfl rfl (v := .int .i64 1) rfl ?_
                refine TL.callX (R := G.laws_markTensor.R s6) [4, 0, 0, 0, 0, 0, 0, 0, 0, 0] [row Ei 2 s6 r_15] [row (Evec 6) 58 s10 r_26, row Ei 2 s8 r_17, row (Evec 6) 58 s7 r_16, box b_2 24 [.one (.int .i64 r_11), .one (.int .i64 r_12), .one (.int .i64 r_13), .one (.int .i64 r_14), .one (SV.v s6)], row Ei 2 s5 r_9, row (Evec 6) 58 s4 r_8, row Ei 2 s3 r_7, box b_1 32 [.one (.int .i64 x1), .one (.int .i64 x2), .one (.int .i64 x3), .one (.int .i64 x4), .one (SV.v s1)], row Ei 2 (gs (g1 16)) r_24] rfl Try.call15 rfl rfl rfl (fun w I_ hle hB hS => G.laws_markTensor.calls _ I_ w r_11 r_12 r_13 r_14 s6 r_15 1 hS) ?_
                rintro ⟨r_28, l1⟩ _ _ ⟨rfl, rfl⟩
                refine TL.assign rfl rfl (v := .int .i64 r_28) rfl ?_
                refine TL.done ?_
                refine TC.seq ?_
                refine TC.region ?_
                refine TL.move rfl rfl (v := SV.v s7) rfl ?_
                refine TL.move rfl rfl (v := .int .i64 r_28) rfl ?_
                refine TL.callX (R := G.laws_markVectorS.R s7) [3, 0, 0, 0, 0, 0, 0, 0, 0, 0] [row (Evec 6) 58 s7 r_16] [row Ei 2 s6 l1, row (Evec 6) 58 s10 r_26, row Ei 2 s8 r_17, box b_2 24 [.one (.int .i64 r_11), .one (.int .i64 r_12), .one (.int .i64 r_13), .one (.int .i64 r_14), .one (SV.v s6)], row Ei 2 s5 r_9, row (Evec 6) 58 s4 r_8, row Ei 2 s3 r_7, box b_1 32 [.one (.int .i64 x1), .one (.int .i64 x2), .one (.int .i64 x3), .one (.int .i64 x4), .one (SV.v s1)], row Ei 2 (gs (g1 16)) r_24] rfl Try.call35 rfl rfl rfl (fun w I_ hle hB hS => G.laws_markVectorS.calls _ I_ w s7 r_16 r_28 hS) ?_
                rintro ⟨r_29, l2⟩ _ _ ⟨rfl, rfl⟩
                refine TL.assign rfl rfl (v := .int .i64 r_29) rfl ?_
                refine TL.done ?_
                refine TC.seq ?_
                refine TC.seq ?_
                refine TC.region ?_
                refine TL.move rfl rfl (v := .int .i64 r_29) rfl ?_
                refine TL.bin .i64 r_29 0 rfl rfl rfl rfl (v := .bool (decide (r_29 < 0))) rfl ?_
                refine TL.move rfl rfl (v := .bool (decide (r_29 < 0))) rfl ?_
                refine TL.cutJ (σ := Bool) (γ := Unit) (Γ' := fun b_3 _ => [(77, .bool b_3), (1, SV.v s2), (2, bp b_1 0), (6, SV.v s5), (7, .int .i64 r_10), (8, bp b_2 0), (9, SV.v s7), (10, SV.v s8), (11, .int .i64 r_18), (54, sval [.one (.int .i64 r_11), .one (.int .i64 r_12), .one (.int .i64 r_13), .one (.int .i64 r_14), .one (SV.v s6)]), (55, sval [.one (.int .i64 x1), .one (.int .i64 x2), .one (.int .i64 x3), .one (.int .i64 x4), .one (SV.v s1)]), (56, sval [.one (.int .i64 r_20), .one (.int .i64 r_21), .one (.int .i64 r_22), .one (.int .i64 r_23), .one (SV.v (gs (g1 16)))]), (57, .bool r_25), (58, .bool (!r_25)), (59, SV.v s7), (60, SV.v s2), (61, SV.v s10), (62, .bool r_27), (63, .bool (!r_27)), (12, .int .i64 r_29), (64, sval [.one (.int .i64 r_11), .one (.int .i64 r_12), .one (.int .i64 r_13), .one (.int .i64 r_14), .one (SV.v s6)]), (65, .int .i64 1), (66, .int .i64 r_28), (67, SV.v s7), (68, .int .i64 r_28), (69, .int .i64 r_29), (70, .int .i64 r_29), (71, .bool (decide (r_29 < 0))), (72, .bool (decide (r_29 < 0)))]) (L' := fun _ _ => [row (Evec 6) 58 s7 l2, row Ei 2 s6 l1, row (Evec 6) 58 s10 r_26, row Ei 2 s8 r_17, box b_2 24 [.one (.int .i64 r_11), .one (.int .i64 r_12), .one (.int .i64 r_13), .one (.int .i64 r_14), .one (SV.v s6)], row Ei 2 s5 r_9, row (Evec 6) 58 s4 r_8, row Ei 2 s3 r_7, box b_1 32 [.one (.int .i64 x1), .one (.int .i64 x2), .one (.int .i64 x3), .one (.int .i64 x4), .one (SV.v s1)], row Ei 2 (gs (g1 16)) r_24]) 5 ?_ ?_
                · refine TL.ifb (t := 72) (b := (decide (r_29 < 0))) rfl (fun c13 => ?_) (fun c14 => ?_)
                  · refine TL.skip rfl rfl (by decide) ?_
                    refine TL.skip rfl rfl (by decide) ?_
                    refine TL.skip rfl rfl (by decide) ?_
                    refine TL.skip rfl rfl (by decide) ?_
                    refine TL.pick rfl rfl (b := true) rfl (r := .bool true) rfl ?_
                    refine TL.done ?_
                    exact TC.nrm (true) () ⟨rfl, rfl, rfl, rfl, rfl, rfl, rfl, rfl, rfl, rfl, rfl, rfl, rfl, rfl, rfl, rfl, rfl, rfl, rfl, rfl, rfl, rfl, rfl, rfl, rfl, rfl, rfl, rfl, (by rw [c13]; rfl), trivial⟩ [0, 0, 0, 0, 0, 0, 0, 0, 0, 0] (by kernel_rfl)
                  · refine TL.move rfl rfl (v := SV.v s8) rfl ?_
                    refine TL.move rfl rfl (v := SV.v s5) rfl ?_
                    refine TL.call (R := G.laws_eqInt64S.R) Try.call33 rfl rfl rfl (fun w hS => G.laws_eqInt64S.calls w s8 r_17 s5 r_9 ((Rd.row 3 rfl) w hS) ((Rd.row 5 rfl) w hS)) ?_
                    rintro r_30 _ _ ⟨rfl, rfl⟩
                    refine TL.not r_30 rfl rfl rfl ?_
                    refine TL.pick rfl rfl (b := false) rfl (r := .bool (!r_30)) rfl ?_
                    refine TL.done ?_
                    exact TC.nrm ((!r_30)) () ⟨rfl, rfl, rfl, rfl, rfl, rfl, rfl, rfl, rfl, rfl, rfl, rfl, rfl, rfl, rfl, rfl, rfl, rfl, rfl, rfl, rfl, rfl, rfl, rfl, rfl, rfl, rfl, rfl, (by rw [c14]; rfl), trivial⟩ [0, 0, 0, 0, 0, 0, 0, 0, 0, 0] (by kernel_rfl)
                · rintro b_3 _
                  refine TL.move rfl rfl (v := .bool b_3) rfl ?_
                  refine TL.cutU 4 [(82, .bool (b_3 || (r_18 != r_10))), (1, SV.v s2), (2, bp b_1 0), (6, SV.v s5), (7, .int .i64 r_10), (8, bp b_2 0), (9, SV.v s7), (10, SV.v s8), (11, .int .i64 r_18), (54, sval [.one (.int .i64 r_11), .one (.int .i64 r_12), .one (.int .i64 r_13), .one (.int .i64 r_14), .one (SV.v s6)]), (55, sval [.one (.int .i64 x1), .one (.int .i64 x2), .one (.int .i64 x3), .one (.int .i64 x4), .one (SV.v s1)]), (56, sval [.one (.int .i64 r_20), .one (.int .i64 r_21), .one (.int .i64 r_22), .one (.int .i64 r_23), .one (SV.v (gs (g1 16)))]), (57, .bool r_25), (58, .bool (!r_25)), (59, SV.v s7), (60, SV.v s2), (61, SV.v s10), (62, .bool r_27), (63, .bool (!r_27)), (12, .int .i64 r_29), (64, sval [.one (.int .i64 r_11), .one (.int .i64 r_12), .one (.int .i64 r_13), .one (.int .i64 r_14), .one (SV.v s6)]), (65, .int .i64 1), (66, .int .i64 r_28), (67, SV.v s7), (68, .int .i64 r_28), (69, .int .i64 r_29), (70, .int .i64 r_29), (71, .bool (decide (r_29 < 0))), (72, .bool (decide (r_29 < 0))), (77, .bool b_3), (78, .bool b_3)] [row (Evec 6) 58 s7 l2, row Ei 2 s6 l1, row (Evec 6) 58 s10 r_26, row Ei 2 s8 r_17, box b_2 24 [.one (.int .i64 r_11), .one (.int .i64 r_12), .one (.int .i64 r_13), .one (.int .i64 r_14), .one (SV.v s6)], row Ei 2 s5 r_9, row (Evec 6) 58 s4 r_8, row Ei 2 s3 r_7, box b_1 32 [.one (.int .i64 x1), .one (.int .i64 x2), .one (.int .i64 x3), .one (.int .i64 x4), .one (SV.v s1)], row Ei 2 (gs (g1 16)) r_24] ?_ ?_
                  · refine TL.cases (t := 78) (b := b_3) rfl (fun c15 => ?_) (fun c16 => ?_)
                    · refine TL.skip rfl rfl (by decide) ?_
                      refine TL.skip rfl rfl (by decide) ?_
                      refine TL.skip rfl rfl (by decide) ?_
                      refine TL.pick rfl rfl (b := true) rfl (r := .bool true) rfl ?_
                      refine TL.done ?_
                      exact TC.nrm () () ⟨(by rw [c15]; rfl), rfl, rfl, rfl, rfl, rfl, rfl, rfl, rfl, rfl, rfl, rfl, rfl, rfl, rfl, rfl, rfl, rfl, rfl, rfl, rfl, rfl, rfl, rfl, rfl, rfl, rfl, rfl, rfl, rfl, (by rw [c15]; rfl), trivial⟩ [0, 0, 0, 0, 0, 0, 0, 0, 0, 0] (by kernel_rfl)
                    · refine TL.move rfl rfl (v := .int .i64 r_18) rfl ?_
                      refine TL.move rfl rfl (v := .int .i64 r_10) rfl ?_
                      refine TL.bin .i64 r_18 r_10 rfl rfl rfl rfl (v := .bool (r_18 != r_10)) rfl ?_
                      refine TL.pick rfl rfl (b := false) rfl (r := .bool (r_18 != r_10)) rfl ?_
                      refine TL.done ?_
                      exact TC.nrm () () ⟨(by rw [c16]; rfl), rfl, rfl, rfl, rfl, rfl, rfl, rfl, rfl, rfl, rfl, rfl, rfl, rfl, rfl, rfl, rfl, rfl, rfl, rfl, rfl, rfl, rfl, rfl, rfl, rfl, rfl, rfl, rfl, rfl, (by rw [c16]; rfl), trivial⟩ [0, 0, 0, 0, 0, 0, 0, 0, 0, 0] (by kernel_rfl)
                  · refine TL.done ?_
                    refine TC.cond (b := (b_3 || (r_18 != r_10))) rfl (fun c17 => ?_) (fun c18 => ?_)
                    · refine TC.seq ?_
                      refine TC.region ?_
                      refine TL.assign rfl rfl (v := .bool false) rfl ?_
                      refine TL.done ?_
                      exact TC.retF (Fin.body (fin1 (.inr rfl) rfl (.tmp rfl) [] rfl ⟨rfl, rfl⟩))
                    · refine TC.skip ?_
                      refine TC.seq ?_
                      refine TC.region ?_
                      refine TL.assign rfl rfl (v := .int .i64 1) rfl ?_
                      refine TL.done ?_
                      refine TC.seq ?_
                      refine TC.region ?_
                      refine TL.move rfl rfl (v := SV.v s8) rfl ?_
                      refine TL.move rfl rfl (v := .int .i64 1) rfl ?_
                      refine TL.callX (R := G.laws_markInt64S.R s8) [3, 0, 0, 0, 0, 0, 0, 0, 0, 0] [row Ei 2 s8 r_17] [row (Evec 6) 58 s7 l2, row Ei 2 s6 l1, row (Evec 6) 58 s10 r_26, box b_2 24 [.one (.int .i64 r_11), .one (.int .i64 r_12), .one (.int .i64 r_13), .one (.int .i64 r_14), .one (SV.v s6)], row Ei 2 s5 r_9, row (Evec 6) 58 s4 r_8, row Ei 2 s3 r_7, box b_1 32 [.one (.int .i64 x1), .one (.int .i64 x2), .one (.int .i64 x3), .one (.int .i64 x4), .one (SV.v s1)], row Ei 2 (gs (g1 16)) r_24] rfl Try.call36 rfl rfl rfl (fun w I_ hle hB hS => G.laws_markInt64S.calls _ I_ w s8 r_17 1 hS) ?_
                      rintro ⟨r_31, l3⟩ _ _ ⟨rfl, rfl⟩
                      refine TL.assign rfl rfl (v := .int .i64 r_31) rfl ?_
                      refine TL.done ?_
                      refine TC.seq ?_
                      refine TC.region ?_
                      refine TL.assign rfl rfl (v := .int .i64 1) rfl ?_
                      refine TL.done ?_
                      refine TC.seq ?_
                      refine TC.region ?_
                      refine TL.move rfl rfl (v := SV.v s8) rfl ?_
                      refine TL.move rfl rfl (v := .int .i64 1) rfl ?_
                      refine TL.call (R := G.laws_heldInt64S.R) Try.call37 rfl rfl rfl (fun w hS => G.laws_heldInt64S.calls w s8 l3 1 ((Rd.row 0 rfl) w hS)) ?_
                      rintro r_32 _ _ ⟨rfl, rfl⟩
                      refine TL.assign rfl rfl (v := .int .i64 r_32) rfl ?_
                      refine TL.done ?_
                      refine TC.seq ?_
                      refine TC.seq ?_
                      refine TC.region ?_
                      refine TL.move rfl rfl (v := .int .i64 r_32) rfl ?_
                      refine TL.bin .i64 r_32 0 rfl rfl rfl rfl (v := .bool (decide (r_32 < 0))) rfl ?_
                      refine TL.done ?_
                      refine TC.cond (b := (decide (r_32 < 0))) rfl (fun c19 => ?_) (fun c20 => ?_)
                      · refine TC.seq ?_
                        refine TC.region ?_
                        refine TL.assign rfl rfl (v := .bool false) rfl ?_
                        refine TL.done ?_
                        exact TC.retF (Fin.body (fin1 (.inr rfl) rfl (.tmp rfl) [] rfl ⟨rfl, rfl⟩))
                      · refine TC.skip ?_
                        refine TC.seq ?_
                        refine TC.seq ?_
                        refine TC.region ?_
                        refine TL.move rfl rfl (v := .int .i64 r_32) rfl ?_
                        refine TL.move rfl rfl (v := .int .i64 r_31) rfl ?_
                        refine TL.bin .i64 r_32 r_31 rfl rfl rfl rfl (v := .bool (r_32 != r_31)) rfl ?_
                        refine TL.done ?_
                        refine TC.cond (b := (r_32 != r_31)) rfl (fun c21 => ?_) (fun c22 => ?_)
                        · refine TC.seq ?_
                          refine TC.region ?_
                          refine TL.assign rfl rfl (v := .bool false) rfl ?_
                          refine TL.done ?_
                          exact TC.retF (Fin.body (fin1 (.inr rfl) rfl (.tmp rfl) [] rfl ⟨rfl, rfl⟩))
                        · refine TC.skip ?_
                          refine TC.seq ?_
                          refine TC.region ?_
                          refine TL.loadM 0 5 (Src.box 8 rfl) Try.isAgg32 Try.sizeOf32 (mid := [.one (.int .i64 x1), .one (.int .i64 x2), .one (.int .i64 x3), .one (.int .i64 x4), .one (SV.v s1)]) rfl rfl rfl rfl rfl rfl ?_
                          refine TL.call (R := G.laws_toTensor.R) Try.call21 rfl rfl rfl (fun w hS => G.laws_toTensor.calls w x1 x2 x3 x4 s1 x5 ((Rd.old h1) w hS)) ?_
                          rintro ⟨r_33, r_34, r_35, r_36, r_37⟩ _ _ ⟨s11, rfl, rfl⟩
                          refine TL.move rfl rfl (v := SV.v s2) rfl ?_
                          refine TL.call (R := G.laws_toVectorS.R) Try.call31 rfl rfl rfl (fun w hS => G.laws_toVectorS.calls w s2 x6 ((Rd.old h2) w hS)) ?_
                          rintro r_38 _ _ ⟨s12, rfl, rfl⟩
                          refine TL.call (R := G.impl_ValueAt.R) Try.call32 rfl rfl rfl (fun w hS => G.impl_ValueAt.calls w r_33 r_34 r_35 r_36 s11 r_37 s12 r_38 ((Rd.row 1 rfl) w hS) ((Rd.row 0 rfl) w hS)) ?_
                          rintro ⟨r_39, r_40⟩ _ _ ⟨s13, rfl, rfl⟩
                          refine TL.move rfl rfl (v := .tuple #[SV.v s13, .int .i64 r_40]) rfl ?_
                          refine TL.extract rfl rfl rfl (v := SV.v s13) rfl ?_
                          refine TL.extract rfl rfl rfl (v := .int .i64 r_40) rfl ?_
                          refine TL.assign rfl rfl (v := SV.v s13) rfl ?_
                          refine TL.assign rfl rfl (v := .int .i64 r_40) rfl ?_
                          refine TL.done ?_
                          refine TC.seq ?_
                          refine TC.seq ?_
                          refine TC.region ?_
                          refine TL.move rfl rfl (v := SV.v s13) rfl ?_
                          refine TL.move rfl rfl (v := SV.v s5) rfl ?_
                          refine TL.call (R := G.laws_eqInt64S.R) Try.call33 rfl rfl rfl (fun w hS => G.laws_eqInt64S.calls w s13 r_39 s5 r_9 ((Rd.row 0 rfl) w hS) ((Rd.row 8 rfl) w hS)) ?_
                          rintro r_41 _ _ ⟨rfl, rfl⟩
                          refine TL.not r_41 rfl rfl rfl ?_
                          refine TL.move rfl rfl (v := .bool (!r_41)) rfl ?_
                          refine TL.cutU 4 [(110, .bool ((!r_41) || (r_40 != r_10))), (1, SV.v s2), (2, bp b_1 0), (6, SV.v s5), (7, .int .i64 r_10), (8, bp b_2 0), (9, SV.v s7), (10, SV.v s8), (11, .int .i64 r_18), (54, sval [.one (.int .i64 r_11), .one (.int .i64 r_12), .one (.int .i64 r_13), .one (.int .i64 r_14), .one (SV.v s6)]), (55, sval [.one (.int .i64 x1), .one (.int .i64 x2), .one (.int .i64 x3), .one (.int .i64 x4), .one (SV.v s1)]), (56, sval [.one (.int .i64 r_20), .one (.int .i64 r_21), .one (.int .i64 r_22), .one (.int .i64 r_23), .one (SV.v (gs (g1 16)))]), (57, .bool r_25), (58, .bool (!r_25)), (59, SV.v s7), (60, SV.v s2), (61, SV.v s10), (62, .bool r_27), (63, .bool (!r_27)), (12, .int .i64 r_29), (64, sval [.one (.int .i64 r_11), .one (.int .i64 r_12), .one (.int .i64 r_13), .one (.int .i64 r_14), .one (SV.v s6)]), (65, .int .i64 1), (66, .int .i64 r_28), (67, SV.v s7), (68, .int .i64 r_28), (69, .int .i64 r_29), (70, .int .i64 r_29), (71, .bool (decide (r_29 < 0))), (72, .bool (decide (r_29 < 0))), (77, .bool b_3), (78, .bool b_3), (82, .bool (b_3 || (r_18 != r_10))), (13, .int .i64 r_31), (83, SV.v s8), (84, .int .i64 1), (85, .int .i64 r_31), (14, .int .i64 r_32), (86, SV.v s8), (87, .int .i64 1), (88, .int .i64 r_32), (89, .int .i64 r_32), (90, .bool (decide (r_32 < 0))), (91, .int .i64 r_32), (92, .int .i64 r_31), (93, .bool (r_32 != r_31)), (95, sval [.one (.int .i64 x1), .one (.int .i64 x2), .one (.int .i64 x3), .one (.int .i64 x4), .one (SV.v s1)]), (96, sval [.one (.int .i64 r_33), .one (.int .i64 r_34), .one (.int .i64 r_35), .one (.int .i64 r_36), .one (SV.v s11)]), (97, SV.v s2), (98, SV.v s12), (99, .tuple #[SV.v s13, .int .i64 r_40]), (94, .tuple #[SV.v s13, .int .i64 r_40]), (100, SV.v s13), (101, .int .i64 r_40), (15, SV.v s13), (16, .int .i64 r_40), (102, SV.v s13), (103, SV.v s5), (104, .bool r_41), (105, .bool (!r_41)), (106, .bool (!r_41))] [row Ei 2 s13 r_39, row (Evec 6) 58 s12 r_38, row Ei 2 s11 r_37, row Ei 2 s8 l3, row (Evec 6) 58 s7 l2, row Ei 2 s6 l1, row (Evec 6) 58 s10 r_26, box b_2 24 [.one (.int .i64 r_11), .one (.int .i64 r_12), .one (.int .i64 r_13), .one (.int .i64 r_14), .one (SV.v s6)], row Ei 2 s5 r_9, row (Evec 6) 58 s4 r_8, row Ei 2 s3 r_7, box b_1 32 [.one (.int .i64 x1), .one (.int .i64 x2), .one (.int .i64 x3), .one (.int .i64 x4), .one (SV.v s1)], row Ei 2 (gs (g1 16)) r_24] ?_ ?_
                          · refine TL.cases (t := 106) (b := (!r_41)) rfl (fun c23 => ?_) (fun c24 => ?_)
                            · refine TL.skip rfl rfl (by decide) ?_
                              refine TL.skip rfl rfl (by decide) ?_
                              refine TL.skip rfl rfl (by decide) ?_
                              refine TL.pick rfl rfl (b := true) rfl (r := .bool true) rfl ?_
                              refine TL.done ?_
                              exact TC.nrm () () ⟨(by rw [c23]; rfl), rfl, rfl, rfl, rfl, rfl, rfl, rfl, rfl, rfl, rfl, rfl, rfl, rfl, rfl, rfl, rfl, rfl, rfl, rfl, rfl, rfl, rfl, rfl, rfl, rfl, rfl, rfl, rfl, rfl, rfl, rfl, rfl, rfl, rfl, rfl, rfl, rfl, rfl, rfl, rfl, rfl, rfl, rfl, rfl, rfl, rfl, rfl, rfl, rfl, rfl, rfl, rfl, rfl, rfl, rfl, rfl, rfl, rfl, (by rw [c23]; rfl), trivial⟩ [0, 0, 0, 0, 0, 0, 0, 0, 0, 0, 0, 0, 0] (by kernel_rfl)
                            · refine TL.move rfl rfl (v := .int .i64 r_40) rfl ?_
                              refine TL.move rfl rfl (v := .int .i64 r_10) rfl ?_
                              refine TL.bin .i64 r_40 r_10 rfl rfl rfl rfl (v := .bool (r_40 != r_10)) rfl ?_
                              refine TL.pick rfl rfl (b := false) rfl (r := .bool (r_40 != r_10)) rfl ?_
                              refine TL.done ?_
                              exact TC.nrm () () ⟨(by rw [c24]; rfl), rfl, rfl, rfl, rfl, rfl, rfl, rfl, rfl, rfl, rfl, rfl, rfl, rfl, rfl, rfl, rfl, rfl, rfl, rfl, rfl, rfl, rfl, rfl, rfl, rfl, rfl, rfl, rfl, rfl, rfl, rfl, rfl, rfl, rfl, rfl, rfl, rfl, rfl, rfl, rfl, rfl, rfl, rfl, rfl, rfl, rfl, rfl, rfl, rfl, rfl, rfl, rfl, rfl, rfl, rfl, rfl, rfl, rfl, (by rw [c24]; rfl), trivial⟩ [0, 0, 0, 0, 0, 0, 0, 0, 0, 0, 0, 0, 0] (by kernel_rfl)
                          · refine TL.done ?_
                            refine TC.cond (b := ((!r_41) || (r_40 != r_10))) rfl (fun c25 => ?_) (fun c26 => ?_)
                            · refine TC.seq ?_
                              refine TC.region ?_
                              refine TL.assign rfl rfl (v := .bool false) rfl ?_
                              refine TL.done ?_
                              exact TC.retF (Fin.body (fin1 (.inr rfl) rfl (.tmp rfl) [] rfl ⟨rfl, rfl⟩))
                            · refine TC.skip ?_
                              refine TC.seq ?_
                              refine TC.region ?_
                              refine TL.assign rfl rfl (v := .int .i64 1) rfl ?_
                              refine TL.done ?_
                              refine TC.seq ?_
                              refine TC.region ?_
                              refine TL.move rfl rfl (v := SV.v s8) rfl ?_
                              refine TL.move rfl rfl (v := .int .i64 1) rfl ?_
                              refine TL.call (R := G.laws_heldInt64S.R) Try.call37 rfl rfl rfl (fun w hS => G.laws_heldInt64S.calls w s8 l3 1 ((Rd.row 3 rfl) w hS)) ?_
                              rintro r_42 _ _ ⟨rfl, rfl⟩
                              refine TL.assign rfl rfl (v := .int .i64 r_42) rfl ?_
                              refine TL.done ?_
                              refine TC.seq ?_
                              refine TC.seq ?_
                              refine TC.region ?_
                              refine TL.move rfl rfl (v := .int .i64 r_42) rfl ?_
                              refine TL.bin .i64 r_42 0 rfl rfl rfl rfl (v := .bool (decide (r_42 < 0))) rfl ?_
                              refine TL.done ?_
                              refine TC.cond (b := (decide (r_42 < 0))) rfl (fun c27 => ?_) (fun c28 => ?_)
                              · refine TC.seq ?_
                                refine TC.region ?_
                                refine TL.assign rfl rfl (v := .bool false) rfl ?_
                                refine TL.done ?_
                                exact TC.retF (Fin.body (fin1 (.inr rfl) rfl (.tmp rfl) [] rfl ⟨rfl, rfl⟩))
                              · refine TC.skip ?_
                                refine TC.seq ?_
                                refine TC.seq ?_
                                refine TC.region ?_
                                refine TL.move rfl rfl (v := .int .i64 r_42) rfl ?_
                                refine TL.move rfl rfl (v := .int .i64 r_31) rfl ?_
                                refine TL.bin .i64 r_42 r_31 rfl rfl rfl rfl (v := .bool (r_42 != r_31)) rfl ?_
                                refine TL.done ?_
                                refine TC.cond (b := (r_42 != r_31)) rfl (fun c29 => ?_) (fun c30 => ?_)
                                · refine TC.seq ?_
                                  refine TC.region ?_
                                  refine TL.assign rfl rfl (v := .bool false) rfl ?_
                                  refine TL.done ?_
                                  exact TC.retF (Fin.body (fin1 (.inr rfl) rfl (.tmp rfl) [] rfl ⟨rfl, rfl⟩))
                                · refine TC.skip ?_
                                  refine TC.seq ?_
                                  refine TC.region ?_
                                  refine TL.assign rfl rfl (v := .bool true) rfl ?_
                                  refine TL.done ?_
                                  exact TC.retF (Fin.body (fin1 (.inr rfl) rfl (.tmp rfl) [] rfl ⟨rfl, rfl⟩))

end Go.Proofs.Ytjjfoofjipafiaa.G

/- impl.rest, as a pure function. -/
set_option linter.unusedVariables false
namespace Go.Proofs.Ytjjfoofjipafiaa.G
open Go Go.Sx Go.Proofs

def impl_rest.f (n_1 : Int) (p1 : Int) : Option Int := nz p1 (some (Int.tmod (w64 ((Int.tmod n_1 p1) + p1)) p1))

def impl_rest.R (r : Int) (v : Value) (L : List Asn) : Prop := v = .int .i64 r ∧ L = []

set_option maxRecDepth 100000 in
set_option maxHeartbeats 4000000 in
theorem impl_rest.calls (w : World) (n_1 : Int) (p1 : Int) :
    ∀ r, impl_rest.f n_1 p1 = some r → Calls Try.prog 88 #[.int .i64 n_1, .int .i64 p1] w (Ret w (impl_rest.R r)) := by

  refine calls_T (n := 12) (Γ := [(0, .int .i64 n_1), (1, .int .i64 p1)]) (R := impl_rest.R) Try.func88 rfl rfl (Nat.le_of_ble_eq_true rfl) ⟨rfl, rfl, trivial⟩ ?_
  unfold impl_rest.f
  refine TC.seq ?_
  refine TC.region ?_
  refine TL.assign rfl rfl (v := .int .i64 0) rfl ?_
  refine TL.done ?_
  refine TC.seq ?_
  refine TC.region ?_
  refine TL.move rfl rfl (v := .int .i64 n_1) rfl ?_
  refine TL.move rfl rfl (v := .int .i64 p1) rfl ?_
  refine TL.nz fun z1 => ?_
  refine TL.rem .i64 n_1 p1 z1 rfl rfl rfl rfl ?_
  refine TL.move rfl rfl (v := .int .i64 p1) rfl ?_
  refine TL.bin .i64 (Int.tmod n_1 p1) p1 rfl rfl rfl rfl (v := .int .i64 (w64 ((Int.tmod n_1 p1) + p1))) rfl ?_
  refine TL.move rfl rfl (v := .int .i64 p1) rfl ?_
  refine TL.rem .i64 (w64 ((Int.tmod n_1 p1) + p1)) p1 z1 rfl rfl rfl rfl ?_
  refine TL.assign rfl rfl (v := .int .i64 (Int.tmod (w64 ((Int.tmod n_1 p1) + p1)) p1)) rfl ?_
  refine TL.done ?_
  exact TC.retF (Fin.body (fin1 (.inr rfl) rfl (.tmp rfl) [] rfl ⟨rfl, rfl⟩))

end Go.Proofs.Ytjjfoofjipafiaa.G

/- spec.l01Mod, as a pure function. -/
set_option linter.unusedVariables false
namespace Go.Proofs.Ytjjfoofjipafiaa.G
open Go Go.Sx Go.Proofs

def spec_l01Mod.f (p1 : Int) (x1 : Int) : Option Int := nz p1 (some (Int.tmod (w64 ((Int.tmod x1 p1) + p1)) p1))

def spec_l01Mod.R (r : Int) (v : Value) (L : List Asn) : Prop := v = .int .i64 r ∧ L = []

set_option maxRecDepth 100000 in
set_option maxHeartbeats 4000000 in
theorem spec_l01Mod.calls (w : World) (p1 : Int) (x1 : Int) :
    ∀ r, spec_l01Mod.f p1 x1 = some r → Calls Try.prog 146 #[.int .i64 p1, .int .i64 x1] w (Ret w (spec_l01Mod.R r)) := by

  refine calls_T (n := 12) (Γ := [(0, .int .i64 p1), (1, .int .i64 x1)]) (R := spec_l01Mod.R) Try.func146 rfl rfl (Nat.le_of_ble_eq_true rfl) ⟨rfl, rfl, trivial⟩ ?_
  unfold spec_l01Mod.f
  refine TC.seq ?_
  refine TC.region ?_
  refine TL.assign rfl rfl (v := .int .i64 0) rfl ?_
  refine TL.done ?_
  refine TC.seq ?_
  refine TC.region ?_
  refine TL.move rfl rfl (v := .int .i64 x1) rfl ?_
  refine TL.move rfl rfl (v := .int .i64 p1) rfl ?_
  refine TL.nz fun z1 => ?_
  refine TL.rem .i64 x1 p1 z1 rfl rfl rfl rfl ?_
  refine TL.move rfl rfl (v := .int .i64 p1) rfl ?_
  refine TL.bin .i64 (Int.tmod x1 p1) p1 rfl rfl rfl rfl (v := .int .i64 (w64 ((Int.tmod x1 p1) + p1))) rfl ?_
  refine TL.move rfl rfl (v := .int .i64 p1) rfl ?_
  refine TL.rem .i64 (w64 ((Int.tmod x1 p1) + p1)) p1 z1 rfl rfl rfl rfl ?_
  refine TL.assign rfl rfl (v := .int .i64 (Int.tmod (w64 ((Int.tmod x1 p1) + p1)) p1)) rfl ?_
  refine TL.done ?_
  exact TC.retF (Fin.body (fin1 (.inr rfl) rfl (.tmp rfl) [] rfl ⟨rfl, rfl⟩))

end Go.Proofs.Ytjjfoofjipafiaa.G

/- impl.tensor, as a pure function. -/
set_option linter.unusedVariables false
namespace Go.Proofs.Ytjjfoofjipafiaa.G
open Go Go.Sx Go.Proofs

def impl_tensor.b0 (r_1 : Int) (x2 : Int) (x3 : Int) (x4 : Int) (x5 : (List Int) → (List Int) → Option Int) (x1 : Int) : (List Int) × Int → Option (LB ((List Int) × Int)) := fun p => match p with | (y1, x6) => (bif (decide (x6 < r_1)) then (G.impl_digits.f x6 x2 (w64 (x3 + x4))).bind (fun r_4 => grd (decide (0 ≤ 0) && decide (0 ≤ x3) && decide (x3 ≤ (r_4.length : Int))) (grd (decide (0 ≤ x3) && decide (x3 ≤ (r_4.length : Int)) && decide ((r_4.length : Int) ≤ (r_4.length : Int))) ((x5 ((r_4.drop 0).take (x3.toNat - 0)) ((r_4.drop x3.toNat).take (r_4.length - x3.toNat))).bind (fun r_5 => (G.impl_rest.f r_5 x1).bind (fun r_6 => small (y1.length + ([r_6] : List Int).length) (some (.next ((y1 ++ ([r_6] : List Int)), (w64 (x6 + 1)))))))))) else some (.brk (y1, x6)))

def impl_tensor.f (x1 : Int) (x2 : Int) (x3 : Int) (x4 : Int) (x5 : (List Int) → (List Int) → Option Int) : Option (Int × Int × Int × Int × (List Int) × Int) := (G.impl_powerOf.f x2 (w64 (x3 + x4))).bind (fun r_1 => (G.impl_endsOk.f x3).bind (fun r_2 => (bif (!r_2) then some true else (G.impl_endsOk.f x4).bind (fun r_3 => some (!r_3))).bind (fun b_2 => (bif (b_2 || (decide (r_1 > 1296))) then some (0, 0, 0, 0, ([] : List Int), 3) else (loop1 (impl_tensor.b0 r_1 x2 x3 x4 x5 x1) (([] : List Int), 0)).bind (fun p => match p with | (y1, x6) => some (x1, x2, x3, x4, y1, 0))))))

def impl_tensor.R (r : Int × Int × Int × Int × (List Int) × Int) (v : Value) (L : List Asn) : Prop := ∃ (s0 : SV), v = .tuple #[sval [.one (.int .i64 r.1), .one (.int .i64 r.2.1), .one (.int .i64 r.2.2.1), .one (.int .i64 r.2.2.2.1), .one (SV.v s0)], .int .i64 r.2.2.2.2.2] ∧ L = [row Ei 2 s0 r.2.2.2.2.1]

set_option maxRecDepth 100000 in
set_option maxHeartbeats 4000000 in
theorem impl_tensor.calls (w : World) (x1 : Int) (x2 : Int) (x3 : Int) (x4 : Int) (f1 : Nat) (fst1 : List Value) (cap1 : List Value) (x5 : (List Int) → (List Int) → Option Int) (hc1 : ∀ (args_ : Array Value) (w_ : World), (callFunc f1 args_).run Try.prog w_ = .ok (.enter f1 args_) w_) (hf1 : ∀ w_, Hle (hp w) (hp w_) → ∀ (s1_ : SV) (x0_ : List Int) (s2_ : SV) (x1_ : List Int), Reads Ei (hp w_) s1_ x0_ → Reads Ei (hp w_) s2_ x1_ → ∀ r_, x5 x0_ x1_ = some r_ → Calls Try.prog f1 (fst1 ++ ([SV.v s1_, SV.v s2_] : List Value) ++ cap1).toArray w_ (Ret w_ (fun (v_ : Value) (L_ : List Asn) => v_ = .int .i64 r_ ∧ L_ = []))) :
    ∀ r, impl_tensor.f x1 x2 x3 x4 x5 = some r → Calls Try.prog 47 #[.int .i64 x1, .int .i64 x2, .int .i64 x3, .int .i64 x4, .func (.func f1) fst1.toArray cap1.toArray] w (Ret w (impl_tensor.R r)) := by

  refine calls_T (n := 66) (Γ := [(0, .int .i64 x1), (1, .int .i64 x2), (2, .int .i64 x3), (3, .int .i64 x4), (4, .func (.func f1) fst1.toArray cap1.toArray)]) (R := impl_tensor.R) Try.func47 rfl rfl (Nat.le_of_ble_eq_true rfl) ⟨rfl, rfl, rfl, rfl, rfl, trivial⟩ ?_
  unfold impl_tensor.f
  refine TC.seq ?_
  refine TC.region ?_
  refine TL.alloc [.one (.int .i64 0), .one (.int .i64 0), .one (.int .i64 0), .one (.int .i64 0), .one (SV.v ⟨none, 0, 0⟩)] rfl rfl Try.zeroValue24 rfl fun b_1 => ?_
  refine TL.assign rfl rfl (v := .int .i64 0) rfl ?_
  refine TL.done ?_
  refine TC.seq ?_
  refine TC.region ?_
  refine TL.move rfl rfl (v := .int .i64 x2) rfl ?_
  refine TL.move rfl rfl (v := .int .i64 x3) rfl ?_
  refine TL.move rfl rfl (v := .int .i64 x4) rfl ?_
  refine TL.bin .i64 x3 x4 rfl rfl rfl rfl (v := .int .i64 (w64 (x3 + x4))) rfl ?_
  refine TL.call (R := G.impl_powerOf.R) Try.call67 rfl rfl rfl (fun w hS => G.impl_powerOf.calls w x2 (w64 (x3 + x4))) ?_
  rintro r_1 _ _ ⟨rfl, rfl⟩
  refine TL.assign rfl rfl (v := .int .i64 r_1) rfl ?_
  refine TL.done ?_
  refine TC.seq ?_
  refine TC.seq ?_
  refine TC.region ?_
  refine TL.move rfl rfl (v := .int .i64 x3) rfl ?_
  refine TL.call (R := G.impl_endsOk.R) Try.call51 rfl rfl rfl (fun w hS => G.impl_endsOk.calls w x3) ?_
  rintro r_2 _ _ ⟨rfl, rfl⟩
  refine TL.not r_2 rfl rfl rfl ?_
  refine TL.move rfl rfl (v := .bool (!r_2)) rfl ?_
  refine TL.cutJ (σ := Bool) (γ := Unit) (Γ' := fun b_2 _ => [(28, .bool b_2), (0, .int .i64 x1), (1, .int .i64 x2), (2, .int .i64 x3), (3, .int .i64 x4), (4, .func (.func f1) fst1.toArray cap1.toArray), (10, bp b_1 0), (11, .int .i64 0), (16, .int .i64 x2), (17, .int .i64 x3), (18, .int .i64 x4), (19, .int .i64 (w64 (x3 + x4))), (20, .int .i64 r_1), (12, .int .i64 r_1), (21, .int .i64 x3), (22, .bool r_2), (23, .bool (!r_2)), (24, .bool (!r_2))]) (L' := fun _ _ => [box b_1 24 [.one (.int .i64 0), .one (.int .i64 0), .one (.int .i64 0), .one (.int .i64 0), .one (SV.v ⟨none, 0, 0⟩)]]) 4 ?_ ?_
  · refine TL.ifb (t := 24) (b := (!r_2)) rfl (fun c1 => ?_) (fun c2 => ?_)
    · refine TL.skip rfl rfl (by decide) ?_
      refine TL.skip rfl rfl (by decide) ?_
      refine TL.skip rfl rfl (by decide) ?_
      refine TL.pick rfl rfl (b := true) rfl (r := .bool true) rfl ?_
      refine TL.done ?_
      exact TC.nrm (true) () ⟨rfl, rfl, rfl, rfl, rfl, rfl, rfl, rfl, rfl, rfl, rfl, rfl, rfl, rfl, rfl, rfl, rfl, (by rw [c1]; rfl), trivial⟩ [0] (by kernel_rfl)
    · refine TL.move rfl rfl (v := .int .i64 x4) rfl ?_
      refine TL.call (R := G.impl_endsOk.R) Try.call51 rfl rfl rfl (fun w hS => G.impl_endsOk.calls w x4) ?_
      rintro r_3 _ _ ⟨rfl, rfl⟩
      refine TL.not r_3 rfl rfl rfl ?_
      refine TL.pick rfl rfl (b := false) rfl (r := .bool (!r_3)) rfl ?_
      refine TL.done ?_
      exact TC.nrm ((!r_3)) () ⟨rfl, rfl, rfl, rfl, rfl, rfl, rfl, rfl, rfl, rfl, rfl, rfl, rfl, rfl, rfl, rfl, rfl, (by rw [c2]; rfl), trivial⟩ [0] (by kernel_rfl)
  · rintro b_2 _
    refine TL.move rfl rfl (v := .bool b_2) rfl ?_
    refine TL.cutU 3 [(32, .bool (b_2 || (decide (r_1 > 1296)))), (0, .int .i64 x1), (1, .int .i64 x2), (2, .int .i64 x3), (3, .int .i64 x4), (4, .func (.func f1) fst1.toArray cap1.toArray), (10, bp b_1 0), (11, .int .i64 0), (16, .int .i64 x2), (17, .int .i64 x3), (18, .int .i64 x4), (19, .int .i64 (w64 (x3 + x4))), (20, .int .i64 r_1), (12, .int .i64 r_1), (21, .int .i64 x3), (22, .bool r_2), (23, .bool (!r_2)), (24, .bool (!r_2)), (28, .bool b_2), (29, .bool b_2)] [box b_1 24 [.one (.int .i64 0), .one (.int .i64 0), .one (.int .i64 0), .one (.int .i64 0), .one (SV.v ⟨none, 0, 0⟩)]] ?_ ?_
    · refine TL.cases (t := 29) (b := b_2) rfl (fun c3 => ?_) (fun c4 => ?_)
      · refine TL.skip rfl rfl (by decide) ?_
        refine TL.skip rfl rfl (by decide) ?_
        refine TL.pick rfl rfl (b := true) rfl (r := .bool true) rfl ?_
        refine TL.done ?_
        exact TC.nrm () () ⟨(by rw [c3]; rfl), rfl, rfl, rfl, rfl, rfl, rfl, rfl, rfl, rfl, rfl, rfl, rfl, rfl, rfl, rfl, rfl, rfl, rfl, (by rw [c3]; rfl), trivial⟩ [0] (by kernel_rfl)
      · refine TL.move rfl rfl (v := .int .i64 r_1) rfl ?_
        refine TL.bin .i64 r_1 1296 rfl rfl rfl rfl (v := .bool (decide (r_1 > 1296))) rfl ?_
        refine TL.pick rfl rfl (b := false) rfl (r := .bool (decide (r_1 > 1296))) rfl ?_
        refine TL.done ?_
        exact TC.nrm () () ⟨(by rw [c4]; rfl), rfl, rfl, rfl, rfl, rfl, rfl, rfl, rfl, rfl, rfl, rfl, rfl, rfl, rfl, rfl, rfl, rfl, rfl, (by rw [c4]; rfl), trivial⟩ [0] (by kernel_rfl)
    · refine TL.done ?_
      refine TC.cond (b := (b_2 || (decide (r_1 > 1296)))) rfl (fun c5 => ?_) (fun c6 => ?_)
      · refine TC.seq ?_
        refine TC.region ?_
        refine TL.buildS (segs0 := [.one (.int .i64 0), .one (.int .i64 0), .one (.int .i64 0), .one (.int .i64 0), .one (SV.v ⟨none, 0, 0⟩)]) (segs := [.one (.int .i64 0), .one (.int .i64 0), .one (.int .i64 0), .one (.int .i64 0), .one (SV.v ⟨none, 0, 0⟩)]) [1, 1, 1, 1, 1] Try.underlying24 ⟨Try.sizeOf2, Try.sizeOf2, Try.sizeOf2, Try.sizeOf2, Try.sizeOf22, trivial⟩ Try.zeroValue24 rfl [] rfl (fun pl hpl => by subst hpl; exact rfl) rfl rfl ?_
        refine TL.stM (news := [.one (.int .i64 0), .one (.int .i64 0), .one (.int .i64 0), .one (.int .i64 0), .one (SV.v ⟨none, 0, 0⟩)]) 0 0 5 rfl Try.sizeOf24 (ones_one rfl (ones_one rfl (ones_one rfl (ones_one rfl (ones_one rfl ones_nil))))) rfl rfl rfl rfl rfl rfl ?_
        refine TL.assign rfl rfl (v := .int .i64 3) rfl ?_
        refine TL.done ?_
        refine TC.nilrow Ei 2 ?_
        exact TC.retF (Fin.body (fin2 (.inr rfl) rfl (.cellN rfl (Src.box 1 rfl) Try.isAgg24 Try.sizeOf24 rfl) (.tmp rfl) [0] rfl ⟨⟨none, 0, 0⟩, rfl, rfl⟩))
      · refine TC.skip ?_
        refine TC.seq ?_
        refine TC.region ?_
        refine TL.move rfl rfl (v := .int .i64 x1) rfl ?_
        refine TL.move rfl rfl (v := .int .i64 x2) rfl ?_
        refine TL.move rfl rfl (v := .int .i64 x3) rfl ?_
        refine TL.move rfl rfl (v := .int .i64 x4) rfl ?_
        refine TL.buildS (segs0 := [.one (.int .i64 0), .one (.int .i64 0), .one (.int .i64 0), .one (.int .i64 0), .one (SV.v ⟨none, 0, 0⟩)]) (segs := [.one (.int .i64 x1), .one (.int .i64 x2), .one (.int .i64 x3), .one (.int .i64 x4), .one (SV.v ⟨none, 0, 0⟩)]) [1, 1, 1, 1, 1] Try.underlying24 ⟨Try.sizeOf2, Try.sizeOf2, Try.sizeOf2, Try.sizeOf2, Try.sizeOf22, trivial⟩ Try.zeroValue24 rfl [(0, .int .i64 x1), (1, .int .i64 x2), (2, .int .i64 x3), (3, .int .i64 x4)] rfl (fun pl hpl => by subst hpl; exact fill_one 0 rfl rfl rfl rfl (fill_one 1 rfl rfl rfl rfl (fill_one 2 rfl rfl rfl rfl (fill_one 3 rfl rfl rfl rfl (rfl))))) rfl rfl ?_
        refine TL.alloc [.one (.int .i64 0), .one (.int .i64 0), .one (.int .i64 0), .one (.int .i64 0), .one (SV.v ⟨none, 0, 0⟩)] rfl rfl Try.zeroValue24 rfl fun b_3 => ?_
        refine TL.stM (news := [.one (.int .i64 x1), .one (.int .i64 x2), .one (.int .i64 x3), .one (.int .i64 x4), .one (SV.v ⟨none, 0, 0⟩)]) 0 0 5 rfl Try.sizeOf24 (ones_one rfl (ones_one rfl (ones_one rfl (ones_one rfl (ones_one rfl ones_nil))))) rfl rfl rfl rfl rfl rfl ?_
        refine TL.done ?_
        refine TC.seq ?_
        refine TC.seq ?_
        refine TC.region ?_
        refine TL.move rfl rfl (v := .int .i64 r_1) rfl ?_
        refine TL.move rfl rfl (v := .int .i64 0) rfl ?_
        refine TL.done ?_
        refine TC.nilrow Ei 2 ?_
        refine TC.loop1 (σ := (List Int) × Int) (γ := SV) (Γ' := (fun p q => match p, q with | (y1, x6), s1 => [(0, .int .i64 x1), (1, .int .i64 x2), (2, .int .i64 x3), (3, .int .i64 x4), (4, .func (.func f1) fst1.toArray cap1.toArray), (10, bp b_1 0), (13, bp b_3 0), (39, .int .i64 r_1), (40, .int .i64 x6)])) (L' := (fun p q => match p, q with | (y1, x6), s1 => [box b_1 24 [.one (.int .i64 0), .one (.int .i64 0), .one (.int .i64 0), .one (.int .i64 0), .one (SV.v ⟨none, 0, 0⟩)], box b_3 24 [.one (.int .i64 x1), .one (.int .i64 x2), .one (.int .i64 x3), .one (.int .i64 x4), .one (SV.v s1)], row Ei 2 s1 y1])) (Γb := (fun p q => match p, q with | (y1, x6), s1 => [(0, .int .i64 x1), (1, .int .i64 x2), (2, .int .i64 x3), (3, .int .i64 x4), (4, .func (.func f1) fst1.toArray cap1.toArray), (10, bp b_1 0), (13, bp b_3 0), (39, .int .i64 r_1), (40, .int .i64 x6)])) (Lb := (fun p q => match p, q with | (y1, x6), s1 => [box b_1 24 [.one (.int .i64 0), .one (.int .i64 0), .one (.int .i64 0), .one (.int .i64 0), .one (SV.v ⟨none, 0, 0⟩)], box b_3 24 [.one (.int .i64 x1), .one (.int .i64 x2), .one (.int .i64 x3), .one (.int .i64 x4), .one (SV.v s1)], row Ei 2 s1 y1])) ((([] : List Int), 0)) (⟨none, 0, 0⟩) ⟨rfl, rfl, rfl, rfl, rfl, rfl, rfl, rfl, rfl, trivial⟩ [2, 1, 0] rfl ?_ ?_
        · rintro ⟨y1, x6⟩ s1
          refine TC.seq ?_
          refine TC.region ?_
          refine TL.bin .i64 x6 r_1 rfl rfl rfl rfl (v := .bool (decide (x6 < r_1))) rfl ?_
          refine TL.done ?_
          refine TC.seq ?_
          refine TC.cond (b := (decide (x6 < r_1))) rfl (fun c7 => ?_) (fun c8 => ?_)
          · refine TC.skip ?_
            refine TC.seq ?_
            refine TC.block (NoEx.loop1 rfl) ?_
            refine TC.seq ?_
            refine TC.region ?_
            refine TL.move rfl rfl (v := .int .i64 x6) rfl ?_
            refine TL.assign rfl rfl (v := .int .i64 x6) rfl ?_
            refine TL.done ?_
            refine TC.seq ?_
            refine TC.region ?_
            refine TL.move rfl rfl (v := .int .i64 x6) rfl ?_
            refine TL.move rfl rfl (v := .int .i64 x2) rfl ?_
            refine TL.move rfl rfl (v := .int .i64 x3) rfl ?_
            refine TL.move rfl rfl (v := .int .i64 x4) rfl ?_
            refine TL.bin .i64 x3 x4 rfl rfl rfl rfl (v := .int .i64 (w64 (x3 + x4))) rfl ?_
            refine TL.call (R := G.impl_digits.R) Try.call69 rfl rfl rfl (fun w hS => G.impl_digits.calls w x6 x2 (w64 (x3 + x4))) ?_
            rintro r_4 _ _ ⟨s2, rfl, rfl⟩
            refine TL.assign rfl rfl (v := SV.v s2) rfl ?_
            refine TL.done ?_
            refine TC.wk (Γ' := [(0, .int .i64 x1), (1, .int .i64 x2), (2, .int .i64 x3), (3, .int .i64 x4), (4, .func (.func f1) fst1.toArray cap1.toArray), (10, bp b_1 0), (13, bp b_3 0), (39, .int .i64 r_1), (40, .int .i64 x6), (41, .bool (decide (x6 < r_1))), (42, .int .i64 x6), (14, .int .i64 x6), (43, .int .i64 x6), (44, .int .i64 x2), (45, .int .i64 x3), (46, .int .i64 x4), (47, .int .i64 (w64 (x3 + x4))), (48, SV.v s2), (15, SV.v s2)]) ⟨rfl, rfl, rfl, rfl, rfl, rfl, rfl, rfl, rfl, rfl, rfl, rfl, rfl, rfl, rfl, rfl, rfl, rfl, rfl, trivial⟩ ?_
            refine TC.grd fun h1 => ?_
            refine TC.grd fun h2 => ?_
            refine TC.bindE ?_
            rintro r_5 hr1
            refine TC.bindE ?_
            rintro r_6 hr2
            refine TC.small fun h3 => ?_
            refine TC.drawG [(0, .int .i64 x1), (1, .int .i64 x2), (2, .int .i64 x3), (3, .int .i64 x4), (4, .func (.func f1) fst1.toArray cap1.toArray), (10, bp b_1 0), (13, bp b_3 0), (39, .int .i64 r_1), (40, .int .i64 x6), (41, .bool (decide (x6 < r_1))), (42, .int .i64 x6), (14, .int .i64 x6), (43, .int .i64 x6), (44, .int .i64 x2), (45, .int .i64 x3), (46, .int .i64 x4), (47, .int .i64 (w64 (x3 + x4))), (48, SV.v s2), (15, SV.v s2)] [] ⟨rfl, rfl, rfl, rfl, rfl, rfl, rfl, rfl, rfl, rfl, rfl, rfl, rfl, rfl, rfl, rfl, rfl, rfl, rfl, trivial⟩ trivial (fun l_ g1 => [row Ei 2 s2 r_4, box b_1 24 [.one (.int .i64 0), .one (.int .i64 0), .one (.int .i64 0), .one (.int .i64 0), .one (SV.v ⟨none, 0, 0⟩)], (bif nb l_ 15 then box b_3 24 [.one (.int .i64 x1), .one (.int .i64 x2), .one (.int .i64 x3), .one (.int .i64 x4), .one (SV.v (gs (g1 104)))] else box b_3 24 [.one (.int .i64 x1), .one (.int .i64 x2), .one (.int .i64 x3), .one (.int .i64 x4), .one (SV.v s1)]), (bif nb l_ 13 then row Ei 2 (gs (g1 104)) (y1 ++ ([r_6] : List Int)) else row Ei 2 s1 y1), (bif nb l_ 12 then row Ei 2 (gs (g1 96)) ([r_6] : List Int) else emp)]) (fun g1 => [bp b_3 4, SV.v s1, .func (.func f1) fst1.toArray cap1.toArray, SV.v s2, .int .i64 x3, SV.v (SV.cut s2 0 x3.toNat s2.c Ei.sz), SV.v s2, .int .i64 x3, SV.v (SV.cut s2 x3.toNat r_4.length s2.c Ei.sz), .int .i64 r_5, .int .i64 x1, .int .i64 r_6, SV.v (gs (g1 96)), SV.v (gs (g1 104)), bp b_3 4, undef]) [[], [0], [], [], [], [3, 4], [], [], [6, 7], [2, 3, 4, 5, 6, 7, 8], [], [2, 3, 4, 5, 6, 7, 8, 9, 10], [2, 3, 4, 5, 6, 7, 8, 9, 10, 11], [0, 1, 2, 3, 4, 5, 6, 7, 8, 9, 10, 11, 12], [0, 1, 2, 3, 4, 5, 6, 7, 8, 9, 10, 11, 12, 13], [0, 1, 2, 3, 4, 5, 6, 7, 8, 9, 10, 11, 12, 13, 14]] [[some false, some false, none, none, none, none, none, none, none, none, none, none, none, some false, some false, some false], [some true, some false, none, none, none, none, none, none, none, none, none, none, none, some false, some false, some false], [none, none, some false, none, none, none, none, none, none, some false, none, some false, some false, some false, some false, some false], [none, none, none, some false, none, some false, none, none, none, some false, none, some false, some false, some false, some false, some false], [none, none, none, none, some false, some false, none, none, none, some false, none, some false, some false, some false, some false, some false], [none, none, none, some true, some true, some false, none, none, none, some false, none, some false, some false, some false, some false, some false], [none, none, none, none, none, none, some false, none, some false, some false, none, some false, some false, some false, some false, some false], [none, none, none, none, none, none, none, some false, some false, some false, none, some false, some false, some false, some false, some false], [none, none, none, none, none, none, some true, some true, some false, some false, none, some false, some false, some false, some false, some false], [none, none, some true, some true, some true, some true, some true, some true, some true, some false, none, some false, some false, some false, some false, some false], [none, none, none, none, none, none, none, none, none, none, some false, some false, some false, some false, some false, some false], [none, none, some true, some true, some true, some true, some true, some true, some true, some true, some true, some false, some false, some false, some false, some false], [none, none, some true, some true, some true, some true, some true, some true, some true, some true, some true, some true, some false, some false, some false, some false], [some true, some true, some true, some true, some true, some true, some true, some true, some true, some true, some true, some true, some true, some false, some false, some false], [some true, some true, some true, some true, some true, some true, some true, some true, some true, some true, some true, some true, some true, some true, some false, some false], [some true, some true, some true, some true, some true, some true, some true, some true, some true, some true, some true, some true, some true, some true, some true, some false]] (by kernel_rfl) (fun _ => rfl) rfl rfl rfl rfl rfl (fun _ _ => ⟨⟨⟨⟨⟨⟨⟨⟨⟨⟨⟨⟨⟨⟨⟨⟨trivial, rfl⟩, rfl⟩, rfl⟩, rfl⟩, rfl⟩, rfl⟩, rfl⟩, rfl⟩, rfl⟩, rfl⟩, rfl⟩, rfl⟩, rfl⟩, rfl⟩, rfl⟩, rfl⟩) 1 [1, 1, 1, 1, 0] (fun _ => by kernel_rfl) ?_ ?_
            · refine ⟨rfl, ?_, rfl, ?_, rfl, ?_, rfl, ?_, rfl, ?_, rfl, ?_, rfl, ?_, rfl, ?_, rfl, ?_, rfl, ?_, rfl, ?_, rfl, ?_, rfl, ?_, rfl, ?_, rfl, ?_, rfl, ?_, trivial⟩
              · intro b2_ b3_ b4_ b5_ b6_ b7_ b8_ b9_ b10_ b11_ b12_ g1
                refine TL.asL [row Ei 2 s2 r_4, box b_1 24 [.one (.int .i64 0), .one (.int .i64 0), .one (.int .i64 0), .one (.int .i64 0), .one (SV.v ⟨none, 0, 0⟩)], box b_3 24 [.one (.int .i64 x1), .one (.int .i64 x2), .one (.int .i64 x3), .one (.int .i64 x4), .one (SV.v s1)], row Ei 2 s1 y1, (bif b12_ then row Ei 2 (gs (g1 96)) ([r_6] : List Int) else emp)] (by kernel_rfl) ?_
                refine TL.fa Try.underlying24 rfl Try.sizeOf22 rfl 4 rfl rfl rfl rfl ?_
                refine TL.done ?_
                exact TC.nrm () [] ⟨rfl, trivial⟩ [0, 0, 0, 0, 0] (by kernel_rfl)
              · intro b2_ b3_ b4_ b5_ b6_ b7_ b8_ b9_ b10_ b11_ b12_ g1
                refine TL.asL [row Ei 2 s2 r_4, box b_1 24 [.one (.int .i64 0), .one (.int .i64 0), .one (.int .i64 0), .one (.int .i64 0), .one (SV.v ⟨none, 0, 0⟩)], box b_3 24 [.one (.int .i64 x1), .one (.int .i64 x2), .one (.int .i64 x3), .one (.int .i64 x4), .one (SV.v s1)], row Ei 2 s1 y1, (bif b12_ then row Ei 2 (gs (g1 96)) ([r_6] : List Int) else emp)] (by kernel_rfl) ?_
                refine TL.load1 4 (Src.box 2 rfl) Try.isAgg22 rfl rfl rfl rfl rfl ?_
                refine TL.done ?_
                exact TC.nrm () [] ⟨rfl, trivial⟩ [0, 0, 0, 0, 0] (by kernel_rfl)
              · intro b0_ b1_ b3_ b4_ b5_ b6_ b7_ b8_ b10_ g1
                refine TL.move rfl rfl (v := .func (.func f1) fst1.toArray cap1.toArray) rfl ?_
                refine TL.done ?_
                exact TC.nrm () [] ⟨rfl, trivial⟩ [0, 0, 0, 0, 0] (by kernel_rfl)
              · intro b0_ b1_ b2_ b4_ b6_ b7_ b8_ b10_ g1
                refine TL.move rfl rfl (v := SV.v s2) rfl ?_
                refine TL.done ?_
                exact TC.nrm () [] ⟨rfl, trivial⟩ [0, 0, 0, 0, 0] (by kernel_rfl)
              · intro b0_ b1_ b2_ b3_ b6_ b7_ b8_ b10_ g1
                refine TL.move rfl rfl (v := .int .i64 x3) rfl ?_
                refine TL.done ?_
                exact TC.nrm () [] ⟨rfl, trivial⟩ [0, 0, 0, 0, 0] (by kernel_rfl)
              · intro b0_ b1_ b2_ b6_ b7_ b8_ b10_ g1
                refine TL.asL [row Ei 2 s2 r_4, box b_1 24 [.one (.int .i64 0), .one (.int .i64 0), .one (.int .i64 0), .one (.int .i64 0), .one (SV.v ⟨none, 0, 0⟩)], box b_3 24 [.one (.int .i64 x1), .one (.int .i64 x2), .one (.int .i64 x3), .one (.int .i64 x4), .one (SV.v s1)], row Ei 2 s1 y1, emp] (by kernel_rfl) ?_
                refine TL.slice (li := none) (hi' := (some x3)) (l := 0) (h := x3.toNat) (Rd.row 0 rfl) Try.underlying22 Try.sizeOf2 rfl rfl (by have h_ := h1; simp only [Bool.and_eq_true, decide_eq_true_eq] at h_; first | rfl | omega | (simp only [Option.getD_none, Option.getD_some]; omega)) (by have h_ := h1; simp only [Bool.and_eq_true, decide_eq_true_eq] at h_; first | rfl | omega | (simp only [Option.getD_none, Option.getD_some]; omega)) (by have h_ := h1; simp only [Bool.and_eq_true, decide_eq_true_eq] at h_; omega) (by have h_ := h1; simp only [Bool.and_eq_true, decide_eq_true_eq] at h_; omega) rfl rfl rfl ?_
                refine TL.done ?_
                exact TC.nrm () [] ⟨rfl, trivial⟩ [0, 0, 0, 0, 0] (by kernel_rfl)
              · intro b0_ b1_ b2_ b3_ b4_ b5_ b7_ b10_ g1
                refine TL.move rfl rfl (v := SV.v s2) rfl ?_
                refine TL.done ?_
                exact TC.nrm () [] ⟨rfl, trivial⟩ [0, 0, 0, 0, 0] (by kernel_rfl)
              · intro b0_ b1_ b2_ b3_ b4_ b5_ b6_ b10_ g1
                refine TL.move rfl rfl (v := .int .i64 x3) rfl ?_
                refine TL.done ?_
                exact TC.nrm () [] ⟨rfl, trivial⟩ [0, 0, 0, 0, 0] (by kernel_rfl)
              · intro b0_ b1_ b2_ b3_ b4_ b5_ b10_ g1
                refine TL.asL [row Ei 2 s2 r_4, box b_1 24 [.one (.int .i64 0), .one (.int .i64 0), .one (.int .i64 0), .one (.int .i64 0), .one (SV.v ⟨none, 0, 0⟩)], box b_3 24 [.one (.int .i64 x1), .one (.int .i64 x2), .one (.int .i64 x3), .one (.int .i64 x4), .one (SV.v s1)], row Ei 2 s1 y1, emp] (by kernel_rfl) ?_
                refine TL.slice (li := (some x3)) (hi' := none) (l := x3.toNat) (h := r_4.length) (Rd.row 0 rfl) Try.underlying22 Try.sizeOf2 rfl rfl (by have h_ := h2; simp only [Bool.and_eq_true, decide_eq_true_eq] at h_; first | rfl | omega | (simp only [Option.getD_none, Option.getD_some]; omega)) (by have h_ := h2; simp only [Bool.and_eq_true, decide_eq_true_eq] at h_; first | rfl | omega | (simp only [Option.getD_none, Option.getD_some]; omega)) (by have h_ := h2; simp only [Bool.and_eq_true, decide_eq_true_eq] at h_; omega) (by have h_ := h2; simp only [Bool.and_eq_true, decide_eq_true_eq] at h_; omega) rfl rfl rfl ?_
                refine TL.done ?_
                exact TC.nrm () [] ⟨rfl, trivial⟩ [0, 0, 0, 0, 0] (by kernel_rfl)
              · intro b0_ b1_ b10_ g1
                refine TL.asL [row Ei 2 s2 r_4, box b_1 24 [.one (.int .i64 0), .one (.int .i64 0), .one (.int .i64 0), .one (.int .i64 0), .one (SV.v ⟨none, 0, 0⟩)], box b_3 24 [.one (.int .i64 x1), .one (.int .i64 x2), .one (.int .i64 x3), .one (.int .i64 x4), .one (SV.v s1)], row Ei 2 s1 y1, emp] (by kernel_rfl) ?_
                refine TL.callvH (R := (fun r_ => (fun (v_ : Value) (L_ : List Asn) => v_ = .int .i64 r_ ∧ L_ = []))) hr1 (vs := [SV.v (SV.cut s2 0 x3.toNat s2.c Ei.sz), SV.v (SV.cut s2 x3.toNat r_4.length s2.c Ei.sz)]) hc1 rfl rfl rfl rfl (fun w hS => hf1 w hS.iw (SV.cut s2 0 x3.toNat s2.c Ei.sz) ((r_4.drop 0).take (x3.toNat - 0)) (SV.cut s2 x3.toNat r_4.length s2.c Ei.sz) ((r_4.drop x3.toNat).take (r_4.length - x3.toNat)) ((Rd.cut (Rd.row 0 rfl) (by have h_ := h1; simp only [Bool.and_eq_true, decide_eq_true_eq] at h_; omega) (by have h_ := h1; simp only [Bool.and_eq_true, decide_eq_true_eq] at h_; omega)) w hS) ((Rd.cut (Rd.row 0 rfl) (by have h_ := h2; simp only [Bool.and_eq_true, decide_eq_true_eq] at h_; omega) (by have h_ := h2; simp only [Bool.and_eq_true, decide_eq_true_eq] at h_; omega)) w hS)) ?_
                rintro _ _ ⟨rfl, rfl⟩
                refine TL.done ?_
                exact TC.nrm () [] ⟨rfl, trivial⟩ [0, 0, 0, 0, 0] (by kernel_rfl)
              · intro b0_ b1_ b2_ b3_ b4_ b5_ b6_ b7_ b8_ b9_ g1
                refine TL.move rfl rfl (v := .int .i64 x1) rfl ?_
                refine TL.done ?_
                exact TC.nrm () [] ⟨rfl, trivial⟩ [0, 0, 0, 0, 0] (by kernel_rfl)
              · intro b0_ b1_ g1
                refine TL.asL [row Ei 2 s2 r_4, box b_1 24 [.one (.int .i64 0), .one (.int .i64 0), .one (.int .i64 0), .one (.int .i64 0), .one (SV.v ⟨none, 0, 0⟩)], box b_3 24 [.one (.int .i64 x1), .one (.int .i64 x2), .one (.int .i64 x3), .one (.int .i64 x4), .one (SV.v s1)], row Ei 2 s1 y1, emp] (by kernel_rfl) ?_
                refine TL.callH (R := G.impl_rest.R) hr2 Try.call88 rfl rfl rfl (fun w hS => G.impl_rest.calls w r_5 x1) ?_
                rintro _ _ ⟨rfl, rfl⟩
                refine TL.done ?_
                exact TC.nrm () [] ⟨rfl, trivial⟩ [0, 0, 0, 0, 0] (by kernel_rfl)
              · intro b0_ b1_ g1
                refine TL.asL [row Ei 2 s2 r_4, box b_1 24 [.one (.int .i64 0), .one (.int .i64 0), .one (.int .i64 0), .one (.int .i64 0), .one (SV.v ⟨none, 0, 0⟩)], box b_3 24 [.one (.int .i64 x1), .one (.int .i64 x2), .one (.int .i64 x3), .one (.int .i64 x4), .one (SV.v s1)], row Ei 2 s1 y1, emp] (by kernel_rfl) ?_
                refine TL.blit Ei ([r_6] : List Int) Try.underlying22 Try.sizeOf2 Try.zeroValue2 rfl rfl rfl [(0, .int .i64 r_6)] rfl ⟨rfl, rfl, trivial⟩ rfl rfl fun s3 => ?_
                refine TL.done ?_
                exact TC.nrm () [[s3]] ⟨rfl, trivial⟩ [1, 1, 1, 1, 0] (by kernel_rfl)
              · intro g1
                refine TL.asL [row Ei 2 s2 r_4, box b_1 24 [.one (.int .i64 0), .one (.int .i64 0), .one (.int .i64 0), .one (.int .i64 0), .one (SV.v ⟨none, 0, 0⟩)], box b_3 24 [.one (.int .i64 x1), .one (.int .i64 x2), .one (.int .i64 x3), .one (.int .i64 x4), .one (SV.v s1)], row Ei 2 s1 y1, row Ei 2 (gs (g1 96)) ([r_6] : List Int)] (by kernel_rfl) ?_
                refine TL.append 3 rfl (Rd.row 4 rfl) Try.underlying22 (info_of Try.type2) (zv := (Try.t2.zero.getD (.bool false))) rfl rfl rfl (by decide) h3 rfl rfl rfl rfl fun s4 => ?_
                refine TL.done ?_
                exact TC.nrm () [[s4]] ⟨rfl, trivial⟩ [0, 0, 0, 0, 0] (by kernel_rfl)
              · intro g1
                refine TL.asL [row Ei 2 s2 r_4, box b_1 24 [.one (.int .i64 0), .one (.int .i64 0), .one (.int .i64 0), .one (.int .i64 0), .one (SV.v ⟨none, 0, 0⟩)], box b_3 24 [.one (.int .i64 x1), .one (.int .i64 x2), .one (.int .i64 x3), .one (.int .i64 x4), .one (SV.v s1)], row Ei 2 (gs (g1 104)) (y1 ++ ([r_6] : List Int)), row Ei 2 (gs (g1 96)) ([r_6] : List Int)] (by kernel_rfl) ?_
                refine TL.fa Try.underlying24 rfl Try.sizeOf22 rfl 4 rfl rfl rfl rfl ?_
                refine TL.done ?_
                exact TC.nrm () [] ⟨rfl, trivial⟩ [0, 0, 0, 0, 0] (by kernel_rfl)
              · intro g1
                refine TL.asL [row Ei 2 s2 r_4, box b_1 24 [.one (.int .i64 0), .one (.int .i64 0), .one (.int .i64 0), .one (.int .i64 0), .one (SV.v ⟨none, 0, 0⟩)], box b_3 24 [.one (.int .i64 x1), .one (.int .i64 x2), .one (.int .i64 x3), .one (.int .i64 x4), .one (SV.v s1)], row Ei 2 (gs (g1 104)) (y1 ++ ([r_6] : List Int)), row Ei 2 (gs (g1 96)) ([r_6] : List Int)] (by kernel_rfl) ?_
                refine TL.st1 2 4 rfl Try.sizeOf22 rfl rfl rfl rfl rfl rfl rfl ?_
                refine TL.done ?_
                exact TC.nrm () [] trivial [0, 0, 0, 0, 0] (by kernel_rfl)
            · intro g1
              refine TC.asL [row Ei 2 s2 r_4, box b_1 24 [.one (.int .i64 0), .one (.int .i64 0), .one (.int .i64 0), .one (.int .i64 0), .one (SV.v ⟨none, 0, 0⟩)], box b_3 24 [.one (.int .i64 x1), .one (.int .i64 x2), .one (.int .i64 x3), .one (.int .i64 x4), .one (SV.v (gs (g1 104)))], row Ei 2 (gs (g1 104)) (y1 ++ ([r_6] : List Int)), row Ei 2 (gs (g1 96)) ([r_6] : List Int)] (by kernel_rfl) ?_
              refine TC.region ?_
              refine TL.bin .i64 x6 1 rfl rfl rfl rfl (v := .int .i64 (w64 (x6 + 1))) rfl ?_
              refine TL.move rfl rfl (v := .int .i64 (w64 (x6 + 1))) rfl ?_
              refine TL.done ?_
              exact TC.next1 (((y1 ++ ([r_6] : List Int)), (w64 (x6 + 1)))) ((gs (g1 104))) ⟨rfl, rfl, rfl, rfl, rfl, rfl, rfl, rfl, rfl, trivial⟩ [1, 1, 1] rfl
          · exact TC.brk1 ((y1, x6)) (s1) ⟨rfl, rfl, rfl, rfl, rfl, rfl, rfl, rfl, rfl, trivial⟩ [0, 0, 0] rfl
        · rintro ⟨y1, x6⟩ s1
          refine TC.seq ?_
          refine TC.region ?_
          refine TL.loadM 0 5 (Src.box 1 rfl) Try.isAgg24 Try.sizeOf24 (mid := [.one (.int .i64 x1), .one (.int .i64 x2), .one (.int .i64 x3), .one (.int .i64 x4), .one (SV.v s1)]) rfl rfl rfl rfl rfl rfl ?_
          refine TL.stM (news := [.one (.int .i64 x1), .one (.int .i64 x2), .one (.int .i64 x3), .one (.int .i64 x4), .one (SV.v s1)]) 0 0 5 rfl Try.sizeOf24 (ones_one rfl (ones_one rfl (ones_one rfl (ones_one rfl (ones_one rfl ones_nil))))) rfl rfl rfl rfl rfl rfl ?_
          refine TL.assign rfl rfl (v := .int .i64 0) rfl ?_
          refine TL.done ?_
          exact TC.retF (Fin.body (fin2 (.inr rfl) rfl (.cellN rfl (Src.box 0 rfl) Try.isAgg24 Try.sizeOf24 rfl) (.tmp rfl) [2] rfl ⟨s1, rfl, rfl⟩))

end Go.Proofs.Ytjjfoofjipafiaa.G

/- spec.l03Sizes, as a pure function. -/
set_option linter.unusedVariables false
namespace Go.Proofs.Ytjjfoofjipafiaa.G
open Go Go.Sx Go.Proofs

def spec_l03Sizes.f (p1 : Int) (n_1 : Int) (in_1 : Int) (out1 : Int) : Option Int := (G.spec_l01Prime.f p1).bind (fun r_1 => (bif (!r_1) then some true else (G.spec_l01In.f n_1 1 6).bind (fun r_2 => some (!r_2))).bind (fun b_1 => (bif b_1 then some 2 else (bif ((decide (in_1 > 8)) || (decide (out1 > 8))) then some true else (G.spec_l03Power.f n_1 (w64 (in_1 + out1))).bind (fun r_3 => some (decide (r_3 > 1296)))).bind (fun b_2 => (bif b_2 then some 3 else some 0)))))

def spec_l03Sizes.R (r : Int) (v : Value) (L : List Asn) : Prop := v = .int .i64 r ∧ L = []

set_option maxRecDepth 100000 in
set_option maxHeartbeats 4000000 in
theorem spec_l03Sizes.calls (w : World) (p1 : Int) (n_1 : Int) (in_1 : Int) (out1 : Int) :
    ∀ r, spec_l03Sizes.f p1 n_1 in_1 out1 = some r → Calls Try.prog 44 #[.int .i64 p1, .int .i64 n_1, .int .i64 in_1, .int .i64 out1] w (Ret w (spec_l03Sizes.R r)) := by

  refine calls_T (n := 33) (Γ := [(0, .int .i64 p1), (1, .int .i64 n_1), (2, .int .i64 in_1), (3, .int .i64 out1)]) (R := spec_l03Sizes.R) Try.func44 rfl rfl (Nat.le_of_ble_eq_true rfl) ⟨rfl, rfl, rfl, rfl, trivial⟩ ?_
  unfold spec_l03Sizes.f
  refine TC.seq ?_
  refine TC.region ?_
  refine TL.assign rfl rfl (v := .int .i64 0) rfl ?_
  refine TL.done ?_
  refine TC.seq ?_
  refine TC.block NoEx.body ?_
  refine TC.seq ?_
  refine TC.region ?_
  refine TL.move rfl rfl (v := .int .i64 p1) rfl ?_
  refine TL.call (R := G.spec_l01Prime.R) Try.call82 rfl rfl rfl (fun w hS => G.spec_l01Prime.calls w p1) ?_
  rintro r_1 _ _ ⟨rfl, rfl⟩
  refine TL.not r_1 rfl rfl rfl ?_
  refine TL.move rfl rfl (v := .bool (!r_1)) rfl ?_
  refine TL.cutJ (σ := Bool) (γ := Unit) (Γ' := fun b_1 _ => [(17, .bool b_1), (0, .int .i64 p1), (1, .int .i64 n_1), (2, .int .i64 in_1), (3, .int .i64 out1), (8, .int .i64 0), (10, .int .i64 p1), (11, .bool r_1), (12, .bool (!r_1)), (13, .bool (!r_1))]) (L' := fun _ _ => []) 4 ?_ ?_
  · refine TL.ifb (t := 13) (b := (!r_1)) rfl (fun c1 => ?_) (fun c2 => ?_)
    · refine TL.skip rfl rfl (by decide) ?_
      refine TL.skip rfl rfl (by decide) ?_
      refine TL.skip rfl rfl (by decide) ?_
      refine TL.pick rfl rfl (b := true) rfl (r := .bool true) rfl ?_
      refine TL.done ?_
      exact TC.nrm (true) () ⟨rfl, rfl, rfl, rfl, rfl, rfl, rfl, rfl, rfl, (by rw [c1]; rfl), trivial⟩ [] (by kernel_rfl)
    · refine TL.move rfl rfl (v := .int .i64 n_1) rfl ?_
      refine TL.call (R := G.spec_l01In.R) Try.call49 rfl rfl rfl (fun w hS => G.spec_l01In.calls w n_1 1 6) ?_
      rintro r_2 _ _ ⟨rfl, rfl⟩
      refine TL.not r_2 rfl rfl rfl ?_
      refine TL.pick rfl rfl (b := false) rfl (r := .bool (!r_2)) rfl ?_
      refine TL.done ?_
      exact TC.nrm ((!r_2)) () ⟨rfl, rfl, rfl, rfl, rfl, rfl, rfl, rfl, rfl, (by rw [c2]; rfl), trivial⟩ [] (by kernel_rfl)
  · rintro b_1 _
    refine TL.assign rfl rfl (v := .bool b_1) rfl ?_
    refine TL.done ?_
    refine TC.cond (b := b_1) rfl (fun c3 => ?_) (fun c4 => ?_)
    · refine TC.seq ?_
      refine TC.region ?_
      refine TL.assign rfl rfl (v := .int .i64 2) rfl ?_
      refine TL.done ?_
      exact TC.retF (Fin.body (fin1 (.inr rfl) rfl (.tmp rfl) [] rfl ⟨rfl, rfl⟩))
    · refine TC.seq ?_
      refine TC.region ?_
      refine TL.move rfl rfl (v := .int .i64 in_1) rfl ?_
      refine TL.bin .i64 in_1 8 rfl rfl rfl rfl (v := .bool (decide (in_1 > 8))) rfl ?_
      refine TL.move rfl rfl (v := .bool (decide (in_1 > 8))) rfl ?_
      refine TL.cutU 3 [(24, .bool ((decide (in_1 > 8)) || (decide (out1 > 8)))), (0, .int .i64 p1), (1, .int .i64 n_1), (2, .int .i64 in_1), (3, .int .i64 out1), (8, .int .i64 0), (10, .int .i64 p1), (11, .bool r_1), (12, .bool (!r_1)), (13, .bool (!r_1)), (17, .bool b_1), (9, .bool b_1), (19, .int .i64 in_1), (20, .bool (decide (in_1 > 8))), (21, .bool (decide (in_1 > 8)))] [] ?_ ?_
      · refine TL.cases (t := 21) (b := (decide (in_1 > 8))) rfl (fun c5 => ?_) (fun c6 => ?_)
        · refine TL.skip rfl rfl (by decide) ?_
          refine TL.skip rfl rfl (by decide) ?_
          refine TL.pick rfl rfl (b := true) rfl (r := .bool true) rfl ?_
          refine TL.done ?_
          exact TC.nrm () () ⟨(by rw [c5]; rfl), rfl, rfl, rfl, rfl, rfl, rfl, rfl, rfl, rfl, rfl, rfl, rfl, rfl, (by rw [c5]; rfl), trivial⟩ [] (by kernel_rfl)
        · refine TL.move rfl rfl (v := .int .i64 out1) rfl ?_
          refine TL.bin .i64 out1 8 rfl rfl rfl rfl (v := .bool (decide (out1 > 8))) rfl ?_
          refine TL.pick rfl rfl (b := false) rfl (r := .bool (decide (out1 > 8))) rfl ?_
          refine TL.done ?_
          exact TC.nrm () () ⟨(by rw [c6]; rfl), rfl, rfl, rfl, rfl, rfl, rfl, rfl, rfl, rfl, rfl, rfl, rfl, rfl, (by rw [c6]; rfl), trivial⟩ [] (by kernel_rfl)
      · refine TL.move rfl rfl (v := .bool ((decide (in_1 > 8)) || (decide (out1 > 8)))) rfl ?_
        refine TL.cutJ (σ := Bool) (γ := Unit) (Γ' := fun b_2 _ => [(32, .bool b_2), (0, .int .i64 p1), (1, .int .i64 n_1), (2, .int .i64 in_1), (3, .int .i64 out1), (8, .int .i64 0), (10, .int .i64 p1), (11, .bool r_1), (12, .bool (!r_1)), (13, .bool (!r_1)), (17, .bool b_1), (9, .bool b_1), (19, .int .i64 in_1), (20, .bool (decide (in_1 > 8))), (21, .bool (decide (in_1 > 8))), (24, .bool ((decide (in_1 > 8)) || (decide (out1 > 8)))), (25, .bool ((decide (in_1 > 8)) || (decide (out1 > 8))))]) (L' := fun _ _ => []) 7 ?_ ?_
        · refine TL.ifb (t := 25) (b := ((decide (in_1 > 8)) || (decide (out1 > 8)))) rfl (fun c7 => ?_) (fun c8 => ?_)
          · refine TL.skip rfl rfl (by decide) ?_
            refine TL.skip rfl rfl (by decide) ?_
            refine TL.skip rfl rfl (by decide) ?_
            refine TL.skip rfl rfl (by decide) ?_
            refine TL.skip rfl rfl (by decide) ?_
            refine TL.skip rfl rfl (by decide) ?_
            refine TL.pick rfl rfl (b := true) rfl (r := .bool true) rfl ?_
            refine TL.done ?_
            exact TC.nrm (true) () ⟨rfl, rfl, rfl, rfl, rfl, rfl, rfl, rfl, rfl, rfl, rfl, rfl, rfl, rfl, rfl, rfl, (by rw [c7]; rfl), trivial⟩ [] (by kernel_rfl)
          · refine TL.move rfl rfl (v := .int .i64 n_1) rfl ?_
            refine TL.move rfl rfl (v := .int .i64 in_1) rfl ?_
            refine TL.move rfl rfl (v := .int .i64 out1) rfl ?_
            refine TL.bin .i64 in_1 out1 rfl rfl rfl rfl (v := .int .i64 (w64 (in_1 + out1))) rfl ?_
            refine TL.call (R := G.spec_l03Power.R) Try.call56 rfl rfl rfl (fun w hS => G.spec_l03Power.calls w n_1 (w64 (in_1 + out1))) ?_
            rintro r_3 _ _ ⟨rfl, rfl⟩
            refine TL.bin .i64 r_3 1296 rfl rfl rfl rfl (v := .bool (decide (r_3 > 1296))) rfl ?_
            refine TL.pick rfl rfl (b := false) rfl (r := .bool (decide (r_3 > 1296))) rfl ?_
            refine TL.done ?_
            exact TC.nrm ((decide (r_3 > 1296))) () ⟨rfl, rfl, rfl, rfl, rfl, rfl, rfl, rfl, rfl, rfl, rfl, rfl, rfl, rfl, rfl, rfl, (by rw [c8]; rfl), trivial⟩ [] (by kernel_rfl)
        · rintro b_2 _
          refine TL.assign rfl rfl (v := .bool b_2) rfl ?_
          refine TL.done ?_
          refine TC.cond (b := b_2) rfl (fun c9 => ?_) (fun c10 => ?_)
          · refine TC.seq ?_
            refine TC.region ?_
            refine TL.assign rfl rfl (v := .int .i64 3) rfl ?_
            refine TL.done ?_
            exact TC.retF (Fin.body (fin1 (.inr rfl) rfl (.tmp rfl) [] rfl ⟨rfl, rfl⟩))
          · refine TC.skip ?_
            refine TC.seq ?_
            refine TC.region ?_
            refine TL.assign rfl rfl (v := .int .i64 0) rfl ?_
            refine TL.done ?_
            exact TC.retF (Fin.body (fin1 (.inr rfl) rfl (.tmp rfl) [] rfl ⟨rfl, rfl⟩))

end Go.Proofs.Ytjjfoofjipafiaa.G

/- spec.l03Empty, as a pure function. -/
set_option linter.unusedVariables false
namespace Go.Proofs.Ytjjfoofjipafiaa.G
open Go Go.Sx Go.Proofs

def spec_l03Empty.f (p1 : Int) (n_1 : Int) (in_1 : Int) (out1 : Int) : Option (Int × Int × Int × Int × (List Int)) := (G.spec_l03Power.f n_1 (w64 (in_1 + out1))).bind (fun r_1 => grd (decide (0 ≤ r_1)) (small r_1.toNat (some (p1, n_1, in_1, out1, (List.replicate r_1.toNat (0 : Int))))))

def spec_l03Empty.R (r : Int × Int × Int × Int × (List Int)) (v : Value) (L : List Asn) : Prop := ∃ (s0 : SV), v = sval [.one (.int .i64 r.1), .one (.int .i64 r.2.1), .one (.int .i64 r.2.2.1), .one (.int .i64 r.2.2.2.1), .one (SV.v s0)] ∧ L = [row Ei 2 s0 r.2.2.2.2]

set_option maxRecDepth 100000 in
set_option maxHeartbeats 4000000 in
theorem spec_l03Empty.calls (w : World) (p1 : Int) (n_1 : Int) (in_1 : Int) (out1 : Int) :
    ∀ r, spec_l03Empty.f p1 n_1 in_1 out1 = some r → Calls Try.prog 45 #[.int .i64 p1, .int .i64 n_1, .int .i64 in_1, .int .i64 out1] w (Ret w (spec_l03Empty.R r)) := by

  refine calls_T (n := 20) (Γ := [(0, .int .i64 p1), (1, .int .i64 n_1), (2, .int .i64 in_1), (3, .int .i64 out1)]) (R := spec_l03Empty.R) Try.func45 rfl rfl (Nat.le_of_ble_eq_true rfl) ⟨rfl, rfl, rfl, rfl, trivial⟩ ?_
  unfold spec_l03Empty.f
  refine TC.seq ?_
  refine TC.region ?_
  refine TL.alloc [.one (.int .i64 0), .one (.int .i64 0), .one (.int .i64 0), .one (.int .i64 0), .one (SV.v ⟨none, 0, 0⟩)] rfl rfl Try.zeroValue24 rfl fun b_1 => ?_
  refine TL.done ?_
  refine TC.seq ?_
  refine TC.region ?_
  refine TL.move rfl rfl (v := .int .i64 p1) rfl ?_
  refine TL.move rfl rfl (v := .int .i64 n_1) rfl ?_
  refine TL.move rfl rfl (v := .int .i64 in_1) rfl ?_
  refine TL.move rfl rfl (v := .int .i64 out1) rfl ?_
  refine TL.move rfl rfl (v := .int .i64 n_1) rfl ?_
  refine TL.move rfl rfl (v := .int .i64 in_1) rfl ?_
  refine TL.move rfl rfl (v := .int .i64 out1) rfl ?_
  refine TL.bin .i64 in_1 out1 rfl rfl rfl rfl (v := .int .i64 (w64 (in_1 + out1))) rfl ?_
  refine TL.call (R := G.spec_l03Power.R) Try.call56 rfl rfl rfl (fun w hS => G.spec_l03Power.calls w n_1 (w64 (in_1 + out1))) ?_
  rintro r_1 _ _ ⟨rfl, rfl⟩
  refine TL.grd fun h2 => ?_
  refine TL.small fun h1 => ?_
  refine TL.mkslice Ei (0 : Int) r_1 Try.underlying22 (info_of Try.type2) (zv := (Try.t2.zero.getD (.bool false))) rfl rfl rfl (by simp [Ei, flat, Seg.cells]) (by decide) (by simpa using h2) (by omega) rfl rfl rfl rfl fun s1 => ?_
  refine TL.buildS (segs0 := [.one (.int .i64 0), .one (.int .i64 0), .one (.int .i64 0), .one (.int .i64 0), .one (SV.v ⟨none, 0, 0⟩)]) (segs := [.one (.int .i64 p1), .one (.int .i64 n_1), .one (.int .i64 in_1), .one (.int .i64 out1), .one (SV.v s1)]) [1, 1, 1, 1, 1] Try.underlying24 ⟨Try.sizeOf2, Try.sizeOf2, Try.sizeOf2, Try.sizeOf2, Try.sizeOf22, trivial⟩ Try.zeroValue24 rfl [(0, .int .i64 p1), (1, .int .i64 n_1), (2, .int .i64 in_1), (3, .int .i64 out1), (4, SV.v s1)] rfl (fun pl hpl => by subst hpl; exact fill_one 0 rfl rfl rfl rfl (fill_one 1 rfl rfl rfl rfl (fill_one 2 rfl rfl rfl rfl (fill_one 3 rfl rfl rfl rfl (fill_one 4 rfl rfl rfl rfl (rfl)))))) rfl rfl ?_
  refine TL.stM (news := [.one (.int .i64 p1), .one (.int .i64 n_1), .one (.int .i64 in_1), .one (.int .i64 out1), .one (SV.v s1)]) 1 0 5 rfl Try.sizeOf24 (ones_one rfl (ones_one rfl (ones_one rfl (ones_one rfl (ones_one rfl ones_nil))))) rfl rfl rfl rfl rfl rfl ?_
  refine TL.done ?_
  exact TC.retF (Fin.body (fin1 (.inr rfl) rfl (.cellN rfl (Src.box 1 rfl) Try.isAgg24 Try.sizeOf24 rfl) [0] rfl ⟨s1, rfl, rfl⟩))

end Go.Proofs.Ytjjfoofjipafiaa.G

/- impl.place, as a pure function. -/
set_option linter.unusedVariables false
namespace Go.Proofs.Ytjjfoofjipafiaa.G
open Go Go.Sx Go.Proofs

def impl_place.b0 (lists1 : List (List Int)) (x1 : Int) (n_1 : Int) : Int × Int → Option (LB (Int × Int)) := fun p => match p with | (out2, x2) => (bif (decide (x2 < ((gt lists1 x1).length : Int))) then chk x2 ((gt lists1 x1).length) (some (.next ((w64 ((w64 (out2 * n_1)) + (gt (gt lists1 x1) x2))), (w64 (x2 + 1))))) else some (.brk (out2, x2)))

def impl_place.b1 (lists1 : List (List Int)) (n_1 : Int) : Int × Int → Option (LB (Int × Int)) := fun p => match p with | (out1, x1) => (bif (decide (x1 < (lists1.length : Int))) then chk x1 lists1.length ((loop1 (impl_place.b0 lists1 x1 n_1) (out1, 0)).bind (fun p => match p with | (out2, x2) => some (.next (out2, (w64 (x1 + 1)))))) else some (.brk (out1, x1)))

def impl_place.f (n_1 : Int) (lists1 : List (List Int)) : Option Int := (loop1 (impl_place.b1 lists1 n_1) (0, 0)).bind (fun p => match p with | (out1, x1) => some out1)

def impl_place.R (r : Int) (v : Value) (L : List Asn) : Prop := v = .int .i64 r ∧ L = []

set_option maxRecDepth 100000 in
set_option maxHeartbeats 4000000 in
theorem impl_place.calls (w : World) (n_1 : Int) (s1 : SV) (ss1 : List SV) (lists1 : List (List Int)) (h1 : ReadsM Ei (hp w) s1 ss1 lists1) :
    ∀ r, impl_place.f n_1 lists1 = some r → Calls Try.prog 91 #[.int .i64 n_1, SV.v s1] w (Ret w (impl_place.R r)) := by

  refine calls_T (n := 30) (Γ := [(0, .int .i64 n_1), (1, SV.v s1)]) (R := impl_place.R) Try.func91 rfl rfl (Nat.le_of_ble_eq_true rfl) ⟨rfl, rfl, trivial⟩ ?_
  unfold impl_place.f
  refine TC.seq ?_
  refine TC.region ?_
  refine TL.assign rfl rfl (v := .int .i64 0) rfl ?_
  refine TL.done ?_
  refine TC.seq ?_
  refine TC.region ?_
  refine TL.assign rfl rfl (v := .int .i64 0) rfl ?_
  refine TL.done ?_
  refine TC.seq ?_
  refine TC.seq ?_
  refine TC.region ?_
  refine TL.move rfl rfl (v := SV.v s1) rfl ?_
  refine TL.lenM (RdM.old h1) Try.underlying96 rfl rfl rfl ?_
  refine TL.move rfl rfl (v := .int .i64 0) rfl ?_
  refine TL.done ?_
  refine TC.loop1 (σ := Int × Int) (γ := Unit) (Γ' := (fun p q => match p, q with | (out1, x1), _ => [(0, .int .i64 n_1), (5, .int .i64 out1), (10, SV.v s1), (11, .int .i64 (lists1.length : Int)), (12, .int .i64 x1)])) (L' := (fun p q => match p, q with | (out1, x1), _ => [])) (Γb := (fun p q => match p, q with | (out1, x1), _ => [(0, .int .i64 n_1), (5, .int .i64 out1), (10, SV.v s1), (11, .int .i64 (lists1.length : Int)), (12, .int .i64 x1)])) (Lb := (fun p q => match p, q with | (out1, x1), _ => [])) ((0, 0)) (()) ⟨rfl, rfl, rfl, rfl, rfl, trivial⟩ [] rfl ?_ ?_
  · rintro ⟨out1, x1⟩ _
    refine TC.seq ?_
    refine TC.region ?_
    refine TL.bin .i64 x1 (lists1.length : Int) rfl rfl rfl rfl (v := .bool (decide (x1 < (lists1.length : Int)))) rfl ?_
    refine TL.done ?_
    refine TC.seq ?_
    refine TC.cond (b := (decide (x1 < (lists1.length : Int)))) rfl (fun c1 => ?_) (fun c2 => ?_)
    · refine TC.skip ?_
      refine TC.seq ?_
      refine TC.block (NoEx.loop1 rfl) ?_
      refine TC.seq ?_
      refine TC.region ?_
      refine TL.chk fun h2 => ?_
      refine TL.ixsM x1 x1.toNat (RdM.old h1) h2 Try.underlying96 Try.sizeOf22 rfl rfl rfl rfl (by omega) ?_
      refine TL.loadM2 (RdM.old h1) Try.isAgg22 x1 h2 (by omega) rfl rfl rfl ?_
      refine TL.assign rfl rfl (v := SV.v (gt ss1 x1)) rfl ?_
      refine TL.done ?_
      refine TC.seq ?_
      refine TC.region ?_
      refine TL.move rfl rfl (v := SV.v (gt ss1 x1)) rfl ?_
      refine TL.len (RdM.inn (RdM.old h1) h2) Try.underlying22 rfl rfl rfl ?_
      refine TL.move rfl rfl (v := .int .i64 0) rfl ?_
      refine TL.done ?_
      refine TC.loop1 (σ := Int × Int) (γ := Unit) (Γ' := (fun p q => match p, q with | (out2, x2), _ => [(0, .int .i64 n_1), (5, .int .i64 out2), (10, SV.v s1), (11, .int .i64 (lists1.length : Int)), (12, .int .i64 x1), (16, SV.v (gt ss1 x1)), (17, .int .i64 ((gt lists1 x1).length : Int)), (18, .int .i64 x2)])) (L' := (fun p q => match p, q with | (out2, x2), _ => [])) (Γb := (fun p q => match p, q with | (out2, x2), _ => [(0, .int .i64 n_1), (5, .int .i64 out2), (10, SV.v s1), (11, .int .i64 (lists1.length : Int)), (12, .int .i64 x1), (16, SV.v (gt ss1 x1)), (17, .int .i64 ((gt lists1 x1).length : Int)), (18, .int .i64 x2)])) (Lb := (fun p q => match p, q with | (out2, x2), _ => [])) ((out1, 0)) (()) ⟨rfl, rfl, rfl, rfl, rfl, rfl, rfl, rfl, trivial⟩ [] rfl ?_ ?_
      · rintro ⟨out2, x2⟩ _
        refine TC.seq ?_
        refine TC.region ?_
        refine TL.bin .i64 x2 ((gt lists1 x1).length : Int) rfl rfl rfl rfl (v := .bool (decide (x2 < ((gt lists1 x1).length : Int)))) rfl ?_
        refine TL.done ?_
        refine TC.seq ?_
        refine TC.cond (b := (decide (x2 < ((gt lists1 x1).length : Int)))) rfl (fun c3 => ?_) (fun c4 => ?_)
        · refine TC.skip ?_
          refine TC.seq ?_
          refine TC.block (NoEx.loop1 rfl) ?_
          refine TC.seq ?_
          refine TC.region ?_
          refine TL.chk fun h3 => ?_
          refine TL.ixs x2 x2.toNat (RdM.inn (RdM.old h1) h2) h3 Try.underlying22 Try.sizeOf2 rfl rfl rfl rfl (by omega) ?_
          refine TL.loadE (RdM.inn (RdM.old h1) h2) Try.isAgg2 x2.toNat 0 (gt_spec h3) (v := .int .i64 (gt (gt lists1 x1) x2)) rfl (by simp only [show Ei.sz = 1 from rfl] <;> omega) rfl rfl rfl ?_
          refine TL.assign rfl rfl (v := .int .i64 (gt (gt lists1 x1) x2)) rfl ?_
          refine TL.done ?_
          refine TC.region ?_
          refine TL.move rfl rfl (v := .int .i64 out2) rfl ?_
          refine TL.move rfl rfl (v := .int .i64 n_1) rfl ?_
          refine TL.bin .i64 out2 n_1 rfl rfl rfl rfl (v := .int .i64 (w64 (out2 * n_1))) rfl ?_
          refine TL.move rfl rfl (v := .int .i64 (gt (gt lists1 x1) x2)) rfl ?_
          refine TL.bin .i64 (w64 (out2 * n_1)) (gt (gt lists1 x1) x2) rfl rfl rfl rfl (v := .int .i64 (w64 ((w64 (out2 * n_1)) + (gt (gt lists1 x1) x2)))) rfl ?_
          refine TL.assign rfl rfl (v := .int .i64 (w64 ((w64 (out2 * n_1)) + (gt (gt lists1 x1) x2)))) rfl ?_
          refine TL.done ?_
          refine TC.region ?_
          refine TL.bin .i64 x2 1 rfl rfl rfl rfl (v := .int .i64 (w64 (x2 + 1))) rfl ?_
          refine TL.move rfl rfl (v := .int .i64 (w64 (x2 + 1))) rfl ?_
          refine TL.done ?_
          exact TC.next1 (((w64 ((w64 (out2 * n_1)) + (gt (gt lists1 x1) x2))), (w64 (x2 + 1)))) (()) ⟨rfl, rfl, rfl, rfl, rfl, rfl, rfl, rfl, trivial⟩ [] rfl
        · exact TC.brk1 ((out2, x2)) (()) ⟨rfl, rfl, rfl, rfl, rfl, rfl, rfl, rfl, trivial⟩ [] rfl
      · rintro ⟨out2, x2⟩ _
        refine TC.region ?_
        refine TL.bin .i64 x1 1 rfl rfl rfl rfl (v := .int .i64 (w64 (x1 + 1))) rfl ?_
        refine TL.move rfl rfl (v := .int .i64 (w64 (x1 + 1))) rfl ?_
        refine TL.done ?_
        exact TC.next1 ((out2, (w64 (x1 + 1)))) (()) ⟨rfl, rfl, rfl, rfl, rfl, trivial⟩ [] rfl
    · exact TC.brk1 ((out1, x1)) (()) ⟨rfl, rfl, rfl, rfl, rfl, trivial⟩ [] rfl
  · rintro ⟨out1, x1⟩ _
    refine TC.seq ?_
    refine TC.region ?_
    refine TL.move rfl rfl (v := .int .i64 out1) rfl ?_
    refine TL.assign rfl rfl (v := .int .i64 out1) rfl ?_
    refine TL.done ?_
    exact TC.retF (Fin.body (fin1 (.inr rfl) rfl (.tmp rfl) [] rfl ⟨rfl, rfl⟩))

end Go.Proofs.Ytjjfoofjipafiaa.G

/- impl.Tensor).at, as a pure function. -/
set_option linter.unusedVariables false
namespace Go.Proofs.Ytjjfoofjipafiaa.G
open Go Go.Sx Go.Proofs

def impl_Tensor_at.f (t1 : Int) (t2 : Int) (t3 : Int) (t4 : Int) (t5 : List Int) (lists1 : List (List Int)) : Option Int := (G.impl_place.f t2 lists1).bind (fun r_1 => chk r_1 t5.length (some (gt t5 r_1)))

def impl_Tensor_at.R (r : Int) (v : Value) (L : List Asn) : Prop := v = .int .i64 r ∧ L = []

set_option maxRecDepth 100000 in
set_option maxHeartbeats 4000000 in
theorem impl_Tensor_at.calls (w : World) (b_1 : Nat) (t1 : Int) (t2 : Int) (t3 : Int) (t4 : Int) (s1 : SV) (t5 : List Int) (s2 : SV) (ss1 : List SV) (lists1 : List (List Int)) (h2 : At (hp w) b_1 [.one (.int .i64 t1), .one (.int .i64 t2), .one (.int .i64 t3), .one (.int .i64 t4), .one (SV.v s1)]) (h1 : Reads Ei (hp w) s1 t5) (h3 : ReadsM Ei (hp w) s2 ss1 lists1) :
    ∀ r, impl_Tensor_at.f t1 t2 t3 t4 t5 lists1 = some r → Calls Try.prog 59 #[bp b_1 0, SV.v s2] w (Ret w (impl_Tensor_at.R r)) := by

  refine calls_T (n := 17) (Γ := [(0, bp b_1 0), (1, SV.v s2)]) (R := impl_Tensor_at.R) Try.func59 rfl rfl (Nat.le_of_ble_eq_true rfl) ⟨rfl, rfl, trivial⟩ ?_
  unfold impl_Tensor_at.f
  refine TC.seq ?_
  refine TC.region ?_
  refine TL.assign rfl rfl (v := .int .i64 0) rfl ?_
  refine TL.done ?_
  refine TC.seq ?_
  refine TC.wk (Γ' := [(0, bp b_1 0), (1, SV.v s2)]) ⟨rfl, rfl, trivial⟩ ?_
  refine TC.bindE fun r_1 hr1 => ?_
  refine TC.chk fun h4 => ?_
  refine TC.draw [bp b_1 0, bp b_1 0, bp b_1 4, SV.v s1, bp b_1 0, bp b_1 0, bp b_1 1, .int .i64 t2, SV.v s2, .int .i64 r_1, ep s1 r_1.toNat, .int .i64 (gt t5 r_1), .int .i64 (gt t5 r_1)] 13 [] (by kernel_rfl) rfl rfl rfl rfl ?_ ?_
  · refine ⟨?_, ?_, ?_, ?_, ?_, ?_, ?_, ?_, ?_, ?_, ?_, ?_, ?_, trivial⟩
    · refine TL.move rfl rfl (v := bp b_1 0) rfl ?_
      refine TL.done ?_
      exact TC.nrm () () ⟨rfl, trivial⟩ [] (by kernel_rfl)
    · refine TL.nilCheck rfl rfl rfl ?_
      refine TL.done ?_
      exact TC.nrm () () ⟨rfl, trivial⟩ [] (by kernel_rfl)
    · refine TL.fa Try.underlying24 rfl Try.sizeOf22 rfl 4 rfl rfl rfl rfl ?_
      refine TL.done ?_
      exact TC.nrm () () ⟨rfl, trivial⟩ [] (by kernel_rfl)
    · refine TL.load1 4 (Src.at h2) Try.isAgg22 rfl rfl rfl rfl rfl ?_
      refine TL.done ?_
      exact TC.nrm () () ⟨rfl, trivial⟩ [] (by kernel_rfl)
    · refine TL.move rfl rfl (v := bp b_1 0) rfl ?_
      refine TL.done ?_
      exact TC.nrm () () ⟨rfl, trivial⟩ [] (by kernel_rfl)
    · refine TL.nilCheck rfl rfl rfl ?_
      refine TL.done ?_
      exact TC.nrm () () ⟨rfl, trivial⟩ [] (by kernel_rfl)
    · refine TL.fa Try.underlying24 rfl Try.sizeOf2 rfl 1 rfl rfl rfl rfl ?_
      refine TL.done ?_
      exact TC.nrm () () ⟨rfl, trivial⟩ [] (by kernel_rfl)
    · refine TL.load1 1 (Src.at h2) Try.isAgg2 rfl rfl rfl rfl rfl ?_
      refine TL.done ?_
      exact TC.nrm () () ⟨rfl, trivial⟩ [] (by kernel_rfl)
    · refine TL.move rfl rfl (v := SV.v s2) rfl ?_
      refine TL.done ?_
      exact TC.nrm () () ⟨rfl, trivial⟩ [] (by kernel_rfl)
    · refine TL.callH (R := G.impl_place.R) hr1 Try.call91 rfl rfl rfl (fun w hS => G.impl_place.calls w t2 s2 ss1 lists1 ((RdM.old h3) w hS)) ?_
      rintro _ _ ⟨rfl, rfl⟩
      refine TL.done ?_
      exact TC.nrm () () ⟨rfl, trivial⟩ [] (by kernel_rfl)
    · refine TL.ixs r_1 r_1.toNat (Rd.old h1) h4 Try.underlying22 Try.sizeOf2 rfl rfl rfl rfl (by omega) ?_
      refine TL.done ?_
      exact TC.nrm () () ⟨rfl, trivial⟩ [] (by kernel_rfl)
    · refine TL.loadE (Rd.old h1) Try.isAgg2 r_1.toNat 0 (gt_spec h4) (v := .int .i64 (gt t5 r_1)) rfl (by simp only [show Ei.sz = 1 from rfl] <;> omega) rfl rfl rfl ?_
      refine TL.done ?_
      exact TC.nrm () () ⟨rfl, trivial⟩ [] (by kernel_rfl)
    · refine TL.assign rfl rfl (v := .int .i64 (gt t5 r_1)) rfl ?_
      refine TL.done ?_
      exact TC.nrm () () ⟨rfl, trivial⟩ [] (by kernel_rfl)
  · exact TC.retF (Fin.body (fin1 (.inr rfl) rfl (.tmp rfl) [] rfl ⟨rfl, rfl⟩))

end Go.Proofs.Ytjjfoofjipafiaa.G

/- laws.heldTensor, as a pure function. -/
set_option linter.unusedVariables false
namespace Go.Proofs.Ytjjfoofjipafiaa.G
open Go Go.Sx Go.Proofs

def laws_heldTensor.f (a_1 : Int) (a_2 : Int) (a_3 : Int) (a_4 : Int) (a_5 : List Int) (k_1 : Int) : Option Int := (G.laws_heldInt64S.f a_5 k_1).bind (fun r_1 => (bif (decide (r_1 < 0)) then some (-1) else some r_1))

def laws_heldTensor.R (r : Int) (v : Value) (L : List Asn) : Prop := v = .int .i64 r ∧ L = []

set_option maxRecDepth 100000 in
set_option maxHeartbeats 4000000 in
theorem laws_heldTensor.calls (w : World) (a_1 : Int) (a_2 : Int) (a_3 : Int) (a_4 : Int) (s1 : SV) (a_5 : List Int) (k_1 : Int) (h1 : Reads Ei (hp w) s1 a_5) :
    ∀ r, laws_heldTensor.f a_1 a_2 a_3 a_4 a_5 k_1 = some r → Calls Try.prog 16 #[sval [.one (.int .i64 a_1), .one (.int .i64 a_2), .one (.int .i64 a_3), .one (.int .i64 a_4), .one (SV.v s1)], .int .i64 k_1] w (Ret w (laws_heldTensor.R r)) := by

  refine calls_T (n := 12) (Γ := [(0, sval [.one (.int .i64 a_1), .one (.int .i64 a_2), .one (.int .i64 a_3), .one (.int .i64 a_4), .one (SV.v s1)]), (1, .int .i64 k_1)]) (R := laws_heldTensor.R) Try.func16 rfl rfl (Nat.le_of_ble_eq_true rfl) ⟨rfl, rfl, trivial⟩ ?_
  unfold laws_heldTensor.f
  refine TC.seq ?_
  refine TC.region ?_
  refine TL.box [.one (.int .i64 a_1), .one (.int .i64 a_2), .one (.int .i64 a_3), .one (.int .i64 a_4), .one (SV.v s1)] rfl rfl rfl rfl fun b_1 => ?_
  refine TL.assign rfl rfl (v := .int .i64 0) rfl ?_
  refine TL.done ?_
  refine TC.seq ?_
  refine TC.region ?_
  refine TL.fa Try.underlying24 rfl Try.sizeOf22 rfl 4 rfl rfl rfl rfl ?_
  refine TL.load1 4 (Src.box 0 rfl) Try.isAgg22 rfl rfl rfl rfl rfl ?_
  refine TL.move rfl rfl (v := .int .i64 k_1) rfl ?_
  refine TL.call (R := G.laws_heldInt64S.R) Try.call37 rfl rfl rfl (fun w hS => G.laws_heldInt64S.calls w s1 a_5 k_1 ((Rd.old h1) w hS)) ?_
  rintro r_1 _ _ ⟨rfl, rfl⟩
  refine TL.assign rfl rfl (v := .int .i64 r_1) rfl ?_
  refine TL.done ?_
  refine TC.seq ?_
  refine TC.seq ?_
  refine TC.region ?_
  refine TL.move rfl rfl (v := .int .i64 r_1) rfl ?_
  refine TL.bin .i64 r_1 0 rfl rfl rfl rfl (v := .bool (decide (r_1 < 0))) rfl ?_
  refine TL.done ?_
  refine TC.cond (b := (decide (r_1 < 0))) rfl (fun c1 => ?_) (fun c2 => ?_)
  · refine TC.seq ?_
    refine TC.region ?_
    refine TL.assign rfl rfl (v := .int .i64 (-1)) rfl ?_
    refine TL.done ?_
    exact TC.retF (Fin.body (fin1 (.inr rfl) rfl (.tmp rfl) [] rfl ⟨rfl, rfl⟩))
  · refine TC.skip ?_
    refine TC.seq ?_
    refine TC.region ?_
    refine TL.move rfl rfl (v := .int .i64 r_1) rfl ?_
    refine TL.assign rfl rfl (v := .int .i64 r_1) rfl ?_
    refine TL.done ?_
    exact TC.retF (Fin.body (fin1 (.inr rfl) rfl (.tmp rfl) [] rfl ⟨rfl, rfl⟩))

end Go.Proofs.Ytjjfoofjipafiaa.G
