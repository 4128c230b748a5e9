/- Functions of the program, as pure functions. -/
import Derived.Test.YtjjfoofjipafiaaMPermuteTensor3
import Derived.Test.YtjjfoofjipafiaaProg
/- laws.FnExactPermuteTensor, as a pure function. -/
set_option linter.unusedVariables false
namespace Go.Proofs.Ytjjfoofjipafiaa.G
open Go Go.Sx Go.Proofs

def laws_FnExactPermuteTensor.f (x1 : Int) (x2 : Int) (x3 : Int) (x4 : Int) (x5 : List Int) (x6 : List Int) (x7 : List Int) : Option Bool := (bif (decide ((x6.length : Int) > 1048576)) then some true else (bif (decide ((x7.length : Int) > 1048576)) then some true else (G.laws_szTensor.f x1 x2 x3 x4 x5 1048576).bind (fun r_1 => (bif (decide (r_1 < 0)) then some true else (G.laws_toTensor.f x1 x2 x3 x4 x5).bind (fun p => match p with | (r_2, r_3, r_4, r_5, r_6) => (G.laws_toInt64S.f x6).bind (fun r_7 => (G.laws_toInt64S.f x7).bind (fun r_8 => (G.spec_PermuteTensor.f r_2 r_3 r_4 r_5 r_6 r_7 r_8).bind (fun p => match p with | (r_9, r_10, r_11, r_12, r_13, r_14) => (G.laws_toTensor.f x1 x2 x3 x4 x5).bind (fun p => match p with | (r_15, r_16, r_17, r_18, r_19) => (G.laws_toInt64S.f x6).bind (fun r_20 => (G.laws_toInt64S.f x7).bind (fun r_21 => (G.impl_PermuteTensor.f r_15 r_16 r_17 r_18 r_19 r_20 r_21).bind (fun p => match p with | (r_22, r_23, r_24, r_25, r_26, r_27) => (G.laws_eqTensor.f r_22 r_23 r_24 r_25 r_26 r_9 r_10 r_11 r_12 r_13).bind (fun r_28 => (bif ((!r_28) || (r_27 != r_14)) then some false else (G.laws_toTensor.f x1 x2 x3 x4 x5).bind (fun p => match p with | (r_29, r_30, r_31, r_32, r_33) => (G.laws_eqTensor.f r_15 r_16 r_17 r_18 r_19 r_29 r_30 r_31 r_32 r_33).bind (fun r_34 => (bif (!r_34) then some false else (G.laws_toInt64S.f x6).bind (fun r_35 => (G.laws_eqInt64S.f r_20 r_35).bind (fun r_36 => (bif (!r_36) then some false else (G.laws_toInt64S.f x7).bind (fun r_37 => (G.laws_eqInt64S.f r_21 r_37).bind (fun r_38 => (bif (!r_38) then some false else (G.laws_markTensor.f r_15 r_16 r_17 r_18 r_19 1).bind (fun p => match p with | (r_39, l1) => (G.laws_markInt64S.f r_20 r_39).bind (fun p => match p with | (r_40, l2) => (G.laws_markInt64S.f r_21 r_40).bind (fun p => match p with | (r_41, l3) => (bif (decide (r_41 < 0)) then some true else (G.laws_eqTensor.f r_22 r_23 r_24 r_25 r_26 r_9 r_10 r_11 r_12 r_13).bind (fun r_42 => some (!r_42))).bind (fun b_5 => (bif (b_5 || (r_27 != r_14)) then some false else (G.laws_markTensor.f r_22 r_23 r_24 r_25 r_26 1).bind (fun p => match p with | (r_43, l4) => (G.laws_heldTensor.f r_22 r_23 r_24 r_25 l4 1).bind (fun r_44 => (bif (decide (r_44 < 0)) then some false else (bif (r_44 != r_43) then some false else (G.laws_toTensor.f x1 x2 x3 x4 x5).bind (fun p => match p with | (r_45, r_46, r_47, r_48, r_49) => (G.laws_toInt64S.f x6).bind (fun r_50 => (G.laws_toInt64S.f x7).bind (fun r_51 => (G.impl_PermuteTensor.f r_45 r_46 r_47 r_48 r_49 r_50 r_51).bind (fun p => match p with | (r_52, r_53, r_54, r_55, r_56, r_57) => (G.laws_eqTensor.f r_52 r_53 r_54 r_55 r_56 r_9 r_10 r_11 r_12 r_13).bind (fun r_58 => (bif ((!r_58) || (r_57 != r_14)) then some false else (G.laws_heldTensor.f r_22 r_23 r_24 r_25 l4 1).bind (fun r_59 => (bif (decide (r_59 < 0)) then some false else (bif (r_59 != r_43) then some false else some true)))))))))))))))))))))))))))))))))))))))))

def laws_FnExactPermuteTensor.R (r : Bool) (v : Value) (L : List Asn) : Prop := v = .bool r ∧ L = []

set_option maxRecDepth 100000 in
set_option maxHeartbeats 4000000 in
theorem laws_FnExactPermuteTensor.calls (w : World) (x1 : Int) (x2 : Int) (x3 : Int) (x4 : Int) (s1 : SV) (x5 : List Int) (s2 : SV) (x6 : List Int) (s3 : SV) (x7 : List Int) (h1 : Reads Ei (hp w) s1 x5) (h2 : Reads Ei (hp w) s2 x6) (h3 : Reads Ei (hp w) s3 x7) :
    ∀ r, laws_FnExactPermuteTensor.f x1 x2 x3 x4 x5 x6 x7 = some r → Calls Try.prog 10 #[sval [.one (.int .i64 x1), .one (.int .i64 x2), .one (.int .i64 x3), .one (.int .i64 x4), .one (SV.v s1)], SV.v s2, SV.v s3] w (Ret w (laws_FnExactPermuteTensor.R r)) := by

  refine calls_T (n := 138) (Γ := [(0, sval [.one (.int .i64 x1), .one (.int .i64 x2), .one (.int .i64 x3), .one (.int .i64 x4), .one (SV.v s1)]), (1, SV.v s2), (2, SV.v s3)]) (R := laws_FnExactPermuteTensor.R) Try.func10 rfl rfl (Nat.le_of_ble_eq_true rfl) ⟨rfl, rfl, rfl, trivial⟩ ?_
  unfold laws_FnExactPermuteTensor.f
  refine TC.seq ?_
  refine TC.region ?_
  refine TL.box [.one (.int .i64 x1), .one (.int .i64 x2), .one (.int .i64 x3), .one (.int .i64 x4), .one (SV.v s1)] rfl rfl rfl rfl fun b_1 => ?_
  refine TL.assign rfl rfl (v := .bool false) rfl ?_
  refine TL.done ?_
  refine TC.seq ?_
  refine TC.seq ?_
  refine TC.region ?_
  refine TL.move rfl rfl (v := SV.v s2) rfl ?_
  refine TL.len (Rd.old h2) Try.underlying22 rfl rfl rfl ?_
  refine TL.bin .i64 (x6.length : Int) 1048576 rfl rfl rfl rfl (v := .bool (decide ((x6.length : Int) > 1048576))) rfl ?_
  refine TL.done ?_
  refine TC.cond (b := (decide ((x6.length : Int) > 1048576))) rfl (fun c1 => ?_) (fun c2 => ?_)
  · refine TC.seq ?_
    refine TC.region ?_
    refine TL.assign rfl rfl (v := .bool true) rfl ?_
    refine TL.done ?_
    exact TC.retF (Fin.body (fin1 (.inr rfl) rfl (.tmp rfl) [] rfl ⟨rfl, rfl⟩))
  · refine TC.skip ?_
    refine TC.seq ?_
    refine TC.seq ?_
    refine TC.region ?_
    refine TL.move rfl rfl (v := SV.v s3) rfl ?_
    refine TL.len (Rd.old h3) Try.underlying22 rfl rfl rfl ?_
    refine TL.bin .i64 (x7.length : Int) 1048576 rfl rfl rfl rfl (v := .bool (decide ((x7.length : Int) > 1048576))) rfl ?_
    refine TL.done ?_
    refine TC.cond (b := (decide ((x7.length : Int) > 1048576))) rfl (fun c3 => ?_) (fun c4 => ?_)
    · refine TC.seq ?_
      refine TC.region ?_
      refine TL.assign rfl rfl (v := .bool true) rfl ?_
      refine TL.done ?_
      exact TC.retF (Fin.body (fin1 (.inr rfl) rfl (.tmp rfl) [] rfl ⟨rfl, rfl⟩))
    · refine TC.skip ?_
      refine TC.seq ?_
      refine TC.region ?_
      refine TL.assign rfl rfl (v := .int .i64 1048576) rfl ?_
      refine TL.done ?_
      refine TC.seq ?_
      refine TC.region ?_
      refine TL.loadM 0 5 (Src.box 0 rfl) Try.isAgg32 Try.sizeOf32 (mid := [.one (.int .i64 x1), .one (.int .i64 x2), .one (.int .i64 x3), .one (.int .i64 x4), .one (SV.v s1)]) rfl rfl rfl rfl rfl rfl ?_
      refine TL.move rfl rfl (v := .int .i64 1048576) rfl ?_
      refine TL.call (R := G.laws_szTensor.R) Try.call19 rfl rfl rfl (fun w hS => G.laws_szTensor.calls w x1 x2 x3 x4 s1 x5 1048576 ((Rd.old h1) w hS)) ?_
      rintro r_1 _ _ ⟨rfl, rfl⟩
      refine TL.assign rfl rfl (v := .int .i64 r_1) rfl ?_
      refine TL.done ?_
      refine TC.seq ?_
      refine TC.seq ?_
      refine TC.region ?_
      refine TL.move rfl rfl (v := .int .i64 r_1) rfl ?_
      refine TL.bin .i64 r_1 0 rfl rfl rfl rfl (v := .bool (decide (r_1 < 0))) rfl ?_
      refine TL.done ?_
      refine TC.cond (b := (decide (r_1 < 0))) rfl (fun c5 => ?_) (fun c6 => ?_)
      · refine TC.seq ?_
        refine TC.region ?_
        refine TL.assign rfl rfl (v := .bool true) rfl ?_
        refine TL.done ?_
        exact TC.retF (Fin.body (fin1 (.inr rfl) rfl (.tmp rfl) [] rfl ⟨rfl, rfl⟩))
      · refine TC.skip ?_
        refine TC.seq ?_
        refine TC.region ?_
        refine TL.loadM 0 5 (Src.box 0 rfl) Try.isAgg32 Try.sizeOf32 (mid := [.one (.int .i64 x1), .one (.int .i64 x2), .one (.int .i64 x3), .one (.int .i64 x4), .one (SV.v s1)]) rfl rfl rfl rfl rfl rfl ?_
        refine TL.call (R := G.laws_toTensor.R) Try.call21 rfl rfl rfl (fun w hS => G.laws_toTensor.calls w x1 x2 x3 x4 s1 x5 ((Rd.old h1) w hS)) ?_
        rintro ⟨r_2, r_3, r_4, r_5, r_6⟩ _ _ ⟨s4, rfl, rfl⟩
        refine TL.move rfl rfl (v := SV.v s2) rfl ?_
        refine TL.call (R := G.laws_toInt64S.R) Try.call39 rfl rfl rfl (fun w hS => G.laws_toInt64S.calls w s2 x6 ((Rd.old h2) w hS)) ?_
        rintro r_7 _ _ ⟨s5, rfl, rfl⟩
        refine TL.move rfl rfl (v := SV.v s3) rfl ?_
        refine TL.call (R := G.laws_toInt64S.R) Try.call39 rfl rfl rfl (fun w hS => G.laws_toInt64S.calls w s3 x7 ((Rd.old h3) w hS)) ?_
        rintro r_8 _ _ ⟨s6, rfl, rfl⟩
        refine TL.call (R := G.spec_PermuteTensor.R) Try.call38 rfl rfl rfl (fun w hS => G.spec_PermuteTensor.calls w r_2 r_3 r_4 r_5 s4 r_6 s5 r_7 s6 r_8 ((Rd.row 2 rfl) w hS) ((Rd.row 1 rfl) w hS) ((Rd.row 0 rfl) w hS)) ?_
        rintro ⟨r_9, r_10, r_11, r_12, r_13, r_14⟩ _ _ ⟨s7, rfl, rfl⟩
        refine TL.move rfl rfl (v := .tuple #[sval [.one (.int .i64 r_9), .one (.int .i64 r_10), .one (.int .i64 r_11), .one (.int .i64 r_12), .one (SV.v s7)], .int .i64 r_14]) rfl ?_
        refine TL.extract rfl rfl rfl (v := sval [.one (.int .i64 r_9), .one (.int .i64 r_10), .one (.int .i64 r_11), .one (.int .i64 r_12), .one (SV.v s7)]) rfl ?_
        refine TL.extract rfl rfl rfl (v := .int .i64 r_14) rfl ?_
        refine TL.alloc [.one (.int .i64 0), .one (.int .i64 0), .one (.int .i64 0), .one (.int .i64 0), .one (SV.v ⟨none, 0, 0⟩)] rfl rfl Try.zeroValue24 rfl fun b_2 => ?_
        refine TL.stM (news := [.one (.int .i64 r_9), .one (.int .i64 r_10), .one (.int .i64 r_11), .one (.int .i64 r_12), .one (SV.v s7)]) 0 0 5 rfl Try.sizeOf24 (ones_one rfl (ones_one rfl (ones_one rfl (ones_one rfl (ones_one rfl ones_nil))))) rfl rfl rfl rfl rfl rfl ?_
        refine TL.assign rfl rfl (v := .int .i64 r_14) rfl ?_
        refine TL.done ?_
        refine TC.seq ?_
        refine TC.region ?_
        refine TL.loadM 0 5 (Src.box 5 rfl) Try.isAgg32 Try.sizeOf32 (mid := [.one (.int .i64 x1), .one (.int .i64 x2), .one (.int .i64 x3), .one (.int .i64 x4), .one (SV.v s1)]) rfl rfl rfl rfl rfl rfl ?_
        refine TL.call (R := G.laws_toTensor.R) Try.call21 rfl rfl rfl (fun w hS => G.laws_toTensor.calls w x1 x2 x3 x4 s1 x5 ((Rd.old h1) w hS)) ?_
        rintro ⟨r_15, r_16, r_17, r_18, r_19⟩ _ _ ⟨s8, rfl, rfl⟩
        refine TL.alloc [.one (.int .i64 0), .one (.int .i64 0), .one (.int .i64 0), .one (.int .i64 0), .one (SV.v ⟨none, 0, 0⟩)] rfl rfl Try.zeroValue24 rfl fun b_3 => ?_
        refine TL.stM (news := [.one (.int .i64 r_15), .one (.int .i64 r_16), .one (.int .i64 r_17), .one (.int .i64 r_18), .one (SV.v s8)]) 0 0 5 rfl Try.sizeOf24 (ones_one rfl (ones_one rfl (ones_one rfl (ones_one rfl (ones_one rfl ones_nil))))) rfl rfl rfl rfl rfl rfl ?_
        refine TL.done ?_
        refine TC.seq ?_
        refine TC.region ?_
        refine TL.move rfl rfl (v := SV.v s2) rfl ?_
        refine TL.call (R := G.laws_toInt64S.R) Try.call39 rfl rfl rfl (fun w hS => G.laws_toInt64S.calls w s2 x6 ((Rd.old h2) w hS)) ?_
        rintro r_20 _ _ ⟨s9, rfl, rfl⟩
        refine TL.assign rfl rfl (v := SV.v s9) rfl ?_
        refine TL.done ?_
        refine TC.seq ?_
        refine TC.region ?_
        refine TL.move rfl rfl (v := SV.v s3) rfl ?_
        refine TL.call (R := G.laws_toInt64S.R) Try.call39 rfl rfl rfl (fun w hS => G.laws_toInt64S.calls w s3 x7 ((Rd.old h3) w hS)) ?_
        rintro r_21 _ _ ⟨s10, rfl, rfl⟩
        refine TL.assign rfl rfl (v := SV.v s10) rfl ?_
        refine TL.done ?_
        refine TC.seq ?_
        refine TC.region ?_
        refine TL.loadM 0 5 (Src.box 2 rfl) Try.isAgg24 Try.sizeOf24 (mid := [.one (.int .i64 r_15), .one (.int .i64 r_16), .one (.int .i64 r_17), .one (.int .i64 r_18), .one (SV.v s8)]) rfl rfl rfl rfl rfl rfl ?_
        refine TL.move rfl rfl (v := SV.v s9) rfl ?_
        refine TL.move rfl rfl (v := SV.v s10) rfl ?_
        refine TL.call (R := G.impl_PermuteTensor.R) Try.call40 rfl rfl rfl (fun w hS => G.impl_PermuteTensor.calls w r_15 r_16 r_17 r_18 s8 r_19 s9 r_20 s10 r_21 ((Rd.row 3 rfl) w hS) ((Rd.row 1 rfl) w hS) ((Rd.row 0 rfl) w hS)) ?_
        rintro ⟨r_22, r_23, r_24, r_25, r_26, r_27⟩ _ _ ⟨s11, rfl, rfl⟩
        refine TL.move rfl rfl (v := .tuple #[sval [.one (.int .i64 r_22), .one (.int .i64 r_23), .one (.int .i64 r_24), .one (.int .i64 r_25), .one (SV.v s11)], .int .i64 r_27]) rfl ?_
        refine TL.extract rfl rfl rfl (v := sval [.one (.int .i64 r_22), .one (.int .i64 r_23), .one (.int .i64 r_24), .one (.int .i64 r_25), .one (SV.v s11)]) rfl ?_
        refine TL.extract rfl rfl rfl (v := .int .i64 r_27) rfl ?_
        refine TL.alloc [.one (.int .i64 0), .one (.int .i64 0), .one (.int .i64 0), .one (.int .i64 0), .one (SV.v ⟨none, 0, 0⟩)] rfl rfl Try.zeroValue24 rfl fun b_4 => ?_
        refine TL.stM (news := [.one (.int .i64 r_22), .one (.int .i64 r_23), .one (.int .i64 r_24), .one (.int .i64 r_25), .one (SV.v s11)]) 0 0 5 rfl Try.sizeOf24 (ones_one rfl (ones_one rfl (ones_one rfl (ones_one rfl (ones_one rfl ones_nil))))) rfl rfl rfl rfl rfl rfl ?_
        refine TL.assign rfl rfl (v := .int .i64 r_27) rfl ?_
        refine TL.done ?_
        refine TC.seq ?_
        refine TC.seq ?_
        refine TC.region ?_
        refine TL.loadM 0 5 (Src.box 0 rfl) Try.isAgg24 Try.sizeOf24 (mid := [.one (.int .i64 r_22), .one (.int .i64 r_23), .one (.int .i64 r_24), .one (.int .i64 r_25), .one (SV.v s11)]) rfl rfl rfl rfl rfl rfl ?_
        refine TL.loadM 0 5 (Src.box 6 rfl) Try.isAgg24 Try.sizeOf24 (mid := [.one (.int .i64 r_9), .one (.int .i64 r_10), .one (.int .i64 r_11), .one (.int .i64 r_12), .one (SV.v s7)]) rfl rfl rfl rfl rfl rfl ?_
        refine TL.call (R := G.laws_eqTensor.R) Try.call14 rfl rfl rfl (fun w hS => G.laws_eqTensor.calls w r_22 r_23 r_24 r_25 s11 r_26 r_9 r_10 r_11 r_12 s7 r_13 ((Rd.row 1 rfl) w hS) ((Rd.row 7 rfl) w hS)) ?_
        rintro r_28 _ _ ⟨rfl, rfl⟩
        refine TL.not r_28 rfl rfl rfl ?_
        refine TL.move rfl rfl (v := .bool (!r_28)) rfl ?_
        refine TL.cutU 4 [(62, .bool ((!r_28) || (r_27 != r_14))), (0, sval [.one (.int .i64 x1), .one (.int .i64 x2), .one (.int .i64 x3), .one (.int .i64 x4), .one (SV.v s1)]), (1, SV.v s2), (2, SV.v s3), (3, bp b_1 0), (6, .bool false), (20, SV.v s2), (21, .int .i64 (x6.length : Int)), (22, .bool (decide ((x6.length : Int) > 1048576))), (23, SV.v s3), (24, .int .i64 (x7.length : Int)), (25, .bool (decide ((x7.length : Int) > 1048576))), (7, .int .i64 r_1), (26, sval [.one (.int .i64 x1), .one (.int .i64 x2), .one (.int .i64 x3), .one (.int .i64 x4), .one (SV.v s1)]), (27, .int .i64 1048576), (28, .int .i64 r_1), (29, .int .i64 r_1), (30, .bool (decide (r_1 < 0))), (32, sval [.one (.int .i64 x1), .one (.int .i64 x2), .one (.int .i64 x3), .one (.int .i64 x4), .one (SV.v s1)]), (33, sval [.one (.int .i64 r_2), .one (.int .i64 r_3), .one (.int .i64 r_4), .one (.int .i64 r_5), .one (SV.v s4)]), (34, SV.v s2), (35, SV.v s5), (36, SV.v s3), (37, SV.v s6), (38, .tuple #[sval [.one (.int .i64 r_9), .one (.int .i64 r_10), .one (.int .i64 r_11), .one (.int .i64 r_12), .one (SV.v s7)], .int .i64 r_14]), (31, .tuple #[sval [.one (.int .i64 r_9), .one (.int .i64 r_10), .one (.int .i64 r_11), .one (.int .i64 r_12), .one (SV.v s7)], .int .i64 r_14]), (39, sval [.one (.int .i64 r_9), .one (.int .i64 r_10), .one (.int .i64 r_11), .one (.int .i64 r_12), .one (SV.v s7)]), (40, .int .i64 r_14), (8, bp b_2 0), (9, .int .i64 r_14), (41, sval [.one (.int .i64 x1), .one (.int .i64 x2), .one (.int .i64 x3), .one (.int .i64 x4), .one (SV.v s1)]), (42, sval [.one (.int .i64 r_15), .one (.int .i64 r_16), .one (.int .i64 r_17), .one (.int .i64 r_18), .one (SV.v s8)]), (10, bp b_3 0), (43, SV.v s2), (44, SV.v s9), (11, SV.v s9), (45, SV.v s3), (46, SV.v s10), (12, SV.v s10), (48, sval [.one (.int .i64 r_15), .one (.int .i64 r_16), .one (.int .i64 r_17), .one (.int .i64 r_18), .one (SV.v s8)]), (49, SV.v s9), (50, SV.v s10), (51, .tuple #[sval [.one (.int .i64 r_22), .one (.int .i64 r_23), .one (.int .i64 r_24), .one (.int .i64 r_25), .one (SV.v s11)], .int .i64 r_27]), (47, .tuple #[sval [.one (.int .i64 r_22), .one (.int .i64 r_23), .one (.int .i64 r_24), .one (.int .i64 r_25), .one (SV.v s11)], .int .i64 r_27]), (52, sval [.one (.int .i64 r_22), .one (.int .i64 r_23), .one (.int .i64 r_24), .one (.int .i64 r_25), .one (SV.v s11)]), (53, .int .i64 r_27), (13, bp b_4 0), (14, .int .i64 r_27), (54, sval [.one (.int .i64 r_22), .one (.int .i64 r_23), .one (.int .i64 r_24), .one (.int .i64 r_25), .one (SV.v s11)]), (55, sval [.one (.int .i64 r_9), .one (.int .i64 r_10), .one (.int .i64 r_11), .one (.int .i64 r_12), .one (SV.v s7)]), (56, .bool r_28), (57, .bool (!r_28)), (58, .bool (!r_28))] [box b_4 24 [.one (.int .i64 r_22), .one (.int .i64 r_23), .one (.int .i64 r_24), .one (.int .i64 r_25), .one (SV.v s11)], row Ei 2 s11 r_26, row Ei 2 s10 r_21, row Ei 2 s9 r_20, box b_3 24 [.one (.int .i64 r_15), .one (.int .i64 r_16), .one (.int .i64 r_17), .one (.int .i64 r_18), .one (SV.v s8)], row Ei 2 s8 r_19, box b_2 24 [.one (.int .i64 r_9), .one (.int .i64 r_10), .one (.int .i64 r_11), .one (.int .i64 r_12), .one (SV.v s7)], row Ei 2 s7 r_13, row Ei 2 s6 r_8, row Ei 2 s5 r_7, row Ei 2 s4 r_6, box b_1 32 [.one (.int .i64 x1), .one (.int .i64 x2), .one (.int .i64 x3), .one (.int .i64 x4), .one (SV.v s1)]] ?_ ?_
        · refine TL.cases (t := 58) (b := (!r_28)) rfl (fun c7 => ?_) (fun c8 => ?_)
          · refine TL.skip rfl rfl (by decide) ?_
            refine TL.skip rfl rfl (by decide) ?_
            refine TL.skip rfl rfl (by decide) ?_
            refine TL.pick rfl rfl (b := true) rfl (r := .bool true) rfl ?_
            refine TL.done ?_
            exact TC.nrm () () ⟨(by rw [c7]; rfl), rfl, rfl, rfl, rfl, rfl, rfl, rfl, rfl, rfl, rfl, rfl, rfl, rfl, rfl, rfl, rfl, rfl, rfl, rfl, rfl, rfl, rfl, rfl, rfl, rfl, rfl, rfl, rfl, rfl, rfl, rfl, rfl, rfl, rfl, rfl, rfl, rfl, rfl, rfl, rfl, rfl, rfl, rfl, rfl, rfl, rfl, rfl, rfl, rfl, rfl, rfl, (by rw [c7]; rfl), trivial⟩ [0, 0, 0, 0, 0, 0, 0, 0, 0, 0, 0, 0] (by kernel_rfl)
          · refine TL.move rfl rfl (v := .int .i64 r_27) rfl ?_
            refine TL.move rfl rfl (v := .int .i64 r_14) rfl ?_
            refine TL.bin .i64 r_27 r_14 rfl rfl rfl rfl (v := .bool (r_27 != r_14)) rfl ?_
            refine TL.pick rfl rfl (b := false) rfl (r := .bool (r_27 != r_14)) rfl ?_
            refine TL.done ?_
            exact TC.nrm () () ⟨(by rw [c8]; rfl), rfl, rfl, rfl, rfl, rfl, rfl, rfl, rfl, rfl, rfl, rfl, rfl, rfl, rfl, rfl, rfl, rfl, rfl, rfl, rfl, rfl, rfl, rfl, rfl, rfl, rfl, rfl, rfl, rfl, rfl, rfl, rfl, rfl, rfl, rfl, rfl, rfl, rfl, rfl, rfl, rfl, rfl, rfl, rfl, rfl, rfl, rfl, rfl, rfl, rfl, rfl, (by rw [c8]; rfl), trivial⟩ [0, 0, 0, 0, 0, 0, 0, 0, 0, 0, 0, 0] (by kernel_rfl)
        · refine TL.done ?_
          refine TC.cond (b := ((!r_28) || (r_27 != r_14))) rfl (fun c9 => ?_) (fun c10 => ?_)
          · refine TC.seq ?_
            refine TC.region ?_
            refine TL.assign rfl rfl (v := .bool false) rfl ?_
            refine TL.done ?_
            exact TC.retF (Fin.body (fin1 (.inr rfl) rfl (.tmp rfl) [] rfl ⟨rfl, rfl⟩))
          · refine TC.skip ?_
            refine TC.seq ?_
            refine TC.seq ?_
            refine TC.wk (Γ' := [(1, SV.v s2), (2, SV.v s3), (3, bp b_1 0), (8, bp b_2 0), (9, .int .i64 r_14), (10, bp b_3 0), (11, SV.v s9), (12, SV.v s10), (13, bp b_4 0), (14, .int .i64 r_27)]) ⟨rfl, rfl, rfl, rfl, rfl, rfl, rfl, rfl, rfl, rfl, trivial⟩ ?_
            refine TC.bindE ?_
            rintro ⟨r_29, r_30, r_31, r_32, r_33⟩ hr1
            refine TC.bindE ?_
            rintro r_34 hr2
            refine TC.drawG [(1, SV.v s2), (2, SV.v s3), (3, bp b_1 0), (8, bp b_2 0), (9, .int .i64 r_14), (10, bp b_3 0), (11, SV.v s9), (12, SV.v s10), (13, bp b_4 0), (14, .int .i64 r_27)] [] ⟨rfl, rfl, rfl, rfl, rfl, rfl, rfl, rfl, rfl, rfl, trivial⟩ trivial (fun l_ g1 => [box b_4 24 [.one (.int .i64 r_22), .one (.int .i64 r_23), .one (.int .i64 r_24), .one (.int .i64 r_25), .one (SV.v s11)], row Ei 2 s11 r_26, row Ei 2 s10 r_21, row Ei 2 s9 r_20, box b_3 24 [.one (.int .i64 r_15), .one (.int .i64 r_16), .one (.int .i64 r_17), .one (.int .i64 r_18), .one (SV.v s8)], row Ei 2 s8 r_19, box b_2 24 [.one (.int .i64 r_9), .one (.int .i64 r_10), .one (.int .i64 r_11), .one (.int .i64 r_12), .one (SV.v s7)], row Ei 2 s7 r_13, row Ei 2 s6 r_8, row Ei 2 s5 r_7, row Ei 2 s4 r_6, box b_1 32 [.one (.int .i64 x1), .one (.int .i64 x2), .one (.int .i64 x3), .one (.int .i64 x4), .one (SV.v s1)], (bif nb l_ 2 then row Ei 2 (gs (g1 16)) r_33 else emp)]) (fun g1 => [sval [.one (.int .i64 r_15), .one (.int .i64 r_16), .one (.int .i64 r_17), .one (.int .i64 r_18), .one (SV.v s8)], sval [.one (.int .i64 x1), .one (.int .i64 x2), .one (.int .i64 x3), .one (.int .i64 x4), .one (SV.v s1)], sval [.one (.int .i64 r_29), .one (.int .i64 r_30), .one (.int .i64 r_31), .one (.int .i64 r_32), .one (SV.v (gs (g1 16)))], .bool r_34, .bool (!r_34)]) [[], [], [1], [0, 1, 2], [0, 1, 2, 3]] [[some false, none, none, some false, some false], [none, some false, some false, some false, some false], [none, some true, some false, some false, some false], [some true, some true, some true, some false, some false], [some true, some true, some true, some true, some false]] (by kernel_rfl) (fun _ => rfl) rfl rfl rfl rfl rfl (fun _ _ => ⟨⟨⟨⟨⟨trivial, rfl⟩, rfl⟩, rfl⟩, rfl⟩, rfl⟩) 1 [1, 1, 1, 1, 1, 1, 1, 1, 1, 1, 1, 1, 0] (fun _ => by kernel_rfl) ?_ ?_
            · refine ⟨rfl, ?_, rfl, ?_, rfl, ?_, rfl, ?_, rfl, ?_, trivial⟩
              · intro b1_ b2_ g1
                refine TL.asL [box b_4 24 [.one (.int .i64 r_22), .one (.int .i64 r_23), .one (.int .i64 r_24), .one (.int .i64 r_25), .one (SV.v s11)], row Ei 2 s11 r_26, row Ei 2 s10 r_21, row Ei 2 s9 r_20, box b_3 24 [.one (.int .i64 r_15), .one (.int .i64 r_16), .one (.int .i64 r_17), .one (.int .i64 r_18), .one (SV.v s8)], row Ei 2 s8 r_19, box b_2 24 [.one (.int .i64 r_9), .one (.int .i64 r_10), .one (.int .i64 r_11), .one (.int .i64 r_12), .one (SV.v s7)], row Ei 2 s7 r_13, row Ei 2 s6 r_8, row Ei 2 s5 r_7, row Ei 2 s4 r_6, box b_1 32 [.one (.int .i64 x1), .one (.int .i64 x2), .one (.int .i64 x3), .one (.int .i64 x4), .one (SV.v s1)], (bif b2_ then row Ei 2 (gs (g1 16)) r_33 else emp)] (by kernel_rfl) ?_
                refine TL.loadM 0 5 (Src.box 4 rfl) Try.isAgg24 Try.sizeOf24 (mid := [.one (.int .i64 r_15), .one (.int .i64 r_16), .one (.int .i64 r_17), .one (.int .i64 r_18), .one (SV.v s8)]) rfl rfl rfl rfl rfl rfl ?_
                refine TL.done ?_
                exact TC.nrm () [] ⟨rfl, trivial⟩ [0, 0, 0, 0, 0, 0, 0, 0, 0, 0, 0, 0, 0] (by kernel_rfl)
              · intro b0_ g1
                refine TL.asL [box b_4 24 [.one (.int .i64 r_22), .one (.int .i64 r_23), .one (.int .i64 r_24), .one (.int .i64 r_25), .one (SV.v s11)], row Ei 2 s11 r_26, row Ei 2 s10 r_21, row Ei 2 s9 r_20, box b_3 24 [.one (.int .i64 r_15), .one (.int .i64 r_16), .one (.int .i64 r_17), .one (.int .i64 r_18), .one (SV.v s8)], row Ei 2 s8 r_19, box b_2 24 [.one (.int .i64 r_9), .one (.int .i64 r_10), .one (.int .i64 r_11), .one (.int .i64 r_12), .one (SV.v s7)], row Ei 2 s7 r_13, row Ei 2 s6 r_8, row Ei 2 s5 r_7, row Ei 2 s4 r_6, box b_1 32 [.one (.int .i64 x1), .one (.int .i64 x2), .one (.int .i64 x3), .one (.int .i64 x4), .one (SV.v s1)], emp] (by kernel_rfl) ?_
                refine TL.loadM 0 5 (Src.box 11 rfl) Try.isAgg32 Try.sizeOf32 (mid := [.one (.int .i64 x1), .one (.int .i64 x2), .one (.int .i64 x3), .one (.int .i64 x4), .one (SV.v s1)]) rfl rfl rfl rfl rfl rfl ?_
                refine TL.done ?_
                exact TC.nrm () [] ⟨rfl, trivial⟩ [0, 0, 0, 0, 0, 0, 0, 0, 0, 0, 0, 0, 0] (by kernel_rfl)
              · intro b0_ g1
                refine TL.asL [box b_4 24 [.one (.int .i64 r_22), .one (.int .i64 r_23), .one (.int .i64 r_24), .one (.int .i64 r_25), .one (SV.v s11)], row Ei 2 s11 r_26, row Ei 2 s10 r_21, row Ei 2 s9 r_20, box b_3 24 [.one (.int .i64 r_15), .one (.int .i64 r_16), .one (.int .i64 r_17), .one (.int .i64 r_18), .one (SV.v s8)], row Ei 2 s8 r_19, box b_2 24 [.one (.int .i64 r_9), .one (.int .i64 r_10), .one (.int .i64 r_11), .one (.int .i64 r_12), .one (SV.v s7)], row Ei 2 s7 r_13, row Ei 2 s6 r_8, row Ei 2 s5 r_7, row Ei 2 s4 r_6, box b_1 32 [.one (.int .i64 x1), .one (.int .i64 x2), .one (.int .i64 x3), .one (.int .i64 x4), .one (SV.v s1)], emp] (by kernel_rfl) ?_
                refine TL.callH (R := G.laws_toTensor.R) hr1 Try.call21 rfl rfl rfl (fun w hS => G.laws_toTensor.calls w x1 x2 x3 x4 s1 x5 ((Rd.old h1) w hS)) ?_
                rintro _ _ ⟨s12, rfl, rfl⟩
                refine TL.done ?_
                exact TC.nrm () [[s12]] ⟨rfl, trivial⟩ [1, 1, 1, 1, 1, 1, 1, 1, 1, 1, 1, 1, 0] (by kernel_rfl)
              · intro g1
                refine TL.asL [box b_4 24 [.one (.int .i64 r_22), .one (.int .i64 r_23), .one (.int .i64 r_24), .one (.int .i64 r_25), .one (SV.v s11)], row Ei 2 s11 r_26, row Ei 2 s10 r_21, row Ei 2 s9 r_20, box b_3 24 [.one (.int .i64 r_15), .one (.int .i64 r_16), .one (.int .i64 r_17), .one (.int .i64 r_18), .one (SV.v s8)], row Ei 2 s8 r_19, box b_2 24 [.one (.int .i64 r_9), .one (.int .i64 r_10), .one (.int .i64 r_11), .one (.int .i64 r_12), .one (SV.v s7)], row Ei 2 s7 r_13, row Ei 2 s6 r_8, row Ei 2 s5 r_7, row Ei 2 s4 r_6, box b_1 32 [.one (.int .i64 x1), .one (.int .i64 x2), .one (.int .i64 x3), .one (.int .i64 x4), .one (SV.v s1)], row Ei 2 (gs (g1 16)) r_33] (by kernel_rfl) ?_
                refine TL.callH (R := G.laws_eqTensor.R) hr2 Try.call14 rfl rfl rfl (fun w hS => G.laws_eqTensor.calls w r_15 r_16 r_17 r_18 s8 r_19 r_29 r_30 r_31 r_32 (gs (g1 16)) r_33 ((Rd.row 5 rfl) w hS) ((Rd.row 12 rfl) w hS)) ?_
                rintro _ _ ⟨rfl, rfl⟩
                refine TL.done ?_
                exact TC.nrm () [] ⟨rfl, trivial⟩ [0, 0, 0, 0, 0, 0, 0, 0, 0, 0, 0, 0, 0] (by kernel_rfl)
              · intro g1
                refine TL.not r_34 rfl rfl rfl ?_
                refine TL.done ?_
                exact TC.nrm () [] ⟨rfl, trivial⟩ [0, 0, 0, 0, 0, 0, 0, 0, 0, 0, 0, 0, 0] (by kernel_rfl)
            · intro g1
              refine TC.asL [box b_4 24 [.one (.int .i64 r_22), .one (.int .i64 r_23), .one (.int .i64 r_24), .one (.int .i64 r_25), .one (SV.v s11)], row Ei 2 s11 r_26, row Ei 2 s10 r_21, row Ei 2 s9 r_20, box b_3 24 [.one (.int .i64 r_15), .one (.int .i64 r_16), .one (.int .i64 r_17), .one (.int .i64 r_18), .one (SV.v s8)], row Ei 2 s8 r_19, box b_2 24 [.one (.int .i64 r_9), .one (.int .i64 r_10), .one (.int .i64 r_11), .one (.int .i64 r_12), .one (SV.v s7)], row Ei 2 s7 r_13, row Ei 2 s6 r_8, row Ei 2 s5 r_7, row Ei 2 s4 r_6, box b_1 32 [.one (.int .i64 x1), .one (.int .i64 x2), .one (.int .i64 x3), .one (.int .i64 x4), .one (SV.v s1)], row Ei 2 (gs (g1 16)) r_33] (by kernel_rfl) ?_
              refine TC.cond (b := (!r_34)) rfl (fun c11 => ?_) (fun c12 => ?_)
              · refine TC.seq ?_
                refine TC.region ?_
                refine TL.assign rfl rfl (v := .bool false) rfl ?_
                refine TL.done ?_
                exact TC.retF (Fin.body (fin1 (.inr rfl) rfl (.tmp rfl) [] rfl ⟨rfl, rfl⟩))
              · refine TC.skip ?_
                refine TC.seq ?_
                refine TC.seq ?_
                refine TC.region ?_
                refine TL.move rfl rfl (v := SV.v s9) rfl ?_
                refine TL.move rfl rfl (v := SV.v s2) rfl ?_
                refine TL.call (R := G.laws_toInt64S.R) Try.call39 rfl rfl rfl (fun w hS => G.laws_toInt64S.calls w s2 x6 ((Rd.old h2) w hS)) ?_
                rintro r_35 _ _ ⟨s13, rfl, rfl⟩
                refine TL.call (R := G.laws_eqInt64S.R) Try.call33 rfl rfl rfl (fun w hS => G.laws_eqInt64S.calls w s9 r_20 s13 r_35 ((Rd.row 4 rfl) w hS) ((Rd.row 0 rfl) w hS)) ?_
                rintro r_36 _ _ ⟨rfl, rfl⟩
                refine TL.not r_36 rfl rfl rfl ?_
                refine TL.done ?_
                refine TC.cond (b := (!r_36)) rfl (fun c13 => ?_) (fun c14 => ?_)
                · refine TC.seq ?_
                  refine TC.region ?_
                  refine TL.assign rfl rfl (v := .bool false) rfl ?_
                  refine TL.done ?_
                  exact TC.retF (Fin.body (fin1 (.inr rfl) rfl (.tmp rfl) [] rfl ⟨rfl, rfl⟩))
                · refine TC.skip ?_
                  refine TC.seq ?_
                  refine TC.seq ?_
                  refine TC.region ?_
                  refine TL.move rfl rfl (v := SV.v s10) rfl ?_
                  refine TL.move rfl rfl (v := SV.v s3) rfl ?_
                  refine TL.call (R := G.laws_toInt64S.R) Try.call39 rfl rfl rfl (fun w hS => G.laws_toInt64S.calls w s3 x7 ((Rd.old h3) w hS)) ?_
                  rintro r_37 _ _ ⟨s14, rfl, rfl⟩
                  refine TL.call (R := G.laws_eqInt64S.R) Try.call33 rfl rfl rfl (fun w hS => G.laws_eqInt64S.calls w s10 r_21 s14 r_37 ((Rd.row 4 rfl) w hS) ((Rd.row 0 rfl) w hS)) ?_
                  rintro r_38 _ _ ⟨rfl, rfl⟩
                  refine TL.not r_38 rfl rfl rfl ?_
                  refine TL.done ?_
                  refine TC.cond (b := (!r_38)) rfl (fun c15 => ?_) (fun c16 => ?_)
                  · refine TC.seq ?_
                    refine TC.region ?_
                    refine TL.assign rfl rfl (v := .bool false) rfl ?_
                    refine TL.done ?_
                    exact TC.retF (Fin.body (fin1 (.inr rfl) rfl (.tmp rfl) [] rfl ⟨rfl, rfl⟩))
                  · refine TC.skip ?_
                    refine TC.seq ?_
                    refine TC.region ?_
                    refine TL.assign rfl rfl (v := .int .i64 1) rfl ?_
                    refine TL.done ?_
                    refine TC.seq ?_
                    refine TC.region ?_
                    refine TL.loadM 0 5 (Src.box 6 rfl) Try.isAgg24 Try.sizeOf24 (mid := [.one (.int .i64 r_15), .one (.int .i64 r_16), .one (.int .i64 r_17), .one (.int .i64 r_18), .one (SV.v s8)]) rfl rfl rfl rfl rfl rfl ?_
                    refine TL.move rfl rfl (v := .int .i64 1) rfl ?_
                    refine TL.callX (R := G.laws_markTensor.R s8) [7, 0, 0, 0, 0, 0, 0, 0, 0, 0, 0, 0, 0, 0, 0] [row Ei 2 s8 r_19] [row Ei 2 s14 r_37, row Ei 2 s13 r_35, box b_4 24 [.one (.int .i64 r_22), .one (.int .i64 r_23), .one (.int .i64 r_24), .one (.int .i64 r_25), .one (SV.v s11)], row Ei 2 s11 r_26, row Ei 2 s10 r_21, row Ei 2 s9 r_20, box b_3 24 [.one (.int .i64 r_15), .one (.int .i64 r_16), .one (.int .i64 r_17), .one (.int .i64 r_18), .one (SV.v s8)], box b_2 24 [.one (.int .i64 r_9), .one (.int .i64 r_10), .one (.int .i64 r_11), .one (.int .i64 r_12), .one (SV.v s7)], row Ei 2 s7 r_13, row Ei 2 s6 r_8, row Ei 2 s5 r_7, row Ei 2 s4 r_6, box b_1 32 [.one (.int .i64 x1), .one (.int .i64 x2), .one (.int .i64 x3), .one (.int .i64 x4), .one (SV.v s1)], row Ei 2 (gs (g1 16)) r_33] rfl Try.call15 rfl rfl rfl (fun w I_ hle hB hS => G.laws_markTensor.calls _ I_ w r_15 r_16 r_17 r_18 s8 r_19 1 hS) ?_
                    rintro ⟨r_39, l1⟩ _ _ ⟨rfl, rfl⟩
                    refine TL.assign rfl rfl (v := .int .i64 r_39) rfl ?_
                    refine TL.done ?_
                    refine TC.seq ?_
                    refine TC.region ?_
                    refine TL.move rfl rfl (v := SV.v s9) rfl ?_
                    refine TL.move rfl rfl (v := .int .i64 r_39) rfl ?_
                    refine TL.callX (R := G.laws_markInt64S.R s9) [6, 0, 0, 0, 0, 0, 0, 0, 0, 0, 0, 0, 0, 0, 0] [row Ei 2 s9 r_20] [row Ei 2 s8 l1, row Ei 2 s14 r_37, row Ei 2 s13 r_35, box b_4 24 [.one (.int .i64 r_22), .one (.int .i64 r_23), .one (.int .i64 r_24), .one (.int .i64 r_25), .one (SV.v s11)], row Ei 2 s11 r_26, row Ei 2 s10 r_21, box b_3 24 [.one (.int .i64 r_15), .one (.int .i64 r_16), .one (.int .i64 r_17), .one (.int .i64 r_18), .one (SV.v s8)], box b_2 24 [.one (.int .i64 r_9), .one (.int .i64 r_10), .one (.int .i64 r_11), .one (.int .i64 r_12), .one (SV.v s7)], row Ei 2 s7 r_13, row Ei 2 s6 r_8, row Ei 2 s5 r_7, row Ei 2 s4 r_6, box b_1 32 [.one (.int .i64 x1), .one (.int .i64 x2), .one (.int .i64 x3), .one (.int .i64 x4), .one (SV.v s1)], row Ei 2 (gs (g1 16)) r_33] rfl Try.call36 rfl rfl rfl (fun w I_ hle hB hS => G.laws_markInt64S.calls _ I_ w s9 r_20 r_39 hS) ?_
                    rintro ⟨r_40, l2⟩ _ _ ⟨rfl, rfl⟩
                    refine TL.assign rfl rfl (v := .int .i64 r_40) rfl ?_
                    refine TL.done ?_
                    refine TC.seq ?_
                    refine TC.region ?_
                    refine TL.move rfl rfl (v := SV.v s10) rfl ?_
                    refine TL.move rfl rfl (v := .int .i64 r_40) rfl ?_
                    refine TL.callX (R := G.laws_markInt64S.R s10) [6, 0, 0, 0, 0, 0, 0, 0, 0, 0, 0, 0, 0, 0, 0] [row Ei 2 s10 r_21] [row Ei 2 s9 l2, row Ei 2 s8 l1, row Ei 2 s14 r_37, row Ei 2 s13 r_35, box b_4 24 [.one (.int .i64 r_22), .one (.int .i64 r_23), .one (.int .i64 r_24), .one (.int .i64 r_25), .one (SV.v s11)], row Ei 2 s11 r_26, box b_3 24 [.one (.int .i64 r_15), .one (.int .i64 r_16), .one (.int .i64 r_17), .one (.int .i64 r_18), .one (SV.v s8)], box b_2 24 [.one (.int .i64 r_9), .one (.int .i64 r_10), .one (.int .i64 r_11), .one (.int .i64 r_12), .one (SV.v s7)], row Ei 2 s7 r_13, row Ei 2 s6 r_8, row Ei 2 s5 r_7, row Ei 2 s4 r_6, box b_1 32 [.one (.int .i64 x1), .one (.int .i64 x2), .one (.int .i64 x3), .one (.int .i64 x4), .one (SV.v s1)], row Ei 2 (gs (g1 16)) r_33] rfl Try.call36 rfl rfl rfl (fun w I_ hle hB hS => G.laws_markInt64S.calls _ I_ w s10 r_21 r_40 hS) ?_
                    rintro ⟨r_41, l3⟩ _ _ ⟨rfl, rfl⟩
                    refine TL.assign rfl rfl (v := .int .i64 r_41) rfl ?_
                    refine TL.done ?_
                    refine TC.seq ?_
                    refine TC.seq ?_
                    refine TC.region ?_
                    refine TL.move rfl rfl (v := .int .i64 r_41) rfl ?_
                    refine TL.bin .i64 r_41 0 rfl rfl rfl rfl (v := .bool (decide (r_41 < 0))) rfl ?_
                    refine TL.move rfl rfl (v := .bool (decide (r_41 < 0))) rfl ?_
                    refine TL.cutJ (σ := Bool) (γ := Unit) (Γ' := fun b_5 _ => [(94, .bool b_5), (1, SV.v s2), (2, SV.v s3), (3, bp b_1 0), (8, bp b_2 0), (9, .int .i64 r_14), (10, bp b_3 0), (11, SV.v s9), (12, SV.v s10), (13, bp b_4 0), (14, .int .i64 r_27), (63, sval [.one (.int .i64 r_15), .one (.int .i64 r_16), .one (.int .i64 r_17), .one (.int .i64 r_18), .one (SV.v s8)]), (64, sval [.one (.int .i64 x1), .one (.int .i64 x2), .one (.int .i64 x3), .one (.int .i64 x4), .one (SV.v s1)]), (65, sval [.one (.int .i64 r_29), .one (.int .i64 r_30), .one (.int .i64 r_31), .one (.int .i64 r_32), .one (SV.v (gs (g1 16)))]), (66, .bool r_34), (67, .bool (!r_34)), (68, SV.v s9), (69, SV.v s2), (70, SV.v s13), (71, .bool r_36), (72, .bool (!r_36)), (73, SV.v s10), (74, SV.v s3), (75, SV.v s14), (76, .bool r_38), (77, .bool (!r_38)), (15, .int .i64 r_41), (78, sval [.one (.int .i64 r_15), .one (.int .i64 r_16), .one (.int .i64 r_17), .one (.int .i64 r_18), .one (SV.v s8)]), (79, .int .i64 1), (80, .int .i64 r_39), (81, SV.v s9), (82, .int .i64 r_39), (83, .int .i64 r_40), (84, SV.v s10), (85, .int .i64 r_40), (86, .int .i64 r_41), (87, .int .i64 r_41), (88, .bool (decide (r_41 < 0))), (89, .bool (decide (r_41 < 0)))]) (L' := fun _ _ => [row Ei 2 s10 l3, row Ei 2 s9 l2, row Ei 2 s8 l1, row Ei 2 s14 r_37, row Ei 2 s13 r_35, box b_4 24 [.one (.int .i64 r_22), .one (.int .i64 r_23), .one (.int .i64 r_24), .one (.int .i64 r_25), .one (SV.v s11)], row Ei 2 s11 r_26, box b_3 24 [.one (.int .i64 r_15), .one (.int .i64 r_16), .one (.int .i64 r_17), .one (.int .i64 r_18), .one (SV.v s8)], box b_2 24 [.one (.int .i64 r_9), .one (.int .i64 r_10), .one (.int .i64 r_11), .one (.int .i64 r_12), .one (SV.v s7)], row Ei 2 s7 r_13, row Ei 2 s6 r_8, row Ei 2 s5 r_7, row Ei 2 s4 r_6, box b_1 32 [.one (.int .i64 x1), .one (.int .i64 x2), .one (.int .i64 x3), .one (.int .i64 x4), .one (SV.v s1)], row Ei 2 (gs (g1 16)) r_33]) 5 ?_ ?_
                    · refine TL.ifb (t := 89) (b := (decide (r_41 < 0))) rfl (fun c17 => ?_) (fun c18 => ?_)
                      · refine TL.skip rfl rfl (by decide) ?_
                        refine TL.skip rfl rfl (by decide) ?_
                        refine TL.skip rfl rfl (by decide) ?_
                        refine TL.skip rfl rfl (by decide) ?_
                        refine TL.pick rfl rfl (b := true) rfl (r := .bool true) rfl ?_
                        refine TL.done ?_
                        exact TC.nrm (true) () ⟨rfl, rfl, rfl, rfl, rfl, rfl, rfl, rfl, rfl, rfl, rfl, rfl, rfl, rfl, rfl, rfl, rfl, rfl, rfl, rfl, rfl, rfl, rfl, rfl, rfl, rfl, rfl, rfl, rfl, rfl, rfl, rfl, rfl, rfl, rfl, rfl, rfl, rfl, (by rw [c17]; rfl), trivial⟩ [0, 0, 0, 0, 0, 0, 0, 0, 0, 0, 0, 0, 0, 0, 0] (by kernel_rfl)
                      · refine TL.loadM 0 5 (Src.box 5 rfl) Try.isAgg24 Try.sizeOf24 (mid := [.one (.int .i64 r_22), .one (.int .i64 r_23), .one (.int .i64 r_24), .one (.int .i64 r_25), .one (SV.v s11)]) rfl rfl rfl rfl rfl rfl ?_
                        refine TL.loadM 0 5 (Src.box 8 rfl) Try.isAgg24 Try.sizeOf24 (mid := [.one (.int .i64 r_9), .one (.int .i64 r_10), .one (.int .i64 r_11), .one (.int .i64 r_12), .one (SV.v s7)]) rfl rfl rfl rfl rfl rfl ?_
                        refine TL.call (R := G.laws_eqTensor.R) Try.call14 rfl rfl rfl (fun w hS => G.laws_eqTensor.calls w r_22 r_23 r_24 r_25 s11 r_26 r_9 r_10 r_11 r_12 s7 r_13 ((Rd.row 6 rfl) w hS) ((Rd.row 9 rfl) w hS)) ?_
                        rintro r_42 _ _ ⟨rfl, rfl⟩
                        refine TL.not r_42 rfl rfl rfl ?_
                        refine TL.pick rfl rfl (b := false) rfl (r := .bool (!r_42)) rfl ?_
                        refine TL.done ?_
                        exact TC.nrm ((!r_42)) () ⟨rfl, rfl, rfl, rfl, rfl, rfl, rfl, rfl, rfl, rfl, rfl, rfl, rfl, rfl, rfl, rfl, rfl, rfl, rfl, rfl, rfl, rfl, rfl, rfl, rfl, rfl, rfl, rfl, rfl, rfl, rfl, rfl, rfl, rfl, rfl, rfl, rfl, rfl, (by rw [c18]; rfl), trivial⟩ [0, 0, 0, 0, 0, 0, 0, 0, 0, 0, 0, 0, 0, 0, 0] (by kernel_rfl)
                    · rintro b_5 _
                      refine TL.move rfl rfl (v := .bool b_5) rfl ?_
                      refine TL.cutU 4 [(99, .bool (b_5 || (r_27 != r_14))), (1, SV.v s2), (2, SV.v s3), (3, bp b_1 0), (8, bp b_2 0), (9, .int .i64 r_14), (10, bp b_3 0), (11, SV.v s9), (12, SV.v s10), (13, bp b_4 0), (14, .int .i64 r_27), (63, sval [.one (.int .i64 r_15), .one (.int .i64 r_16), .one (.int .i64 r_17), .one (.int .i64 r_18), .one (SV.v s8)]), (64, sval [.one (.int .i64 x1), .one (.int .i64 x2), .one (.int .i64 x3), .one (.int .i64 x4), .one (SV.v s1)]), (65, sval [.one (.int .i64 r_29), .one (.int .i64 r_30), .one (.int .i64 r_31), .one (.int .i64 r_32), .one (SV.v (gs (g1 16)))]), (66, .bool r_34), (67, .bool (!r_34)), (68, SV.v s9), (69, SV.v s2), (70, SV.v s13), (71, .bool r_36), (72, .bool (!r_36)), (73, SV.v s10), (74, SV.v s3), (75, SV.v s14), (76, .bool r_38), (77, .bool (!r_38)), (15, .int .i64 r_41), (78, sval [.one (.int .i64 r_15), .one (.int .i64 r_16), .one (.int .i64 r_17), .one (.int .i64 r_18), .one (SV.v s8)]), (79, .int .i64 1), (80, .int .i64 r_39), (81, SV.v s9), (82, .int .i64 r_39), (83, .int .i64 r_40), (84, SV.v s10), (85, .int .i64 r_40), (86, .int .i64 r_41), (87, .int .i64 r_41), (88, .bool (decide (r_41 < 0))), (89, .bool (decide (r_41 < 0))), (94, .bool b_5), (95, .bool b_5)] [row Ei 2 s10 l3, row Ei 2 s9 l2, row Ei 2 s8 l1, row Ei 2 s14 r_37, row Ei 2 s13 r_35, box b_4 24 [.one (.int .i64 r_22), .one (.int .i64 r_23), .one (.int .i64 r_24), .one (.int .i64 r_25), .one (SV.v s11)], row Ei 2 s11 r_26, box b_3 24 [.one (.int .i64 r_15), .one (.int .i64 r_16), .one (.int .i64 r_17), .one (.int .i64 r_18), .one (SV.v s8)], box b_2 24 [.one (.int .i64 r_9), .one (.int .i64 r_10), .one (.int .i64 r_11), .one (.int .i64 r_12), .one (SV.v s7)], row Ei 2 s7 r_13, row Ei 2 s6 r_8, row Ei 2 s5 r_7, row Ei 2 s4 r_6, box b_1 32 [.one (.int .i64 x1), .one (.int .i64 x2), .one (.int .i64 x3), .one (.int .i64 x4), .one (SV.v s1)], row Ei 2 (gs (g1 16)) r_33] ?_ ?_
                      · refine TL.cases (t := 95) (b := b_5) rfl (fun c19 => ?_) (fun c20 => ?_)
                        · refine TL.skip rfl rfl (by decide) ?_
                          refine TL.skip rfl rfl (by decide) ?_
                          refine TL.skip rfl rfl (by decide) ?_
                          refine TL.pick rfl rfl (b := true) rfl (r := .bool true) rfl ?_
                          refine TL.done ?_
                          exact TC.nrm () () ⟨(by rw [c19]; rfl), rfl, rfl, rfl, rfl, rfl, rfl, rfl, rfl, rfl, rfl, rfl, rfl, rfl, rfl, rfl, rfl, rfl, rfl, rfl, rfl, rfl, rfl, rfl, rfl, rfl, rfl, rfl, rfl, rfl, rfl, rfl, rfl, rfl, rfl, rfl, rfl, rfl, rfl, rfl, (by rw [c19]; rfl), trivial⟩ [0, 0, 0, 0, 0, 0, 0, 0, 0, 0, 0, 0, 0, 0, 0] (by kernel_rfl)
                        · refine TL.move rfl rfl (v := .int .i64 r_27) rfl ?_
                          refine TL.move rfl rfl (v := .int .i64 r_14) rfl ?_
                          refine TL.bin .i64 r_27 r_14 rfl rfl rfl rfl (v := .bool (r_27 != r_14)) rfl ?_
                          refine TL.pick rfl rfl (b := false) rfl (r := .bool (r_27 != r_14)) rfl ?_
                          refine TL.done ?_
                          exact TC.nrm () () ⟨(by rw [c20]; rfl), rfl, rfl, rfl, rfl, rfl, rfl, rfl, rfl, rfl, rfl, rfl, rfl, rfl, rfl, rfl, rfl, rfl, rfl, rfl, rfl, rfl, rfl, rfl, rfl, rfl, rfl, rfl, rfl, rfl, rfl, rfl, rfl, rfl, rfl, rfl, rfl, rfl, rfl, rfl, (by rw [c20]; rfl), trivial⟩ [0, 0, 0, 0, 0, 0, 0, 0, 0, 0, 0, 0, 0, 0, 0] (by kernel_rfl)
                      · refine TL.done ?_
                        refine TC.cond (b := (b_5 || (r_27 != r_14))) rfl (fun c21 => ?_) (fun c22 => ?_)
                        · refine TC.seq ?_
                          refine TC.region ?_
                          refine TL.assign rfl rfl (v := .bool false) rfl ?_
                          refine TL.done ?_
                          exact TC.retF (Fin.body (fin1 (.inr rfl) rfl (.tmp rfl) [] rfl ⟨rfl, rfl⟩))
                        · refine TC.skip ?_
                          refine TC.seq ?_
                          refine TC.region ?_
                          refine TL.assign rfl rfl (v := .int .i64 1) rfl ?_
                          refine TL.done ?_
                          refine TC.seq ?_
                          refine TC.region ?_
                          refine TL.loadM 0 5 (Src.box 5 rfl) Try.isAgg24 Try.sizeOf24 (mid := [.one (.int .i64 r_22), .one (.int .i64 r_23), .one (.int .i64 r_24), .one (.int .i64 r_25), .one (SV.v s11)]) rfl rfl rfl rfl rfl rfl ?_
                          refine TL.move rfl rfl (v := .int .i64 1) rfl ?_
                          refine TL.callX (R := G.laws_markTensor.R s11) [6, 0, 0, 0, 0, 0, 0, 0, 0, 0, 0, 0, 0, 0, 0] [row Ei 2 s11 r_26] [row Ei 2 s10 l3, row Ei 2 s9 l2, row Ei 2 s8 l1, row Ei 2 s14 r_37, row Ei 2 s13 r_35, box b_4 24 [.one (.int .i64 r_22), .one (.int .i64 r_23), .one (.int .i64 r_24), .one (.int .i64 r_25), .one (SV.v s11)], box b_3 24 [.one (.int .i64 r_15), .one (.int .i64 r_16), .one (.int .i64 r_17), .one (.int .i64 r_18), .one (SV.v s8)], box b_2 24 [.one (.int .i64 r_9), .one (.int .i64 r_10), .one (.int .i64 r_11), .one (.int .i64 r_12), .one (SV.v s7)], row Ei 2 s7 r_13, row Ei 2 s6 r_8, row Ei 2 s5 r_7, row Ei 2 s4 r_6, box b_1 32 [.one (.int .i64 x1), .one (.int .i64 x2), .one (.int .i64 x3), .one (.int .i64 x4), .one (SV.v s1)], row Ei 2 (gs (g1 16)) r_33] rfl Try.call15 rfl rfl rfl (fun w I_ hle hB hS => G.laws_markTensor.calls _ I_ w r_22 r_23 r_24 r_25 s11 r_26 1 hS) ?_
                          rintro ⟨r_43, l4⟩ _ _ ⟨rfl, rfl⟩
                          refine TL.assign rfl rfl (v := .int .i64 r_43) rfl ?_
                          refine TL.done ?_
                          refine TC.seq ?_
                          refine TC.region ?_
                          refine TL.assign rfl rfl (v := .int .i64 1) rfl ?_
                          refine TL.done ?_
                          refine TC.seq ?_
                          refine TC.region ?_
                          refine TL.loadM 0 5 (Src.box 6 rfl) Try.isAgg24 Try.sizeOf24 (mid := [.one (.int .i64 r_22), .one (.int .i64 r_23), .one (.int .i64 r_24), .one (.int .i64 r_25), .one (SV.v s11)]) rfl rfl rfl rfl rfl rfl ?_
                          refine TL.move rfl rfl (v := .int .i64 1) rfl ?_
                          refine TL.call (R := G.laws_heldTensor.R) Try.call16 rfl rfl rfl (fun w hS => G.laws_heldTensor.calls w r_22 r_23 r_24 r_25 s11 l4 1 ((Rd.row 0 rfl) w hS)) ?_
                          rintro r_44 _ _ ⟨rfl, rfl⟩
                          refine TL.assign rfl rfl (v := .int .i64 r_44) rfl ?_
                          refine TL.done ?_
                          refine TC.seq ?_
                          refine TC.seq ?_
                          refine TC.region ?_
                          refine TL.move rfl rfl (v := .int .i64 r_44) rfl ?_
                          refine TL.bin .i64 r_44 0 rfl rfl rfl rfl (v := .bool (decide (r_44 < 0))) rfl ?_
                          refine TL.done ?_
                          refine TC.cond (b := (decide (r_44 < 0))) rfl (fun c23 => ?_) (fun c24 => ?_)
                          · refine TC.seq ?_
                            refine TC.region ?_
                            refine TL.assign rfl rfl (v := .bool false) rfl ?_
                            refine TL.done ?_
                            exact TC.retF (Fin.body (fin1 (.inr rfl) rfl (.tmp rfl) [] rfl ⟨rfl, rfl⟩))
                          · refine TC.skip ?_
                            refine TC.seq ?_
                            refine TC.seq ?_
                            refine TC.region ?_
                            refine TL.move rfl rfl (v := .int .i64 r_44) rfl ?_
                            refine TL.move rfl rfl (v := .int .i64 r_43) rfl ?_
                            refine TL.bin .i64 r_44 r_43 rfl rfl rfl rfl (v := .bool (r_44 != r_43)) rfl ?_
                            refine TL.done ?_
                            refine TC.cond (b := (r_44 != r_43)) rfl (fun c25 => ?_) (fun c26 => ?_)
                            · refine TC.seq ?_
                              refine TC.region ?_
                              refine TL.assign rfl rfl (v := .bool false) rfl ?_
                              refine TL.done ?_
                              exact TC.retF (Fin.body (fin1 (.inr rfl) rfl (.tmp rfl) [] rfl ⟨rfl, rfl⟩))
                            · refine TC.skip ?_
                              refine TC.seq ?_
                              refine TC.region ?_
                              refine TL.loadM 0 5 (Src.box 13 rfl) Try.isAgg32 Try.sizeOf32 (mid := [.one (.int .i64 x1), .one (.int .i64 x2), .one (.int .i64 x3), .one (.int .i64 x4), .one (SV.v s1)]) rfl rfl rfl rfl rfl rfl ?_
                              refine TL.call (R := G.laws_toTensor.R) Try.call21 rfl rfl rfl (fun w hS => G.laws_toTensor.calls w x1 x2 x3 x4 s1 x5 ((Rd.old h1) w hS)) ?_
                              rintro ⟨r_45, r_46, r_47, r_48, r_49⟩ _ _ ⟨s15, rfl, rfl⟩
                              refine TL.move rfl rfl (v := SV.v s2) rfl ?_
                              refine TL.call (R := G.laws_toInt64S.R) Try.call39 rfl rfl rfl (fun w hS => G.laws_toInt64S.calls w s2 x6 ((Rd.old h2) w hS)) ?_
                              rintro r_50 _ _ ⟨s16, rfl, rfl⟩
                              refine TL.move rfl rfl (v := SV.v s3) rfl ?_
                              refine TL.call (R := G.laws_toInt64S.R) Try.call39 rfl rfl rfl (fun w hS => G.laws_toInt64S.calls w s3 x7 ((Rd.old h3) w hS)) ?_
                              rintro r_51 _ _ ⟨s17, rfl, rfl⟩
                              refine TL.call (R := G.impl_PermuteTensor.R) Try.call40 rfl rfl rfl (fun w hS => G.impl_PermuteTensor.calls w r_45 r_46 r_47 r_48 s15 r_49 s16 r_50 s17 r_51 ((Rd.row 2 rfl) w hS) ((Rd.row 1 rfl) w hS) ((Rd.row 0 rfl) w hS)) ?_
                              rintro ⟨r_52, r_53, r_54, r_55, r_56, r_57⟩ _ _ ⟨s18, rfl, rfl⟩
                              refine TL.move rfl rfl (v := .tuple #[sval [.one (.int .i64 r_52), .one (.int .i64 r_53), .one (.int .i64 r_54), .one (.int .i64 r_55), .one (SV.v s18)], .int .i64 r_57]) rfl ?_
                              refine TL.extract rfl rfl rfl (v := sval [.one (.int .i64 r_52), .one (.int .i64 r_53), .one (.int .i64 r_54), .one (.int .i64 r_55), .one (SV.v s18)]) rfl ?_
                              refine TL.extract rfl rfl rfl (v := .int .i64 r_57) rfl ?_
                              refine TL.alloc [.one (.int .i64 0), .one (.int .i64 0), .one (.int .i64 0), .one (.int .i64 0), .one (SV.v ⟨none, 0, 0⟩)] rfl rfl Try.zeroValue24 rfl fun b_6 => ?_
                              refine TL.stM (news := [.one (.int .i64 r_52), .one (.int .i64 r_53), .one (.int .i64 r_54), .one (.int .i64 r_55), .one (SV.v s18)]) 0 0 5 rfl Try.sizeOf24 (ones_one rfl (ones_one rfl (ones_one rfl (ones_one rfl (ones_one rfl ones_nil))))) rfl rfl rfl rfl rfl rfl ?_
                              refine TL.assign rfl rfl (v := .int .i64 r_57) rfl ?_
                              refine TL.done ?_
                              refine TC.seq ?_
                              refine TC.seq ?_
                              refine TC.region ?_
                              refine TL.loadM 0 5 (Src.box 0 rfl) Try.isAgg24 Try.sizeOf24 (mid := [.one (.int .i64 r_52), .one (.int .i64 r_53), .one (.int .i64 r_54), .one (.int .i64 r_55), .one (SV.v s18)]) rfl rfl rfl rfl rfl rfl ?_
                              refine TL.loadM 0 5 (Src.box 13 rfl) Try.isAgg24 Try.sizeOf24 (mid := [.one (.int .i64 r_9), .one (.int .i64 r_10), .one (.int .i64 r_11), .one (.int .i64 r_12), .one (SV.v s7)]) rfl rfl rfl rfl rfl rfl ?_
                              refine TL.call (R := G.laws_eqTensor.R) Try.call14 rfl rfl rfl (fun w hS => G.laws_eqTensor.calls w r_52 r_53 r_54 r_55 s18 r_56 r_9 r_10 r_11 r_12 s7 r_13 ((Rd.row 1 rfl) w hS) ((Rd.row 14 rfl) w hS)) ?_
                              rintro r_58 _ _ ⟨rfl, rfl⟩
                              refine TL.not r_58 rfl rfl rfl ?_
                              refine TL.move rfl rfl (v := .bool (!r_58)) rfl ?_
                              refine TL.cutU 4 [(129, .bool ((!r_58) || (r_57 != r_14))), (1, SV.v s2), (2, SV.v s3), (3, bp b_1 0), (8, bp b_2 0), (9, .int .i64 r_14), (10, bp b_3 0), (11, SV.v s9), (12, SV.v s10), (13, bp b_4 0), (14, .int .i64 r_27), (63, sval [.one (.int .i64 r_15), .one (.int .i64 r_16), .one (.int .i64 r_17), .one (.int .i64 r_18), .one (SV.v s8)]), (64, sval [.one (.int .i64 x1), .one (.int .i64 x2), .one (.int .i64 x3), .one (.int .i64 x4), .one (SV.v s1)]), (65, sval [.one (.int .i64 r_29), .one (.int .i64 r_30), .one (.int .i64 r_31), .one (.int .i64 r_32), .one (SV.v (gs (g1 16)))]), (66, .bool r_34), (67, .bool (!r_34)), (68, SV.v s9), (69, SV.v s2), (70, SV.v s13), (71, .bool r_36), (72, .bool (!r_36)), (73, SV.v s10), (74, SV.v s3), (75, SV.v s14), (76, .bool r_38), (77, .bool (!r_38)), (15, .int .i64 r_41), (78, sval [.one (.int .i64 r_15), .one (.int .i64 r_16), .one (.int .i64 r_17), .one (.int .i64 r_18), .one (SV.v s8)]), (79, .int .i64 1), (80, .int .i64 r_39), (81, SV.v s9), (82, .int .i64 r_39), (83, .int .i64 r_40), (84, SV.v s10), (85, .int .i64 r_40), (86, .int .i64 r_41), (87, .int .i64 r_41), (88, .bool (decide (r_41 < 0))), (89, .bool (decide (r_41 < 0))), (94, .bool b_5), (95, .bool b_5), (99, .bool (b_5 || (r_27 != r_14))), (16, .int .i64 r_43), (100, sval [.one (.int .i64 r_22), .one (.int .i64 r_23), .one (.int .i64 r_24), .one (.int .i64 r_25), .one (SV.v s11)]), (101, .int .i64 1), (102, .int .i64 r_43), (17, .int .i64 r_44), (103, sval [.one (.int .i64 r_22), .one (.int .i64 r_23), .one (.int .i64 r_24), .one (.int .i64 r_25), .one (SV.v s11)]), (104, .int .i64 1), (105, .int .i64 r_44), (106, .int .i64 r_44), (107, .bool (decide (r_44 < 0))), (108, .int .i64 r_44), (109, .int .i64 r_43), (110, .bool (r_44 != r_43)), (112, sval [.one (.int .i64 x1), .one (.int .i64 x2), .one (.int .i64 x3), .one (.int .i64 x4), .one (SV.v s1)]), (113, sval [.one (.int .i64 r_45), .one (.int .i64 r_46), .one (.int .i64 r_47), .one (.int .i64 r_48), .one (SV.v s15)]), (114, SV.v s2), (115, SV.v s16), (116, SV.v s3), (117, SV.v s17), (118, .tuple #[sval [.one (.int .i64 r_52), .one (.int .i64 r_53), .one (.int .i64 r_54), .one (.int .i64 r_55), .one (SV.v s18)], .int .i64 r_57]), (111, .tuple #[sval [.one (.int .i64 r_52), .one (.int .i64 r_53), .one (.int .i64 r_54), .one (.int .i64 r_55), .one (SV.v s18)], .int .i64 r_57]), (119, sval [.one (.int .i64 r_52), .one (.int .i64 r_53), .one (.int .i64 r_54), .one (.int .i64 r_55), .one (SV.v s18)]), (120, .int .i64 r_57), (18, bp b_6 0), (19, .int .i64 r_57), (121, sval [.one (.int .i64 r_52), .one (.int .i64 r_53), .one (.int .i64 r_54), .one (.int .i64 r_55), .one (SV.v s18)]), (122, sval [.one (.int .i64 r_9), .one (.int .i64 r_10), .one (.int .i64 r_11), .one (.int .i64 r_12), .one (SV.v s7)]), (123, .bool r_58), (124, .bool (!r_58)), (125, .bool (!r_58))] [box b_6 24 [.one (.int .i64 r_52), .one (.int .i64 r_53), .one (.int .i64 r_54), .one (.int .i64 r_55), .one (SV.v s18)], row Ei 2 s18 r_56, row Ei 2 s17 r_51, row Ei 2 s16 r_50, row Ei 2 s15 r_49, row Ei 2 s11 l4, row Ei 2 s10 l3, row Ei 2 s9 l2, row Ei 2 s8 l1, row Ei 2 s14 r_37, row Ei 2 s13 r_35, box b_4 24 [.one (.int .i64 r_22), .one (.int .i64 r_23), .one (.int .i64 r_24), .one (.int .i64 r_25), .one (SV.v s11)], box b_3 24 [.one (.int .i64 r_15), .one (.int .i64 r_16), .one (.int .i64 r_17), .one (.int .i64 r_18), .one (SV.v s8)], box b_2 24 [.one (.int .i64 r_9), .one (.int .i64 r_10), .one (.int .i64 r_11), .one (.int .i64 r_12), .one (SV.v s7)], row Ei 2 s7 r_13, row Ei 2 s6 r_8, row Ei 2 s5 r_7, row Ei 2 s4 r_6, box b_1 32 [.one (.int .i64 x1), .one (.int .i64 x2), .one (.int .i64 x3), .one (.int .i64 x4), .one (SV.v s1)], row Ei 2 (gs (g1 16)) r_33] ?_ ?_
                              · refine TL.cases (t := 125) (b := (!r_58)) rfl (fun c27 => ?_) (fun c28 => ?_)
                                · refine TL.skip rfl rfl (by decide) ?_
                                  refine TL.skip rfl rfl (by decide) ?_
                                  refine TL.skip rfl rfl (by decide) ?_
                                  refine TL.pick rfl rfl (b := true) rfl (r := .bool true) rfl ?_
                                  refine TL.done ?_
                                  exact TC.nrm () () ⟨(by rw [c27]; rfl), rfl, rfl, rfl, rfl, rfl, rfl, rfl, rfl, rfl, rfl, rfl, rfl, rfl, rfl, rfl, rfl, rfl, rfl, rfl, rfl, rfl, rfl, rfl, rfl, rfl, rfl, rfl, rfl, rfl, rfl, rfl, rfl, rfl, rfl, rfl, rfl, rfl, rfl, rfl, rfl, rfl, rfl, rfl, rfl, rfl, rfl, rfl, rfl, rfl, rfl, rfl, rfl, rfl, rfl, rfl, rfl, rfl, rfl, rfl, rfl, rfl, rfl, rfl, rfl, rfl, rfl, rfl, rfl, rfl, rfl, (by rw [c27]; rfl), trivial⟩ [0, 0, 0, 0, 0, 0, 0, 0, 0, 0, 0, 0, 0, 0, 0, 0, 0, 0, 0, 0] (by kernel_rfl)
                                · refine TL.move rfl rfl (v := .int .i64 r_57) rfl ?_
                                  refine TL.move rfl rfl (v := .int .i64 r_14) rfl ?_
                                  refine TL.bin .i64 r_57 r_14 rfl rfl rfl rfl (v := .bool (r_57 != r_14)) rfl ?_
                                  refine TL.pick rfl rfl (b := false) rfl (r := .bool (r_57 != r_14)) rfl ?_
                                  refine TL.done ?_
                                  exact TC.nrm () () ⟨(by rw [c28]; rfl), rfl, rfl, rfl, rfl, rfl, rfl, rfl, rfl, rfl, rfl, rfl, rfl, rfl, rfl, rfl, rfl, rfl, rfl, rfl, rfl, rfl, rfl, rfl, rfl, rfl, rfl, rfl, rfl, rfl, rfl, rfl, rfl, rfl, rfl, rfl, rfl, rfl, rfl, rfl, rfl, rfl, rfl, rfl, rfl, rfl, rfl, rfl, rfl, rfl, rfl, rfl, rfl, rfl, rfl, rfl, rfl, rfl, rfl, rfl, rfl, rfl, rfl, rfl, rfl, rfl, rfl, rfl, rfl, rfl, rfl, (by rw [c28]; rfl), trivial⟩ [0, 0, 0, 0, 0, 0, 0, 0, 0, 0, 0, 0, 0, 0, 0, 0, 0, 0, 0, 0] (by kernel_rfl)
                              · refine TL.done ?_
                                refine TC.cond (b := ((!r_58) || (r_57 != r_14))) rfl (fun c29 => ?_) (fun c30 => ?_)
                                · refine TC.seq ?_
                                  refine TC.region ?_
                                  refine TL.assign rfl rfl (v := .bool false) rfl ?_
                                  refine TL.done ?_
                                  exact TC.retF (Fin.body (fin1 (.inr rfl) rfl (.tmp rfl) [] rfl ⟨rfl, rfl⟩))
                                · refine TC.skip ?_
                                  refine TC.seq ?_
                                  refine TC.region ?_
                                  refine TL.assign rfl rfl (v := .int .i64 1) rfl ?_
                                  refine TL.done ?_
                                  refine TC.seq ?_
                                  refine TC.region ?_
                                  refine TL.loadM 0 5 (Src.box 11 rfl) Try.isAgg24 Try.sizeOf24 (mid := [.one (.int .i64 r_22), .one (.int .i64 r_23), .one (.int .i64 r_24), .one (.int .i64 r_25), .one (SV.v s11)]) rfl rfl rfl rfl rfl rfl ?_
                                  refine TL.move rfl rfl (v := .int .i64 1) rfl ?_
                                  refine TL.call (R := G.laws_heldTensor.R) Try.call16 rfl rfl rfl (fun w hS => G.laws_heldTensor.calls w r_22 r_23 r_24 r_25 s11 l4 1 ((Rd.row 5 rfl) w hS)) ?_
                                  rintro r_59 _ _ ⟨rfl, rfl⟩
                                  refine TL.assign rfl rfl (v := .int .i64 r_59) rfl ?_
                                  refine TL.done ?_
                                  refine TC.seq ?_
                                  refine TC.seq ?_
                                  refine TC.region ?_
                                  refine TL.move rfl rfl (v := .int .i64 r_59) rfl ?_
                                  refine TL.bin .i64 r_59 0 rfl rfl rfl rfl (v := .bool (decide (r_59 < 0))) rfl ?_
                                  refine TL.done ?_
                                  refine TC.cond (b := (decide (r_59 < 0))) rfl (fun c31 => ?_) (fun c32 => ?_)
                                  · refine TC.seq ?_
                                    refine TC.region ?_
                                    refine TL.assign rfl rfl (v := .bool false) rfl ?_
                                    refine TL.done ?_
                                    exact TC.retF (Fin.body (fin1 (.inr rfl) rfl (.tmp rfl) [] rfl ⟨rfl, rfl⟩))
                                  · refine TC.skip ?_
                                    refine TC.seq ?_
                                    refine TC.seq ?_
                                    refine TC.region ?_
                                    refine TL.move rfl rfl (v := .int .i64 r_59) rfl ?_
                                    refine TL.move rfl rfl (v := .int .i64 r_43) rfl ?_
                                    refine TL.bin .i64 r_59 r_43 rfl rfl rfl rfl (v := .bool (r_59 != r_43)) rfl ?_
                                    refine TL.done ?_
                                    refine TC.cond (b := (r_59 != r_43)) rfl (fun c33 => ?_) (fun c34 => ?_)
                                    · refine TC.seq ?_
                                      refine TC.region ?_
                                      refine TL.assign rfl rfl (v := .bool false) rfl ?_
                                      refine TL.done ?_
                                      exact TC.retF (Fin.body (fin1 (.inr rfl) rfl (.tmp rfl) [] rfl ⟨rfl, rfl⟩))
                                    · refine TC.skip ?_
                                      refine TC.seq ?_
                                      refine TC.region ?_
                                      refine TL.assign rfl rfl (v := .bool true) rfl ?_
                                      refine TL.done ?_
                                      exact TC.retF (Fin.body (fin1 (.inr rfl) rfl (.tmp rfl) [] rfl ⟨rfl, rfl⟩))

end Go.Proofs.Ytjjfoofjipafiaa.G

/- spec.l01Mod, as a pure function. -/
set_option linter.unusedVariables false
namespace Go.Proofs.Ytjjfoofjipafiaa.G
open Go Go.Sx Go.Proofs

def spec_l01Mod.f (p1 : Int) (x1 : Int) : Option Int := nz p1 (some (Int.tmod (w64 ((Int.tmod x1 p1) + p1)) p1))

def spec_l01Mod.R (r : Int) (v : Value) (L : List Asn) : Prop := v = .int .i64 r ∧ L = []

set_option maxRecDepth 100000 in
set_option maxHeartbeats 4000000 in
theorem spec_l01Mod.calls (w : World) (p1 : Int) (x1 : Int) :
    ∀ r, spec_l01Mod.f p1 x1 = some r → Calls Try.prog 146 #[.int .i64 p1, .int .i64 x1] w (Ret w (spec_l01Mod.R r)) := by

  refine calls_T (n := 12) (Γ := [(0, .int .i64 p1), (1, .int .i64 x1)]) (R := spec_l01Mod.R) Try.func146 rfl rfl (Nat.le_of_ble_eq_true rfl) ⟨rfl, rfl, trivial⟩ ?_
  unfold spec_l01Mod.f
  refine TC.seq ?_
  refine TC.region ?_
  refine TL.assign rfl rfl (v := .int .i64 0) rfl ?_
  refine TL.done ?_
  refine TC.seq ?_
  refine TC.region ?_
  refine TL.move rfl rfl (v := .int .i64 x1) rfl ?_
  refine TL.move rfl rfl (v := .int .i64 p1) rfl ?_
  refine TL.nz fun z1 => ?_
  refine TL.rem .i64 x1 p1 z1 rfl rfl rfl rfl ?_
  refine TL.move rfl rfl (v := .int .i64 p1) rfl ?_
  refine TL.bin .i64 (Int.tmod x1 p1) p1 rfl rfl rfl rfl (v := .int .i64 (w64 ((Int.tmod x1 p1) + p1))) rfl ?_
  refine TL.move rfl rfl (v := .int .i64 p1) rfl ?_
  refine TL.rem .i64 (w64 ((Int.tmod x1 p1) + p1)) p1 z1 rfl rfl rfl rfl ?_
  refine TL.assign rfl rfl (v := .int .i64 (Int.tmod (w64 ((Int.tmod x1 p1) + p1)) p1)) rfl ?_
  refine TL.done ?_
  exact TC.retF (Fin.body (fin1 (.inr rfl) rfl (.tmp rfl) [] rfl ⟨rfl, rfl⟩))

end Go.Proofs.Ytjjfoofjipafiaa.G

/- spec.l03Sizes, as a pure function. -/
set_option linter.unusedVariables false
namespace Go.Proofs.Ytjjfoofjipafiaa.G
open Go Go.Sx Go.Proofs

def spec_l03Sizes.f (p1 : Int) (n_1 : Int) (in_1 : Int) (out1 : Int) : Option Int := (G.spec_l01Prime.f p1).bind (fun r_1 => (bif (!r_1) then some true else (G.spec_l01In.f n_1 1 6).bind (fun r_2 => some (!r_2))).bind (fun b_1 => (bif b_1 then some 2 else (bif ((decide (in_1 > 8)) || (decide (out1 > 8))) then some true else (G.spec_l03Power.f n_1 (w64 (in_1 + out1))).bind (fun r_3 => some (decide (r_3 > 1296)))).bind (fun b_2 => (bif b_2 then some 3 else some 0)))))

def spec_l03Sizes.R (r : Int) (v : Value) (L : List Asn) : Prop := v = .int .i64 r ∧ L = []

set_option maxRecDepth 100000 in
set_option maxHeartbeats 4000000 in
theorem spec_l03Sizes.calls (w : World) (p1 : Int) (n_1 : Int) (in_1 : Int) (out1 : Int) :
    ∀ r, spec_l03Sizes.f p1 n_1 in_1 out1 = some r → Calls Try.prog 44 #[.int .i64 p1, .int .i64 n_1, .int .i64 in_1, .int .i64 out1] w (Ret w (spec_l03Sizes.R r)) := by

  refine calls_T (n := 33) (Γ := [(0, .int .i64 p1), (1, .int .i64 n_1), (2, .int .i64 in_1), (3, .int .i64 out1)]) (R := spec_l03Sizes.R) Try.func44 rfl rfl (Nat.le_of_ble_eq_true rfl) ⟨rfl, rfl, rfl, rfl, trivial⟩ ?_
  unfold spec_l03Sizes.f
  refine TC.seq ?_
  refine TC.region ?_
  refine TL.assign rfl rfl (v := .int .i64 0) rfl ?_
  refine TL.done ?_
  refine TC.seq ?_
  refine TC.block NoEx.body ?_
  refine TC.seq ?_
  refine TC.region ?_
  refine TL.move rfl rfl (v := .int .i64 p1) rfl ?_
  refine TL.call (R := G.spec_l01Prime.R) Try.call82 rfl rfl rfl (fun w hS => G.spec_l01Prime.calls w p1) ?_
  rintro r_1 _ _ ⟨rfl, rfl⟩
  refine TL.not r_1 rfl rfl rfl ?_
  refine TL.move rfl rfl (v := .bool (!r_1)) rfl ?_
  refine TL.cutJ (σ := Bool) (γ := Unit) (Γ' := fun b_1 _ => [(17, .bool b_1), (0, .int .i64 p1), (1, .int .i64 n_1), (2, .int .i64 in_1), (3, .int .i64 out1), (8, .int .i64 0), (10, .int .i64 p1), (11, .bool r_1), (12, .bool (!r_1)), (13, .bool (!r_1))]) (L' := fun _ _ => []) 4 ?_ ?_
  · refine TL.ifb (t := 13) (b := (!r_1)) rfl (fun c1 => ?_) (fun c2 => ?_)
    · refine TL.skip rfl rfl (by decide) ?_
      refine TL.skip rfl rfl (by decide) ?_
      refine TL.skip rfl rfl (by decide) ?_
      refine TL.pick rfl rfl (b := true) rfl (r := .bool true) rfl ?_
      refine TL.done ?_
      exact TC.nrm (true) () ⟨rfl, rfl, rfl, rfl, rfl, rfl, rfl, rfl, rfl, (by rw [c1]; rfl), trivial⟩ [] (by kernel_rfl)
    · refine TL.move rfl rfl (v := .int .i64 n_1) rfl ?_
      refine TL.call (R := G.spec_l01In.R) Try.call49 rfl rfl rfl (fun w hS => G.spec_l01In.calls w n_1 1 6) ?_
      rintro r_2 _ _ ⟨rfl, rfl⟩
      refine TL.not r_2 rfl rfl rfl ?_
      refine TL.pick rfl rfl (b := false) rfl (r := .bool (!r_2)) rfl ?_
      refine TL.done ?_
      exact TC.nrm ((!r_2)) () ⟨rfl, rfl, rfl, rfl, rfl, rfl, rfl, rfl, rfl, (by rw [c2]; rfl), trivial⟩ [] (by kernel_rfl)
  · rintro b_1 _
    refine TL.assign rfl rfl (v := .bool b_1) rfl ?_
    refine TL.done ?_
    refine TC.cond (b := b_1) rfl (fun c3 => ?_) (fun c4 => ?_)
    · refine TC.seq ?_
      refine TC.region ?_
      refine TL.assign rfl rfl (v := .int .i64 2) rfl ?_
      refine TL.done ?_
      exact TC.retF (Fin.body (fin1 (.inr rfl) rfl (.tmp rfl) [] rfl ⟨rfl, rfl⟩))
    · refine TC.seq ?_
      refine TC.region ?_
      refine TL.move rfl rfl (v := .int .i64 in_1) rfl ?_
      refine TL.bin .i64 in_1 8 rfl rfl rfl rfl (v := .bool (decide (in_1 > 8))) rfl ?_
      refine TL.move rfl rfl (v := .bool (decide (in_1 > 8))) rfl ?_
      refine TL.cutU 3 [(24, .bool ((decide (in_1 > 8)) || (decide (out1 > 8)))), (0, .int .i64 p1), (1, .int .i64 n_1), (2, .int .i64 in_1), (3, .int .i64 out1), (8, .int .i64 0), (10, .int .i64 p1), (11, .bool r_1), (12, .bool (!r_1)), (13, .bool (!r_1)), (17, .bool b_1), (9, .bool b_1), (19, .int .i64 in_1), (20, .bool (decide (in_1 > 8))), (21, .bool (decide (in_1 > 8)))] [] ?_ ?_
      · refine TL.cases (t := 21) (b := (decide (in_1 > 8))) rfl (fun c5 => ?_) (fun c6 => ?_)
        · refine TL.skip rfl rfl (by decide) ?_
          refine TL.skip rfl rfl (by decide) ?_
          refine TL.pick rfl rfl (b := true) rfl (r := .bool true) rfl ?_
          refine TL.done ?_
          exact TC.nrm () () ⟨(by rw [c5]; rfl), rfl, rfl, rfl, rfl, rfl, rfl, rfl, rfl, rfl, rfl, rfl, rfl, rfl, (by rw [c5]; rfl), trivial⟩ [] (by kernel_rfl)
        · refine TL.move rfl rfl (v := .int .i64 out1) rfl ?_
          refine TL.bin .i64 out1 8 rfl rfl rfl rfl (v := .bool (decide (out1 > 8))) rfl ?_
          refine TL.pick rfl rfl (b := false) rfl (r := .bool (decide (out1 > 8))) rfl ?_
          refine TL.done ?_
          exact TC.nrm () () ⟨(by rw [c6]; rfl), rfl, rfl, rfl, rfl, rfl, rfl, rfl, rfl, rfl, rfl, rfl, rfl, rfl, (by rw [c6]; rfl), trivial⟩ [] (by kernel_rfl)
      · refine TL.move rfl rfl (v := .bool ((decide (in_1 > 8)) || (decide (out1 > 8)))) rfl ?_
        refine TL.cutJ (σ := Bool) (γ := Unit) (Γ' := fun b_2 _ => [(32, .bool b_2), (0, .int .i64 p1), (1, .int .i64 n_1), (2, .int .i64 in_1), (3, .int .i64 out1), (8, .int .i64 0), (10, .int .i64 p1), (11, .bool r_1), (12, .bool (!r_1)), (13, .bool (!r_1)), (17, .bool b_1), (9, .bool b_1), (19, .int .i64 in_1), (20, .bool (decide (in_1 > 8))), (21, .bool (decide (in_1 > 8))), (24, .bool ((decide (in_1 > 8)) || (decide (out1 > 8)))), (25, .bool ((decide (in_1 > 8)) || (decide (out1 > 8))))]) (L' := fun _ _ => []) 7 ?_ ?_
        · refine TL.ifb (t := 25) (b := ((decide (in_1 > 8)) || (decide (out1 > 8)))) rfl (fun c7 => ?_) (fun c8 => ?_)
          · refine TL.skip rfl rfl (by decide) ?_
            refine TL.skip rfl rfl (by decide) ?_
            refine TL.skip rfl rfl (by decide) ?_
            refine TL.skip rfl rfl (by decide) ?_
            refine TL.skip rfl rfl (by decide) ?_
            refine TL.skip rfl rfl (by decide) ?_
            refine TL.pick rfl rfl (b := true) rfl (r := .bool true) rfl ?_
            refine TL.done ?_
            exact TC.nrm (true) () ⟨rfl, rfl, rfl, rfl, rfl, rfl, rfl, rfl, rfl, rfl, rfl, rfl, rfl, rfl, rfl, rfl, (by rw [c7]; rfl), trivial⟩ [] (by kernel_rfl)
          · refine TL.move rfl rfl (v := .int .i64 n_1) rfl ?_
            refine TL.move rfl rfl (v := .int .i64 in_1) rfl ?_
            refine TL.move rfl rfl (v := .int .i64 out1) rfl ?_
            refine TL.bin .i64 in_1 out1 rfl rfl rfl rfl (v := .int .i64 (w64 (in_1 + out1))) rfl ?_
            refine TL.call (R := G.spec_l03Power.R) Try.call56 rfl rfl rfl (fun w hS => G.spec_l03Power.calls w n_1 (w64 (in_1 + out1))) ?_
            rintro r_3 _ _ ⟨rfl, rfl⟩
            refine TL.bin .i64 r_3 1296 rfl rfl rfl rfl (v := .bool (decide (r_3 > 1296))) rfl ?_
            refine TL.pick rfl rfl (b := false) rfl (r := .bool (decide (r_3 > 1296))) rfl ?_
            refine TL.done ?_
            exact TC.nrm ((decide (r_3 > 1296))) () ⟨rfl, rfl, rfl, rfl, rfl, rfl, rfl, rfl, rfl, rfl, rfl, rfl, rfl, rfl, rfl, rfl, (by rw [c8]; rfl), trivial⟩ [] (by kernel_rfl)
        · rintro b_2 _
          refine TL.assign rfl rfl (v := .bool b_2) rfl ?_
          refine TL.done ?_
          refine TC.cond (b := b_2) rfl (fun c9 => ?_) (fun c10 => ?_)
          · refine TC.seq ?_
            refine TC.region ?_
            refine TL.assign rfl rfl (v := .int .i64 3) rfl ?_
            refine TL.done ?_
            exact TC.retF (Fin.body (fin1 (.inr rfl) rfl (.tmp rfl) [] rfl ⟨rfl, rfl⟩))
          · refine TC.skip ?_
            refine TC.seq ?_
            refine TC.region ?_
            refine TL.assign rfl rfl (v := .int .i64 0) rfl ?_
            refine TL.done ?_
            exact TC.retF (Fin.body (fin1 (.inr rfl) rfl (.tmp rfl) [] rfl ⟨rfl, rfl⟩))

end Go.Proofs.Ytjjfoofjipafiaa.G
