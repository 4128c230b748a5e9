/- Functions of the program, as pure functions. -/
import Derived.Test.YtjjfoofjipafiaaMComposeTensors3
import Derived.Test.YtjjfoofjipafiaaProg
/- laws.FnExactComposeTensors, as a pure function. -/
set_option linter.unusedVariables false
namespace Go.Proofs.Ytjjfoofjipafiaa.G
open Go Go.Sx Go.Proofs

def laws_FnExactComposeTensors.f (x1 : Int) (x2 : Int) (x3 : Int) (x4 : Int) (x5 : List Int) (x6 : Int) (x7 : Int) (x8 : Int) (x9 : Int) (x10 : List Int) : Option Bool := (G.laws_szTensor.f x1 x2 x3 x4 x5 1048576).bind (fun r_1 => (bif (decide (r_1 < 0)) then some true else (G.laws_szTensor.f x6 x7 x8 x9 x10 r_1).bind (fun r_2 => (bif (decide (r_2 < 0)) then some true else (G.laws_toTensor.f x1 x2 x3 x4 x5).bind (fun p => match p with | (r_3, r_4, r_5, r_6, r_7) => (G.laws_toTensor.f x6 x7 x8 x9 x10).bind (fun p => match p with | (r_8, r_9, r_10, r_11, r_12) => (G.spec_ComposeTensors.f r_3 r_4 r_5 r_6 r_7 r_8 r_9 r_10 r_11 r_12).bind (fun p => match p with | (r_13, r_14, r_15, r_16, r_17, r_18) => (G.laws_toTensor.f x1 x2 x3 x4 x5).bind (fun p => match p with | (r_19, r_20, r_21, r_22, r_23) => (G.laws_toTensor.f x6 x7 x8 x9 x10).bind (fun p => match p with | (r_24, r_25, r_26, r_27, r_28) => (G.impl_ComposeTensors.f r_19 r_20 r_21 r_22 r_23 r_24 r_25 r_26 r_27 r_28).bind (fun p => match p with | (r_29, r_30, r_31, r_32, r_33, r_34) => (G.laws_eqTensor.f r_29 r_30 r_31 r_32 r_33 r_13 r_14 r_15 r_16 r_17).bind (fun r_35 => (bif ((!r_35) || (r_34 != r_18)) then some false else (G.laws_toTensor.f x1 x2 x3 x4 x5).bind (fun p => match p with | (r_36, r_37, r_38, r_39, r_40) => (G.laws_eqTensor.f r_19 r_20 r_21 r_22 r_23 r_36 r_37 r_38 r_39 r_40).bind (fun r_41 => (bif (!r_41) then some false else (G.laws_toTensor.f x6 x7 x8 x9 x10).bind (fun p => match p with | (r_42, r_43, r_44, r_45, r_46) => (G.laws_eqTensor.f r_24 r_25 r_26 r_27 r_28 r_42 r_43 r_44 r_45 r_46).bind (fun r_47 => (bif (!r_47) then some false else (G.laws_markTensor.f r_19 r_20 r_21 r_22 r_23 1).bind (fun p => match p with | (r_48, l1) => (G.laws_markTensor.f r_24 r_25 r_26 r_27 r_28 r_48).bind (fun p => match p with | (r_49, l2) => (bif (decide (r_49 < 0)) then some true else (G.laws_eqTensor.f r_29 r_30 r_31 r_32 r_33 r_13 r_14 r_15 r_16 r_17).bind (fun r_50 => some (!r_50))).bind (fun b_7 => (bif (b_7 || (r_34 != r_18)) then some false else (G.laws_markTensor.f r_29 r_30 r_31 r_32 r_33 1).bind (fun p => match p with | (r_51, l3) => (G.laws_heldTensor.f r_29 r_30 r_31 r_32 l3 1).bind (fun r_52 => (bif (decide (r_52 < 0)) then some false else (bif (r_52 != r_51) then some false else (G.laws_toTensor.f x1 x2 x3 x4 x5).bind (fun p => match p with | (r_53, r_54, r_55, r_56, r_57) => (G.laws_toTensor.f x6 x7 x8 x9 x10).bind (fun p => match p with | (r_58, r_59, r_60, r_61, r_62) => (G.impl_ComposeTensors.f r_53 r_54 r_55 r_56 r_57 r_58 r_59 r_60 r_61 r_62).bind (fun p => match p with | (r_63, r_64, r_65, r_66, r_67, r_68) => (G.laws_eqTensor.f r_63 r_64 r_65 r_66 r_67 r_13 r_14 r_15 r_16 r_17).bind (fun r_69 => (bif ((!r_69) || (r_68 != r_18)) then some false else (G.laws_heldTensor.f r_29 r_30 r_31 r_32 l3 1).bind (fun r_70 => (bif (decide (r_70 < 0)) then some false else (bif (r_70 != r_51) then some false else some true))))))))))))))))))))))))))))))))))

def laws_FnExactComposeTensors.R (r : Bool) (v : Value) (L : List Asn) : Prop := v = .bool r ∧ L = []

set_option maxRecDepth 100000 in
set_option maxHeartbeats 4000000 in
theorem laws_FnExactComposeTensors.calls (w : World) (x1 : Int) (x2 : Int) (x3 : Int) (x4 : Int) (s1 : SV) (x5 : List Int) (x6 : Int) (x7 : Int) (x8 : Int) (x9 : Int) (s2 : SV) (x10 : List Int) (h1 : Reads Ei (hp w) s1 x5) (h2 : Reads Ei (hp w) s2 x10) :
    ∀ r, laws_FnExactComposeTensors.f x1 x2 x3 x4 x5 x6 x7 x8 x9 x10 = some r → Calls Try.prog 8 #[sval [.one (.int .i64 x1), .one (.int .i64 x2), .one (.int .i64 x3), .one (.int .i64 x4), .one (SV.v s1)], sval [.one (.int .i64 x6), .one (.int .i64 x7), .one (.int .i64 x8), .one (.int .i64 x9), .one (SV.v s2)]] w (Ret w (laws_FnExactComposeTensors.R r)) := by

  refine calls_T (n := 119) (Γ := [(0, sval [.one (.int .i64 x1), .one (.int .i64 x2), .one (.int .i64 x3), .one (.int .i64 x4), .one (SV.v s1)]), (1, sval [.one (.int .i64 x6), .one (.int .i64 x7), .one (.int .i64 x8), .one (.int .i64 x9), .one (SV.v s2)])]) (R := laws_FnExactComposeTensors.R) Try.func8 rfl rfl (Nat.le_of_ble_eq_true rfl) ⟨rfl, rfl, trivial⟩ ?_
  unfold laws_FnExactComposeTensors.f
  refine TC.seq ?_
  refine TC.region ?_
  refine TL.box [.one (.int .i64 x1), .one (.int .i64 x2), .one (.int .i64 x3), .one (.int .i64 x4), .one (SV.v s1)] rfl rfl rfl rfl fun b_1 => ?_
  refine TL.box [.one (.int .i64 x6), .one (.int .i64 x7), .one (.int .i64 x8), .one (.int .i64 x9), .one (SV.v s2)] rfl rfl rfl rfl fun b_2 => ?_
  refine TL.assign rfl rfl (v := .bool false) rfl ?_
  refine TL.done ?_
  refine TC.seq ?_
  refine TC.region ?_
  refine TL.assign rfl rfl (v := .int .i64 1048576) rfl ?_
  refine TL.done ?_
  refine TC.seq ?_
  refine TC.region ?_
  refine TL.loadM 0 5 (Src.box 1 rfl) Try.isAgg32 Try.sizeOf32 (mid := [.one (.int .i64 x1), .one (.int .i64 x2), .one (.int .i64 x3), .one (.int .i64 x4), .one (SV.v s1)]) rfl rfl rfl rfl rfl rfl ?_
  refine TL.move rfl rfl (v := .int .i64 1048576) rfl ?_
  refine TL.call (R := G.laws_szTensor.R) Try.call19 rfl rfl rfl (fun w hS => G.laws_szTensor.calls w x1 x2 x3 x4 s1 x5 1048576 ((Rd.old h1) w hS)) ?_
  rintro r_1 _ _ ⟨rfl, rfl⟩
  refine TL.assign rfl rfl (v := .int .i64 r_1) rfl ?_
  refine TL.done ?_
  refine TC.seq ?_
  refine TC.seq ?_
  refine TC.region ?_
  refine TL.move rfl rfl (v := .int .i64 r_1) rfl ?_
  refine TL.bin .i64 r_1 0 rfl rfl rfl rfl (v := .bool (decide (r_1 < 0))) rfl ?_
  refine TL.done ?_
  refine TC.cond (b := (decide (r_1 < 0))) rfl (fun c1 => ?_) (fun c2 => ?_)
  · refine TC.seq ?_
    refine TC.region ?_
    refine TL.assign rfl rfl (v := .bool true) rfl ?_
    refine TL.done ?_
    exact TC.retF (Fin.body (fin1 (.inr rfl) rfl (.tmp rfl) [] rfl ⟨rfl, rfl⟩))
  · refine TC.skip ?_
    refine TC.seq ?_
    refine TC.region ?_
    refine TL.loadM 0 5 (Src.box 0 rfl) Try.isAgg32 Try.sizeOf32 (mid := [.one (.int .i64 x6), .one (.int .i64 x7), .one (.int .i64 x8), .one (.int .i64 x9), .one (SV.v s2)]) rfl rfl rfl rfl rfl rfl ?_
    refine TL.move rfl rfl (v := .int .i64 r_1) rfl ?_
    refine TL.call (R := G.laws_szTensor.R) Try.call19 rfl rfl rfl (fun w hS => G.laws_szTensor.calls w x6 x7 x8 x9 s2 x10 r_1 ((Rd.old h2) w hS)) ?_
    rintro r_2 _ _ ⟨rfl, rfl⟩
    refine TL.assign rfl rfl (v := .int .i64 r_2) rfl ?_
    refine TL.done ?_
    refine TC.seq ?_
    refine TC.seq ?_
    refine TC.region ?_
    refine TL.move rfl rfl (v := .int .i64 r_2) rfl ?_
    refine TL.bin .i64 r_2 0 rfl rfl rfl rfl (v := .bool (decide (r_2 < 0))) rfl ?_
    refine TL.done ?_
    refine TC.cond (b := (decide (r_2 < 0))) rfl (fun c3 => ?_) (fun c4 => ?_)
    · refine TC.seq ?_
      refine TC.region ?_
      refine TL.assign rfl rfl (v := .bool true) rfl ?_
      refine TL.done ?_
      exact TC.retF (Fin.body (fin1 (.inr rfl) rfl (.tmp rfl) [] rfl ⟨rfl, rfl⟩))
    · refine TC.skip ?_
      refine TC.seq ?_
      refine TC.wk (Γ' := [(0, sval [.one (.int .i64 x1), .one (.int .i64 x2), .one (.int .i64 x3), .one (.int .i64 x4), .one (SV.v s1)]), (1, sval [.one (.int .i64 x6), .one (.int .i64 x7), .one (.int .i64 x8), .one (.int .i64 x9), .one (SV.v s2)]), (2, bp b_1 0), (3, bp b_2 0), (4, .bool false), (5, .int .i64 r_2), (17, sval [.one (.int .i64 x1), .one (.int .i64 x2), .one (.int .i64 x3), .one (.int .i64 x4), .one (SV.v s1)]), (18, .int .i64 1048576), (19, .int .i64 r_1), (20, .int .i64 r_1), (21, .bool (decide (r_1 < 0))), (22, sval [.one (.int .i64 x6), .one (.int .i64 x7), .one (.int .i64 x8), .one (.int .i64 x9), .one (SV.v s2)]), (23, .int .i64 r_1), (24, .int .i64 r_2), (25, .int .i64 r_2), (26, .bool (decide (r_2 < 0)))]) ⟨rfl, rfl, rfl, rfl, rfl, rfl, rfl, rfl, rfl, rfl, rfl, rfl, rfl, rfl, rfl, rfl, trivial⟩ ?_
      refine TC.bindE ?_
      rintro ⟨r_3, r_4, r_5, r_6, r_7⟩ hr1
      refine TC.bindE ?_
      rintro ⟨r_8, r_9, r_10, r_11, r_12⟩ hr2
      refine TC.bindE ?_
      rintro ⟨r_13, r_14, r_15, r_16, r_17, r_18⟩ hr3
      refine TC.drawG [(0, sval [.one (.int .i64 x1), .one (.int .i64 x2), .one (.int .i64 x3), .one (.int .i64 x4), .one (SV.v s1)]), (1, sval [.one (.int .i64 x6), .one (.int .i64 x7), .one (.int .i64 x8), .one (.int .i64 x9), .one (SV.v s2)]), (2, bp b_1 0), (3, bp b_2 0), (4, .bool false), (5, .int .i64 r_2), (17, sval [.one (.int .i64 x1), .one (.int .i64 x2), .one (.int .i64 x3), .one (.int .i64 x4), .one (SV.v s1)]), (18, .int .i64 1048576), (19, .int .i64 r_1), (20, .int .i64 r_1), (21, .bool (decide (r_1 < 0))), (22, sval [.one (.int .i64 x6), .one (.int .i64 x7), .one (.int .i64 x8), .one (.int .i64 x9), .one (SV.v s2)]), (23, .int .i64 r_1), (24, .int .i64 r_2), (25, .int .i64 r_2), (26, .bool (decide (r_2 < 0)))] [] ⟨rfl, rfl, rfl, rfl, rfl, rfl, rfl, rfl, rfl, rfl, rfl, rfl, rfl, rfl, rfl, rfl, trivial⟩ trivial (fun l_ g1 => [box b_2 32 [.one (.int .i64 x6), .one (.int .i64 x7), .one (.int .i64 x8), .one (.int .i64 x9), .one (SV.v s2)], box b_1 32 [.one (.int .i64 x1), .one (.int .i64 x2), .one (.int .i64 x3), .one (.int .i64 x4), .one (SV.v s1)], (bif nb l_ 1 then row Ei 2 (gs (g1 8)) r_7 else emp), (bif nb l_ 3 then row Ei 2 (gs (g1 24)) r_12 else emp), (bif nb l_ 4 then row Ei 2 (gs (g1 32)) r_17 else emp), (bif nb l_ 9 then box (gs (g1 64)).n 24 [.one (.int .i64 r_13), .one (.int .i64 r_14), .one (.int .i64 r_15), .one (.int .i64 r_16), .one (SV.v (gs (g1 32)))] else (bif nb l_ 8 then box (gs (g1 64)).n 24 [.one (.int .i64 0), .one (.int .i64 0), .one (.int .i64 0), .one (.int .i64 0), .one (SV.v ⟨none, 0, 0⟩)] else emp))]) (fun g1 => [sval [.one (.int .i64 x1), .one (.int .i64 x2), .one (.int .i64 x3), .one (.int .i64 x4), .one (SV.v s1)], sval [.one (.int .i64 r_3), .one (.int .i64 r_4), .one (.int .i64 r_5), .one (.int .i64 r_6), .one (SV.v (gs (g1 8)))], sval [.one (.int .i64 x6), .one (.int .i64 x7), .one (.int .i64 x8), .one (.int .i64 x9), .one (SV.v s2)], sval [.one (.int .i64 r_8), .one (.int .i64 r_9), .one (.int .i64 r_10), .one (.int .i64 r_11), .one (SV.v (gs (g1 24)))], .tuple #[sval [.one (.int .i64 r_13), .one (.int .i64 r_14), .one (.int .i64 r_15), .one (.int .i64 r_16), .one (SV.v (gs (g1 32)))], .int .i64 r_18], .tuple #[sval [.one (.int .i64 r_13), .one (.int .i64 r_14), .one (.int .i64 r_15), .one (.int .i64 r_16), .one (SV.v (gs (g1 32)))], .int .i64 r_18], sval [.one (.int .i64 r_13), .one (.int .i64 r_14), .one (.int .i64 r_15), .one (.int .i64 r_16), .one (SV.v (gs (g1 32)))], .int .i64 r_18, bp (gs (g1 64)).n 0, undef, .int .i64 r_18]) [[], [0], [], [0, 1, 2], [0, 1, 2, 3], [0, 1, 2, 3, 4], [0, 1, 2, 3, 4, 5], [0, 1, 2, 3, 4, 5], [], [0, 1, 2, 3, 4, 5, 6, 8], [0, 1, 2, 3, 4, 5, 6, 7, 8, 9]] [[some false, some false, none, some false, some false, some false, some false, some false, none, some false, some false], [some true, some false, none, some false, some false, some false, some false, some false, none, some false, some false], [none, none, some false, some false, some false, some false, some false, some false, none, some false, some false], [some true, some true, some true, some false, some false, some false, some false, some false, none, some false, some false], [some true, some true, some true, some true, some false, some false, some false, some false, none, some false, some false], [some true, some true, some true, some true, some true, some false, some false, some false, none, some false, some false], [some true, some true, some true, some true, some true, some true, some false, none, none, some false, some false], [some true, some true, some true, some true, some true, some true, none, some false, none, none, some false], [none, none, none, none, none, none, none, none, some false, some false, some false], [some true, some true, some true, some true, some true, some true, some true, none, some true, some false, some false], [some true, some true, some true, some true, some true, some true, some true, some true, some true, some true, some false]] (by kernel_rfl) (fun _ => rfl) rfl rfl rfl rfl rfl (fun _ _ => ⟨⟨⟨⟨⟨⟨⟨⟨⟨⟨⟨trivial, rfl⟩, rfl⟩, rfl⟩, rfl⟩, rfl⟩, rfl⟩, rfl⟩, rfl⟩, rfl⟩, rfl⟩, rfl⟩) 4 [4, 4, 0, 0, 0, 0] (fun _ => by kernel_rfl) ?_ ?_
      · refine ⟨rfl, ?_, rfl, ?_, rfl, ?_, rfl, ?_, rfl, ?_, rfl, ?_, rfl, ?_, rfl, ?_, rfl, ?_, rfl, ?_, rfl, ?_, trivial⟩
        · intro b2_ b8_ g1
          refine TL.asL [box b_2 32 [.one (.int .i64 x6), .one (.int .i64 x7), .one (.int .i64 x8), .one (.int .i64 x9), .one (SV.v s2)], box b_1 32 [.one (.int .i64 x1), .one (.int .i64 x2), .one (.int .i64 x3), .one (.int .i64 x4), .one (SV.v s1)], emp, emp, emp, (bif b8_ then box (gs (g1 64)).n 24 [.one (.int .i64 0), .one (.int .i64 0), .one (.int .i64 0), .one (.int .i64 0), .one (SV.v ⟨none, 0, 0⟩)] else emp)] (by kernel_rfl) ?_
          refine TL.loadM 0 5 (Src.box 1 rfl) Try.isAgg32 Try.sizeOf32 (mid := [.one (.int .i64 x1), .one (.int .i64 x2), .one (.int .i64 x3), .one (.int .i64 x4), .one (SV.v s1)]) rfl rfl rfl rfl rfl rfl ?_
          refine TL.done ?_
          exact TC.nrm () [] ⟨rfl, trivial⟩ [0, 0, 0, 0, 0, 0] (by kernel_rfl)
        · intro b2_ b8_ g1
          refine TL.asL [box b_2 32 [.one (.int .i64 x6), .one (.int .i64 x7), .one (.int .i64 x8), .one (.int .i64 x9), .one (SV.v s2)], box b_1 32 [.one (.int .i64 x1), .one (.int .i64 x2), .one (.int .i64 x3), .one (.int .i64 x4), .one (SV.v s1)], emp, emp, emp, (bif b8_ then box (gs (g1 64)).n 24 [.one (.int .i64 0), .one (.int .i64 0), .one (.int .i64 0), .one (.int .i64 0), .one (SV.v ⟨none, 0, 0⟩)] else emp)] (by kernel_rfl) ?_
          refine TL.callH (R := G.laws_toTensor.R) hr1 Try.call21 rfl rfl rfl (fun w hS => G.laws_toTensor.calls w x1 x2 x3 x4 s1 x5 ((Rd.old h1) w hS)) ?_
          rintro _ _ ⟨s3, rfl, rfl⟩
          refine TL.done ?_
          exact TC.nrm () [[s3]] ⟨rfl, trivial⟩ [1, 1, 0, 1, 1, 1] (by kernel_rfl)
        · intro b0_ b1_ b8_ g1
          refine TL.asL [box b_2 32 [.one (.int .i64 x6), .one (.int .i64 x7), .one (.int .i64 x8), .one (.int .i64 x9), .one (SV.v s2)], box b_1 32 [.one (.int .i64 x1), .one (.int .i64 x2), .one (.int .i64 x3), .one (.int .i64 x4), .one (SV.v s1)], (bif b1_ then row Ei 2 (gs (g1 8)) r_7 else emp), emp, emp, (bif b8_ then box (gs (g1 64)).n 24 [.one (.int .i64 0), .one (.int .i64 0), .one (.int .i64 0), .one (.int .i64 0), .one (SV.v ⟨none, 0, 0⟩)] else emp)] (by kernel_rfl) ?_
          refine TL.loadM 0 5 (Src.box 0 rfl) Try.isAgg32 Try.sizeOf32 (mid := [.one (.int .i64 x6), .one (.int .i64 x7), .one (.int .i64 x8), .one (.int .i64 x9), .one (SV.v s2)]) rfl rfl rfl rfl rfl rfl ?_
          refine TL.done ?_
          exact TC.nrm () [] ⟨rfl, trivial⟩ [0, 0, 0, 0, 0, 0] (by kernel_rfl)
        · intro b8_ g1
          refine TL.asL [box b_2 32 [.one (.int .i64 x6), .one (.int .i64 x7), .one (.int .i64 x8), .one (.int .i64 x9), .one (SV.v s2)], box b_1 32 [.one (.int .i64 x1), .one (.int .i64 x2), .one (.int .i64 x3), .one (.int .i64 x4), .one (SV.v s1)], row Ei 2 (gs (g1 8)) r_7, emp, emp, (bif b8_ then box (gs (g1 64)).n 24 [.one (.int .i64 0), .one (.int .i64 0), .one (.int .i64 0), .one (.int .i64 0), .one (SV.v ⟨none, 0, 0⟩)] else emp)] (by kernel_rfl) ?_
          refine TL.callH (R := G.laws_toTensor.R) hr2 Try.call21 rfl rfl rfl (fun w hS => G.laws_toTensor.calls w x6 x7 x8 x9 s2 x10 ((Rd.old h2) w hS)) ?_
          rintro _ _ ⟨s4, rfl, rfl⟩
          refine TL.done ?_
          exact TC.nrm () [[s4]] ⟨rfl, trivial⟩ [1, 1, 1, 0, 1, 1] (by kernel_rfl)
        · intro b8_ g1
          refine TL.asL [box b_2 32 [.one (.int .i64 x6), .one (.int .i64 x7), .one (.int .i64 x8), .one (.int .i64 x9), .one (SV.v s2)], box b_1 32 [.one (.int .i64 x1), .one (.int .i64 x2), .one (.int .i64 x3), .one (.int .i64 x4), .one (SV.v s1)], row Ei 2 (gs (g1 8)) r_7, row Ei 2 (gs (g1 24)) r_12, emp, (bif b8_ then box (gs (g1 64)).n 24 [.one (.int .i64 0), .one (.int .i64 0), .one (.int .i64 0), .one (.int .i64 0), .one (SV.v ⟨none, 0, 0⟩)] else emp)] (by kernel_rfl) ?_
          refine TL.callH (R := G.spec_ComposeTensors.R) hr3 Try.call27 rfl rfl rfl (fun w hS => G.spec_ComposeTensors.calls w r_3 r_4 r_5 r_6 (gs (g1 8)) r_7 r_8 r_9 r_10 r_11 (gs (g1 24)) r_12 ((Rd.row 2 rfl) w hS) ((Rd.row 3 rfl) w hS)) ?_
          rintro _ _ ⟨s5, rfl, rfl⟩
          refine TL.done ?_
          exact TC.nrm () [[s5]] ⟨rfl, trivial⟩ [1, 1, 1, 1, 0, 1] (by kernel_rfl)
        · intro b8_ g1
          refine TL.move rfl rfl (v := .tuple #[sval [.one (.int .i64 r_13), .one (.int .i64 r_14), .one (.int .i64 r_15), .one (.int .i64 r_16), .one (SV.v (gs (g1 32)))], .int .i64 r_18]) rfl ?_
          refine TL.done ?_
          exact TC.nrm () [] ⟨rfl, trivial⟩ [0, 0, 0, 0, 0, 0] (by kernel_rfl)
        · intro b7_ b8_ g1
          refine TL.extract rfl rfl rfl (v := sval [.one (.int .i64 r_13), .one (.int .i64 r_14), .one (.int .i64 r_15), .one (.int .i64 r_16), .one (SV.v (gs (g1 32)))]) rfl ?_
          refine TL.done ?_
          exact TC.nrm () [] ⟨rfl, trivial⟩ [0, 0, 0, 0, 0, 0] (by kernel_rfl)
        · intro b6_ b8_ b9_ g1
          refine TL.extract rfl rfl rfl (v := .int .i64 r_18) rfl ?_
          refine TL.done ?_
          exact TC.nrm () [] ⟨rfl, trivial⟩ [0, 0, 0, 0, 0, 0] (by kernel_rfl)
        · intro b0_ b1_ b2_ b3_ b4_ b5_ b6_ b7_ g1
          refine TL.asL [box b_2 32 [.one (.int .i64 x6), .one (.int .i64 x7), .one (.int .i64 x8), .one (.int .i64 x9), .one (SV.v s2)], box b_1 32 [.one (.int .i64 x1), .one (.int .i64 x2), .one (.int .i64 x3), .one (.int .i64 x4), .one (SV.v s1)], (bif b1_ then row Ei 2 (gs (g1 8)) r_7 else emp), (bif b3_ then row Ei 2 (gs (g1 24)) r_12 else emp), (bif b4_ then row Ei 2 (gs (g1 32)) r_17 else emp), emp] (by kernel_rfl) ?_
          refine TL.alloc [.one (.int .i64 0), .one (.int .i64 0), .one (.int .i64 0), .one (.int .i64 0), .one (SV.v ⟨none, 0, 0⟩)] rfl rfl Try.zeroValue24 rfl fun b_3 => ?_
          refine TL.done ?_
          exact TC.nrm () [[⟨none, b_3, 0⟩]] ⟨rfl, trivial⟩ [1, 1, 1, 1, 1, 0] (by kernel_rfl)
        · intro b7_ g1
          refine TL.asL [box b_2 32 [.one (.int .i64 x6), .one (.int .i64 x7), .one (.int .i64 x8), .one (.int .i64 x9), .one (SV.v s2)], box b_1 32 [.one (.int .i64 x1), .one (.int .i64 x2), .one (.int .i64 x3), .one (.int .i64 x4), .one (SV.v s1)], row Ei 2 (gs (g1 8)) r_7, row Ei 2 (gs (g1 24)) r_12, row Ei 2 (gs (g1 32)) r_17, box (gs (g1 64)).n 24 [.one (.int .i64 0), .one (.int .i64 0), .one (.int .i64 0), .one (.int .i64 0), .one (SV.v ⟨none, 0, 0⟩)]] (by kernel_rfl) ?_
          refine TL.stM (news := [.one (.int .i64 r_13), .one (.int .i64 r_14), .one (.int .i64 r_15), .one (.int .i64 r_16), .one (SV.v (gs (g1 32)))]) 5 0 5 rfl Try.sizeOf24 (ones_one rfl (ones_one rfl (ones_one rfl (ones_one rfl (ones_one rfl ones_nil))))) rfl rfl rfl rfl rfl rfl ?_
          refine TL.done ?_
          exact TC.nrm () [] trivial [0, 0, 0, 0, 0, 0] (by kernel_rfl)
        · intro g1
          refine TL.assign rfl rfl (v := .int .i64 r_18) rfl ?_
          refine TL.done ?_
          exact TC.nrm () [] ⟨rfl, trivial⟩ [0, 0, 0, 0, 0, 0] (by kernel_rfl)
      · intro g1
        refine TC.asL [box b_2 32 [.one (.int .i64 x6), .one (.int .i64 x7), .one (.int .i64 x8), .one (.int .i64 x9), .one (SV.v s2)], box b_1 32 [.one (.int .i64 x1), .one (.int .i64 x2), .one (.int .i64 x3), .one (.int .i64 x4), .one (SV.v s1)], row Ei 2 (gs (g1 8)) r_7, row Ei 2 (gs (g1 24)) r_12, row Ei 2 (gs (g1 32)) r_17, box (gs (g1 64)).n 24 [.one (.int .i64 r_13), .one (.int .i64 r_14), .one (.int .i64 r_15), .one (.int .i64 r_16), .one (SV.v (gs (g1 32)))]] (by kernel_rfl) ?_
        refine TC.seq ?_
        refine TC.region ?_
        refine TL.loadM 0 5 (Src.box 1 rfl) Try.isAgg32 Try.sizeOf32 (mid := [.one (.int .i64 x1), .one (.int .i64 x2), .one (.int .i64 x3), .one (.int .i64 x4), .one (SV.v s1)]) rfl rfl rfl rfl rfl rfl ?_
        refine TL.call (R := G.laws_toTensor.R) Try.call21 rfl rfl rfl (fun w hS => G.laws_toTensor.calls w x1 x2 x3 x4 s1 x5 ((Rd.old h1) w hS)) ?_
        rintro ⟨r_19, r_20, r_21, r_22, r_23⟩ _ _ ⟨s6, rfl, rfl⟩
        refine TL.alloc [.one (.int .i64 0), .one (.int .i64 0), .one (.int .i64 0), .one (.int .i64 0), .one (SV.v ⟨none, 0, 0⟩)] rfl rfl Try.zeroValue24 rfl fun b_4 => ?_
        refine TL.stM (news := [.one (.int .i64 r_19), .one (.int .i64 r_20), .one (.int .i64 r_21), .one (.int .i64 r_22), .one (SV.v s6)]) 0 0 5 rfl Try.sizeOf24 (ones_one rfl (ones_one rfl (ones_one rfl (ones_one rfl (ones_one rfl ones_nil))))) rfl rfl rfl rfl rfl rfl ?_
        refine TL.done ?_
        refine TC.seq ?_
        refine TC.region ?_
        refine TL.loadM 0 5 (Src.box 2 rfl) Try.isAgg32 Try.sizeOf32 (mid := [.one (.int .i64 x6), .one (.int .i64 x7), .one (.int .i64 x8), .one (.int .i64 x9), .one (SV.v s2)]) rfl rfl rfl rfl rfl rfl ?_
        refine TL.call (R := G.laws_toTensor.R) Try.call21 rfl rfl rfl (fun w hS => G.laws_toTensor.calls w x6 x7 x8 x9 s2 x10 ((Rd.old h2) w hS)) ?_
        rintro ⟨r_24, r_25, r_26, r_27, r_28⟩ _ _ ⟨s7, rfl, rfl⟩
        refine TL.alloc [.one (.int .i64 0), .one (.int .i64 0), .one (.int .i64 0), .one (.int .i64 0), .one (SV.v ⟨none, 0, 0⟩)] rfl rfl Try.zeroValue24 rfl fun b_5 => ?_
        refine TL.stM (news := [.one (.int .i64 r_24), .one (.int .i64 r_25), .one (.int .i64 r_26), .one (.int .i64 r_27), .one (SV.v s7)]) 0 0 5 rfl Try.sizeOf24 (ones_one rfl (ones_one rfl (ones_one rfl (ones_one rfl (ones_one rfl ones_nil))))) rfl rfl rfl rfl rfl rfl ?_
        refine TL.done ?_
        refine TC.seq ?_
        refine TC.region ?_
        refine TL.loadM 0 5 (Src.box 2 rfl) Try.isAgg24 Try.sizeOf24 (mid := [.one (.int .i64 r_19), .one (.int .i64 r_20), .one (.int .i64 r_21), .one (.int .i64 r_22), .one (SV.v s6)]) rfl rfl rfl rfl rfl rfl ?_
        refine TL.loadM 0 5 (Src.box 0 rfl) Try.isAgg24 Try.sizeOf24 (mid := [.one (.int .i64 r_24), .one (.int .i64 r_25), .one (.int .i64 r_26), .one (.int .i64 r_27), .one (SV.v s7)]) rfl rfl rfl rfl rfl rfl ?_
        refine TL.call (R := G.impl_ComposeTensors.R) Try.call28 rfl rfl rfl (fun w hS => G.impl_ComposeTensors.calls w r_19 r_20 r_21 r_22 s6 r_23 r_24 r_25 r_26 r_27 s7 r_28 ((Rd.row 3 rfl) w hS) ((Rd.row 1 rfl) w hS)) ?_
        rintro ⟨r_29, r_30, r_31, r_32, r_33, r_34⟩ _ _ ⟨s8, rfl, rfl⟩
        refine TL.move rfl rfl (v := .tuple #[sval [.one (.int .i64 r_29), .one (.int .i64 r_30), .one (.int .i64 r_31), .one (.int .i64 r_32), .one (SV.v s8)], .int .i64 r_34]) rfl ?_
        refine TL.extract rfl rfl rfl (v := sval [.one (.int .i64 r_29), .one (.int .i64 r_30), .one (.int .i64 r_31), .one (.int .i64 r_32), .one (SV.v s8)]) rfl ?_
        refine TL.extract rfl rfl rfl (v := .int .i64 r_34) rfl ?_
        refine TL.alloc [.one (.int .i64 0), .one (.int .i64 0), .one (.int .i64 0), .one (.int .i64 0), .one (SV.v ⟨none, 0, 0⟩)] rfl rfl Try.zeroValue24 rfl fun b_6 => ?_
        refine TL.stM (news := [.one (.int .i64 r_29), .one (.int .i64 r_30), .one (.int .i64 r_31), .one (.int .i64 r_32), .one (SV.v s8)]) 0 0 5 rfl Try.sizeOf24 (ones_one rfl (ones_one rfl (ones_one rfl (ones_one rfl (ones_one rfl ones_nil))))) rfl rfl rfl rfl rfl rfl ?_
        refine TL.assign rfl rfl (v := .int .i64 r_34) rfl ?_
        refine TL.done ?_
        refine TC.seq ?_
        refine TC.seq ?_
        refine TC.region ?_
        refine TL.loadM 0 5 (Src.box 0 rfl) Try.isAgg24 Try.sizeOf24 (mid := [.one (.int .i64 r_29), .one (.int .i64 r_30), .one (.int .i64 r_31), .one (.int .i64 r_32), .one (SV.v s8)]) rfl rfl rfl rfl rfl rfl ?_
        refine TL.loadM 0 5 (Src.box 11 rfl) Try.isAgg24 Try.sizeOf24 (mid := [.one (.int .i64 r_13), .one (.int .i64 r_14), .one (.int .i64 r_15), .one (.int .i64 r_16), .one (SV.v (gs (g1 32)))]) rfl rfl rfl rfl rfl rfl ?_
        refine TL.call (R := G.laws_eqTensor.R) Try.call14 rfl rfl rfl (fun w hS => G.laws_eqTensor.calls w r_29 r_30 r_31 r_32 s8 r_33 r_13 r_14 r_15 r_16 (gs (g1 32)) r_17 ((Rd.row 1 rfl) w hS) ((Rd.row 10 rfl) w hS)) ?_
        rintro r_35 _ _ ⟨rfl, rfl⟩
        refine TL.not r_35 rfl rfl rfl ?_
        refine TL.move rfl rfl (v := .bool (!r_35)) rfl ?_
        refine TL.cutU 4 [(53, .bool ((!r_35) || (r_34 != r_18))), (0, sval [.one (.int .i64 x1), .one (.int .i64 x2), .one (.int .i64 x3), .one (.int .i64 x4), .one (SV.v s1)]), (1, sval [.one (.int .i64 x6), .one (.int .i64 x7), .one (.int .i64 x8), .one (.int .i64 x9), .one (SV.v s2)]), (2, bp b_1 0), (3, bp b_2 0), (4, .bool false), (5, .int .i64 r_2), (17, sval [.one (.int .i64 x1), .one (.int .i64 x2), .one (.int .i64 x3), .one (.int .i64 x4), .one (SV.v s1)]), (18, .int .i64 1048576), (19, .int .i64 r_1), (20, .int .i64 r_1), (21, .bool (decide (r_1 < 0))), (22, sval [.one (.int .i64 x6), .one (.int .i64 x7), .one (.int .i64 x8), .one (.int .i64 x9), .one (SV.v s2)]), (23, .int .i64 r_1), (24, .int .i64 r_2), (25, .int .i64 r_2), (26, .bool (decide (r_2 < 0))), (28, sval [.one (.int .i64 x1), .one (.int .i64 x2), .one (.int .i64 x3), .one (.int .i64 x4), .one (SV.v s1)]), (29, sval [.one (.int .i64 r_3), .one (.int .i64 r_4), .one (.int .i64 r_5), .one (.int .i64 r_6), .one (SV.v (gs (g1 8)))]), (30, sval [.one (.int .i64 x6), .one (.int .i64 x7), .one (.int .i64 x8), .one (.int .i64 x9), .one (SV.v s2)]), (31, sval [.one (.int .i64 r_8), .one (.int .i64 r_9), .one (.int .i64 r_10), .one (.int .i64 r_11), .one (SV.v (gs (g1 24)))]), (32, .tuple #[sval [.one (.int .i64 r_13), .one (.int .i64 r_14), .one (.int .i64 r_15), .one (.int .i64 r_16), .one (SV.v (gs (g1 32)))], .int .i64 r_18]), (27, .tuple #[sval [.one (.int .i64 r_13), .one (.int .i64 r_14), .one (.int .i64 r_15), .one (.int .i64 r_16), .one (SV.v (gs (g1 32)))], .int .i64 r_18]), (33, sval [.one (.int .i64 r_13), .one (.int .i64 r_14), .one (.int .i64 r_15), .one (.int .i64 r_16), .one (SV.v (gs (g1 32)))]), (34, .int .i64 r_18), (6, bp (gs (g1 64)).n 0), (7, .int .i64 r_18), (35, sval [.one (.int .i64 x1), .one (.int .i64 x2), .one (.int .i64 x3), .one (.int .i64 x4), .one (SV.v s1)]), (36, sval [.one (.int .i64 r_19), .one (.int .i64 r_20), .one (.int .i64 r_21), .one (.int .i64 r_22), .one (SV.v s6)]), (8, bp b_4 0), (37, sval [.one (.int .i64 x6), .one (.int .i64 x7), .one (.int .i64 x8), .one (.int .i64 x9), .one (SV.v s2)]), (38, sval [.one (.int .i64 r_24), .one (.int .i64 r_25), .one (.int .i64 r_26), .one (.int .i64 r_27), .one (SV.v s7)]), (9, bp b_5 0), (40, sval [.one (.int .i64 r_19), .one (.int .i64 r_20), .one (.int .i64 r_21), .one (.int .i64 r_22), .one (SV.v s6)]), (41, sval [.one (.int .i64 r_24), .one (.int .i64 r_25), .one (.int .i64 r_26), .one (.int .i64 r_27), .one (SV.v s7)]), (42, .tuple #[sval [.one (.int .i64 r_29), .one (.int .i64 r_30), .one (.int .i64 r_31), .one (.int .i64 r_32), .one (SV.v s8)], .int .i64 r_34]), (39, .tuple #[sval [.one (.int .i64 r_29), .one (.int .i64 r_30), .one (.int .i64 r_31), .one (.int .i64 r_32), .one (SV.v s8)], .int .i64 r_34]), (43, sval [.one (.int .i64 r_29), .one (.int .i64 r_30), .one (.int .i64 r_31), .one (.int .i64 r_32), .one (SV.v s8)]), (44, .int .i64 r_34), (10, bp b_6 0), (11, .int .i64 r_34), (45, sval [.one (.int .i64 r_29), .one (.int .i64 r_30), .one (.int .i64 r_31), .one (.int .i64 r_32), .one (SV.v s8)]), (46, sval [.one (.int .i64 r_13), .one (.int .i64 r_14), .one (.int .i64 r_15), .one (.int .i64 r_16), .one (SV.v (gs (g1 32)))]), (47, .bool r_35), (48, .bool (!r_35)), (49, .bool (!r_35))] [box b_6 24 [.one (.int .i64 r_29), .one (.int .i64 r_30), .one (.int .i64 r_31), .one (.int .i64 r_32), .one (SV.v s8)], row Ei 2 s8 r_33, box b_5 24 [.one (.int .i64 r_24), .one (.int .i64 r_25), .one (.int .i64 r_26), .one (.int .i64 r_27), .one (SV.v s7)], row Ei 2 s7 r_28, box b_4 24 [.one (.int .i64 r_19), .one (.int .i64 r_20), .one (.int .i64 r_21), .one (.int .i64 r_22), .one (SV.v s6)], row Ei 2 s6 r_23, box b_2 32 [.one (.int .i64 x6), .one (.int .i64 x7), .one (.int .i64 x8), .one (.int .i64 x9), .one (SV.v s2)], box b_1 32 [.one (.int .i64 x1), .one (.int .i64 x2), .one (.int .i64 x3), .one (.int .i64 x4), .one (SV.v s1)], row Ei 2 (gs (g1 8)) r_7, row Ei 2 (gs (g1 24)) r_12, row Ei 2 (gs (g1 32)) r_17, box (gs (g1 64)).n 24 [.one (.int .i64 r_13), .one (.int .i64 r_14), .one (.int .i64 r_15), .one (.int .i64 r_16), .one (SV.v (gs (g1 32)))]] ?_ ?_
        · refine TL.cases (t := 49) (b := (!r_35)) rfl (fun c5 => ?_) (fun c6 => ?_)
          · refine TL.skip rfl rfl (by decide) ?_
            refine TL.skip rfl rfl (by decide) ?_
            refine TL.skip rfl rfl (by decide) ?_
            refine TL.pick rfl rfl (b := true) rfl (r := .bool true) rfl ?_
            refine TL.done ?_
            exact TC.nrm () () ⟨(by rw [c5]; rfl), rfl, rfl, rfl, rfl, rfl, rfl, rfl, rfl, rfl, rfl, rfl, rfl, rfl, rfl, rfl, rfl, rfl, rfl, rfl, rfl, rfl, rfl, rfl, rfl, rfl, rfl, rfl, rfl, rfl, rfl, rfl, rfl, rfl, rfl, rfl, rfl, rfl, rfl, rfl, rfl, rfl, rfl, rfl, rfl, (by rw [c5]; rfl), trivial⟩ [0, 0, 0, 0, 0, 0, 0, 0, 0, 0, 0, 0] (by kernel_rfl)
          · refine TL.move rfl rfl (v := .int .i64 r_34) rfl ?_
            refine TL.move rfl rfl (v := .int .i64 r_18) rfl ?_
            refine TL.bin .i64 r_34 r_18 rfl rfl rfl rfl (v := .bool (r_34 != r_18)) rfl ?_
            refine TL.pick rfl rfl (b := false) rfl (r := .bool (r_34 != r_18)) rfl ?_
            refine TL.done ?_
            exact TC.nrm () () ⟨(by rw [c6]; rfl), rfl, rfl, rfl, rfl, rfl, rfl, rfl, rfl, rfl, rfl, rfl, rfl, rfl, rfl, rfl, rfl, rfl, rfl, rfl, rfl, rfl, rfl, rfl, rfl, rfl, rfl, rfl, rfl, rfl, rfl, rfl, rfl, rfl, rfl, rfl, rfl, rfl, rfl, rfl, rfl, rfl, rfl, rfl, rfl, (by rw [c6]; rfl), trivial⟩ [0, 0, 0, 0, 0, 0, 0, 0, 0, 0, 0, 0] (by kernel_rfl)
        · refine TL.done ?_
          refine TC.cond (b := ((!r_35) || (r_34 != r_18))) rfl (fun c7 => ?_) (fun c8 => ?_)
          · refine TC.seq ?_
            refine TC.region ?_
            refine TL.assign rfl rfl (v := .bool false) rfl ?_
            refine TL.done ?_
            exact TC.retF (Fin.body (fin1 (.inr rfl) rfl (.tmp rfl) [] rfl ⟨rfl, rfl⟩))
          · refine TC.skip ?_
            refine TC.seq ?_
            refine TC.seq ?_
            refine TC.wk (Γ' := [(2, bp b_1 0), (3, bp b_2 0), (6, bp (gs (g1 64)).n 0), (7, .int .i64 r_18), (8, bp b_4 0), (9, bp b_5 0), (10, bp b_6 0), (11, .int .i64 r_34)]) ⟨rfl, rfl, rfl, rfl, rfl, rfl, rfl, rfl, trivial⟩ ?_
            refine TC.bindE ?_
            rintro ⟨r_36, r_37, r_38, r_39, r_40⟩ hr4
            refine TC.bindE ?_
            rintro r_41 hr5
            refine TC.drawG [(2, bp b_1 0), (3, bp b_2 0), (6, bp (gs (g1 64)).n 0), (7, .int .i64 r_18), (8, bp b_4 0), (9, bp b_5 0), (10, bp b_6 0), (11, .int .i64 r_34)] [] ⟨rfl, rfl, rfl, rfl, rfl, rfl, rfl, rfl, trivial⟩ trivial (fun l_ g2 => [box b_6 24 [.one (.int .i64 r_29), .one (.int .i64 r_30), .one (.int .i64 r_31), .one (.int .i64 r_32), .one (SV.v s8)], row Ei 2 s8 r_33, box b_5 24 [.one (.int .i64 r_24), .one (.int .i64 r_25), .one (.int .i64 r_26), .one (.int .i64 r_27), .one (SV.v s7)], row Ei 2 s7 r_28, box b_4 24 [.one (.int .i64 r_19), .one (.int .i64 r_20), .one (.int .i64 r_21), .one (.int .i64 r_22), .one (SV.v s6)], row Ei 2 s6 r_23, box b_2 32 [.one (.int .i64 x6), .one (.int .i64 x7), .one (.int .i64 x8), .one (.int .i64 x9), .one (SV.v s2)], box b_1 32 [.one (.int .i64 x1), .one (.int .i64 x2), .one (.int .i64 x3), .one (.int .i64 x4), .one (SV.v s1)], row Ei 2 (gs (g1 8)) r_7, row Ei 2 (gs (g1 24)) r_12, row Ei 2 (gs (g1 32)) r_17, box (gs (g1 64)).n 24 [.one (.int .i64 r_13), .one (.int .i64 r_14), .one (.int .i64 r_15), .one (.int .i64 r_16), .one (SV.v (gs (g1 32)))], (bif nb l_ 2 then row Ei 2 (gs (g2 16)) r_40 else emp)]) (fun g2 => [sval [.one (.int .i64 r_19), .one (.int .i64 r_20), .one (.int .i64 r_21), .one (.int .i64 r_22), .one (SV.v s6)], sval [.one (.int .i64 x1), .one (.int .i64 x2), .one (.int .i64 x3), .one (.int .i64 x4), .one (SV.v s1)], sval [.one (.int .i64 r_36), .one (.int .i64 r_37), .one (.int .i64 r_38), .one (.int .i64 r_39), .one (SV.v (gs (g2 16)))], .bool r_41, .bool (!r_41)]) [[], [], [1], [0, 1, 2], [0, 1, 2, 3]] [[some false, none, none, some false, some false], [none, some false, some false, some false, some false], [none, some true, some false, some false, some false], [some true, some true, some true, some false, some false], [some true, some true, some true, some true, some false]] (by kernel_rfl) (fun _ => rfl) rfl rfl rfl rfl rfl (fun _ _ => ⟨⟨⟨⟨⟨trivial, rfl⟩, rfl⟩, rfl⟩, rfl⟩, rfl⟩) 1 [1, 1, 1, 1, 1, 1, 1, 1, 1, 1, 1, 1, 0] (fun _ => by kernel_rfl) ?_ ?_
            · refine ⟨rfl, ?_, rfl, ?_, rfl, ?_, rfl, ?_, rfl, ?_, trivial⟩
              · intro b1_ b2_ g2
                refine TL.asL [box b_6 24 [.one (.int .i64 r_29), .one (.int .i64 r_30), .one (.int .i64 r_31), .one (.int .i64 r_32), .one (SV.v s8)], row Ei 2 s8 r_33, box b_5 24 [.one (.int .i64 r_24), .one (.int .i64 r_25), .one (.int .i64 r_26), .one (.int .i64 r_27), .one (SV.v s7)], row Ei 2 s7 r_28, box b_4 24 [.one (.int .i64 r_19), .one (.int .i64 r_20), .one (.int .i64 r_21), .one (.int .i64 r_22), .one (SV.v s6)], row Ei 2 s6 r_23, box b_2 32 [.one (.int .i64 x6), .one (.int .i64 x7), .one (.int .i64 x8), .one (.int .i64 x9), .one (SV.v s2)], box b_1 32 [.one (.int .i64 x1), .one (.int .i64 x2), .one (.int .i64 x3), .one (.int .i64 x4), .one (SV.v s1)], row Ei 2 (gs (g1 8)) r_7, row Ei 2 (gs (g1 24)) r_12, row Ei 2 (gs (g1 32)) r_17, box (gs (g1 64)).n 24 [.one (.int .i64 r_13), .one (.int .i64 r_14), .one (.int .i64 r_15), .one (.int .i64 r_16), .one (SV.v (gs (g1 32)))], (bif b2_ then row Ei 2 (gs (g2 16)) r_40 else emp)] (by kernel_rfl) ?_
                refine TL.loadM 0 5 (Src.box 4 rfl) Try.isAgg24 Try.sizeOf24 (mid := [.one (.int .i64 r_19), .one (.int .i64 r_20), .one (.int .i64 r_21), .one (.int .i64 r_22), .one (SV.v s6)]) rfl rfl rfl rfl rfl rfl ?_
                refine TL.done ?_
                exact TC.nrm () [] ⟨rfl, trivial⟩ [0, 0, 0, 0, 0, 0, 0, 0, 0, 0, 0, 0, 0] (by kernel_rfl)
              · intro b0_ g2
                refine TL.asL [box b_6 24 [.one (.int .i64 r_29), .one (.int .i64 r_30), .one (.int .i64 r_31), .one (.int .i64 r_32), .one (SV.v s8)], row Ei 2 s8 r_33, box b_5 24 [.one (.int .i64 r_24), .one (.int .i64 r_25), .one (.int .i64 r_26), .one (.int .i64 r_27), .one (SV.v s7)], row Ei 2 s7 r_28, box b_4 24 [.one (.int .i64 r_19), .one (.int .i64 r_20), .one (.int .i64 r_21), .one (.int .i64 r_22), .one (SV.v s6)], row Ei 2 s6 r_23, box b_2 32 [.one (.int .i64 x6), .one (.int .i64 x7), .one (.int .i64 x8), .one (.int .i64 x9), .one (SV.v s2)], box b_1 32 [.one (.int .i64 x1), .one (.int .i64 x2), .one (.int .i64 x3), .one (.int .i64 x4), .one (SV.v s1)], row Ei 2 (gs (g1 8)) r_7, row Ei 2 (gs (g1 24)) r_12, row Ei 2 (gs (g1 32)) r_17, box (gs (g1 64)).n 24 [.one (.int .i64 r_13), .one (.int .i64 r_14), .one (.int .i64 r_15), .one (.int .i64 r_16), .one (SV.v (gs (g1 32)))], emp] (by kernel_rfl) ?_
                refine TL.loadM 0 5 (Src.box 7 rfl) Try.isAgg32 Try.sizeOf32 (mid := [.one (.int .i64 x1), .one (.int .i64 x2), .one (.int .i64 x3), .one (.int .i64 x4), .one (SV.v s1)]) rfl rfl rfl rfl rfl rfl ?_
                refine TL.done ?_
                exact TC.nrm () [] ⟨rfl, trivial⟩ [0, 0, 0, 0, 0, 0, 0, 0, 0, 0, 0, 0, 0] (by kernel_rfl)
              · intro b0_ g2
                refine TL.asL [box b_6 24 [.one (.int .i64 r_29), .one (.int .i64 r_30), .one (.int .i64 r_31), .one (.int .i64 r_32), .one (SV.v s8)], row Ei 2 s8 r_33, box b_5 24 [.one (.int .i64 r_24), .one (.int .i64 r_25), .one (.int .i64 r_26), .one (.int .i64 r_27), .one (SV.v s7)], row Ei 2 s7 r_28, box b_4 24 [.one (.int .i64 r_19), .one (.int .i64 r_20), .one (.int .i64 r_21), .one (.int .i64 r_22), .one (SV.v s6)], row Ei 2 s6 r_23, box b_2 32 [.one (.int .i64 x6), .one (.int .i64 x7), .one (.int .i64 x8), .one (.int .i64 x9), .one (SV.v s2)], box b_1 32 [.one (.int .i64 x1), .one (.int .i64 x2), .one (.int .i64 x3), .one (.int .i64 x4), .one (SV.v s1)], row Ei 2 (gs (g1 8)) r_7, row Ei 2 (gs (g1 24)) r_12, row Ei 2 (gs (g1 32)) r_17, box (gs (g1 64)).n 24 [.one (.int .i64 r_13), .one (.int .i64 r_14), .one (.int .i64 r_15), .one (.int .i64 r_16), .one (SV.v (gs (g1 32)))], emp] (by kernel_rfl) ?_
                refine TL.callH (R := G.laws_toTensor.R) hr4 Try.call21 rfl rfl rfl (fun w hS => G.laws_toTensor.calls w x1 x2 x3 x4 s1 x5 ((Rd.old h1) w hS)) ?_
                rintro _ _ ⟨s9, rfl, rfl⟩
                refine TL.done ?_
                exact TC.nrm () [[s9]] ⟨rfl, trivial⟩ [1, 1, 1, 1, 1, 1, 1, 1, 1, 1, 1, 1, 0] (by kernel_rfl)
              · intro g2
                refine TL.asL [box b_6 24 [.one (.int .i64 r_29), .one (.int .i64 r_30), .one (.int .i64 r_31), .one (.int .i64 r_32), .one (SV.v s8)], row Ei 2 s8 r_33, box b_5 24 [.one (.int .i64 r_24), .one (.int .i64 r_25), .one (.int .i64 r_26), .one (.int .i64 r_27), .one (SV.v s7)], row Ei 2 s7 r_28, box b_4 24 [.one (.int .i64 r_19), .one (.int .i64 r_20), .one (.int .i64 r_21), .one (.int .i64 r_22), .one (SV.v s6)], row Ei 2 s6 r_23, box b_2 32 [.one (.int .i64 x6), .one (.int .i64 x7), .one (.int .i64 x8), .one (.int .i64 x9), .one (SV.v s2)], box b_1 32 [.one (.int .i64 x1), .one (.int .i64 x2), .one (.int .i64 x3), .one (.int .i64 x4), .one (SV.v s1)], row Ei 2 (gs (g1 8)) r_7, row Ei 2 (gs (g1 24)) r_12, row Ei 2 (gs (g1 32)) r_17, box (gs (g1 64)).n 24 [.one (.int .i64 r_13), .one (.int .i64 r_14), .one (.int .i64 r_15), .one (.int .i64 r_16), .one (SV.v (gs (g1 32)))], row Ei 2 (gs (g2 16)) r_40] (by kernel_rfl) ?_
                refine TL.callH (R := G.laws_eqTensor.R) hr5 Try.call14 rfl rfl rfl (fun w hS => G.laws_eqTensor.calls w r_19 r_20 r_21 r_22 s6 r_23 r_36 r_37 r_38 r_39 (gs (g2 16)) r_40 ((Rd.row 5 rfl) w hS) ((Rd.row 12 rfl) w hS)) ?_
                rintro _ _ ⟨rfl, rfl⟩
                refine TL.done ?_
                exact TC.nrm () [] ⟨rfl, trivial⟩ [0, 0, 0, 0, 0, 0, 0, 0, 0, 0, 0, 0, 0] (by kernel_rfl)
              · intro g2
                refine TL.not r_41 rfl rfl rfl ?_
                refine TL.done ?_
                exact TC.nrm () [] ⟨rfl, trivial⟩ [0, 0, 0, 0, 0, 0, 0, 0, 0, 0, 0, 0, 0] (by kernel_rfl)
            · intro g2
              refine TC.asL [box b_6 24 [.one (.int .i64 r_29), .one (.int .i64 r_30), .one (.int .i64 r_31), .one (.int .i64 r_32), .one (SV.v s8)], row Ei 2 s8 r_33, box b_5 24 [.one (.int .i64 r_24), .one (.int .i64 r_25), .one (.int .i64 r_26), .one (.int .i64 r_27), .one (SV.v s7)], row Ei 2 s7 r_28, box b_4 24 [.one (.int .i64 r_19), .one (.int .i64 r_20), .one (.int .i64 r_21), .one (.int .i64 r_22), .one (SV.v s6)], row Ei 2 s6 r_23, box b_2 32 [.one (.int .i64 x6), .one (.int .i64 x7), .one (.int .i64 x8), .one (.int .i64 x9), .one (SV.v s2)], box b_1 32 [.one (.int .i64 x1), .one (.int .i64 x2), .one (.int .i64 x3), .one (.int .i64 x4), .one (SV.v s1)], row Ei 2 (gs (g1 8)) r_7, row Ei 2 (gs (g1 24)) r_12, row Ei 2 (gs (g1 32)) r_17, box (gs (g1 64)).n 24 [.one (.int .i64 r_13), .one (.int .i64 r_14), .one (.int .i64 r_15), .one (.int .i64 r_16), .one (SV.v (gs (g1 32)))], row Ei 2 (gs (g2 16)) r_40] (by kernel_rfl) ?_
              refine TC.cond (b := (!r_41)) rfl (fun c9 => ?_) (fun c10 => ?_)
              · refine TC.seq ?_
                refine TC.region ?_
                refine TL.assign rfl rfl (v := .bool false) rfl ?_
                refine TL.done ?_
                exact TC.retF (Fin.body (fin1 (.inr rfl) rfl (.tmp rfl) [] rfl ⟨rfl, rfl⟩))
              · refine TC.skip ?_
                refine TC.seq ?_
                refine TC.seq ?_
                refine TC.wk (Γ' := [(2, bp b_1 0), (3, bp b_2 0), (6, bp (gs (g1 64)).n 0), (7, .int .i64 r_18), (8, bp b_4 0), (9, bp b_5 0), (10, bp b_6 0), (11, .int .i64 r_34), (54, sval [.one (.int .i64 r_19), .one (.int .i64 r_20), .one (.int .i64 r_21), .one (.int .i64 r_22), .one (SV.v s6)]), (55, sval [.one (.int .i64 x1), .one (.int .i64 x2), .one (.int .i64 x3), .one (.int .i64 x4), .one (SV.v s1)]), (56, sval [.one (.int .i64 r_36), .one (.int .i64 r_37), .one (.int .i64 r_38), .one (.int .i64 r_39), .one (SV.v (gs (g2 16)))]), (57, .bool r_41), (58, .bool (!r_41))]) ⟨rfl, rfl, rfl, rfl, rfl, rfl, rfl, rfl, rfl, rfl, rfl, rfl, rfl, trivial⟩ ?_
                refine TC.bindE ?_
                rintro ⟨r_42, r_43, r_44, r_45, r_46⟩ hr6
                refine TC.bindE ?_
                rintro r_47 hr7
                refine TC.drawG [(2, bp b_1 0), (3, bp b_2 0), (6, bp (gs (g1 64)).n 0), (7, .int .i64 r_18), (8, bp b_4 0), (9, bp b_5 0), (10, bp b_6 0), (11, .int .i64 r_34), (54, sval [.one (.int .i64 r_19), .one (.int .i64 r_20), .one (.int .i64 r_21), .one (.int .i64 r_22), .one (SV.v s6)]), (55, sval [.one (.int .i64 x1), .one (.int .i64 x2), .one (.int .i64 x3), .one (.int .i64 x4), .one (SV.v s1)]), (56, sval [.one (.int .i64 r_36), .one (.int .i64 r_37), .one (.int .i64 r_38), .one (.int .i64 r_39), .one (SV.v (gs (g2 16)))]), (57, .bool r_41), (58, .bool (!r_41))] [] ⟨rfl, rfl, rfl, rfl, rfl, rfl, rfl, rfl, rfl, rfl, rfl, rfl, rfl, trivial⟩ trivial (fun l_ g3 => [box b_6 24 [.one (.int .i64 r_29), .one (.int .i64 r_30), .one (.int .i64 r_31), .one (.int .i64 r_32), .one (SV.v s8)], row Ei 2 s8 r_33, box b_5 24 [.one (.int .i64 r_24), .one (.int .i64 r_25), .one (.int .i64 r_26), .one (.int .i64 r_27), .one (SV.v s7)], row Ei 2 s7 r_28, box b_4 24 [.one (.int .i64 r_19), .one (.int .i64 r_20), .one (.int .i64 r_21), .one (.int .i64 r_22), .one (SV.v s6)], row Ei 2 s6 r_23, box b_2 32 [.one (.int .i64 x6), .one (.int .i64 x7), .one (.int .i64 x8), .one (.int .i64 x9), .one (SV.v s2)], box b_1 32 [.one (.int .i64 x1), .one (.int .i64 x2), .one (.int .i64 x3), .one (.int .i64 x4), .one (SV.v s1)], row Ei 2 (gs (g1 8)) r_7, row Ei 2 (gs (g1 24)) r_12, row Ei 2 (gs (g1 32)) r_17, box (gs (g1 64)).n 24 [.one (.int .i64 r_13), .one (.int .i64 r_14), .one (.int .i64 r_15), .one (.int .i64 r_16), .one (SV.v (gs (g1 32)))], row Ei 2 (gs (g2 16)) r_40, (bif nb l_ 2 then row Ei 2 (gs (g3 16)) r_46 else emp)]) (fun g3 => [sval [.one (.int .i64 r_24), .one (.int .i64 r_25), .one (.int .i64 r_26), .one (.int .i64 r_27), .one (SV.v s7)], sval [.one (.int .i64 x6), .one (.int .i64 x7), .one (.int .i64 x8), .one (.int .i64 x9), .one (SV.v s2)], sval [.one (.int .i64 r_42), .one (.int .i64 r_43), .one (.int .i64 r_44), .one (.int .i64 r_45), .one (SV.v (gs (g3 16)))], .bool r_47, .bool (!r_47)]) [[], [], [1], [0, 1, 2], [0, 1, 2, 3]] [[some false, none, none, some false, some false], [none, some false, some false, some false, some false], [none, some true, some false, some false, some false], [some true, some true, some true, some false, some false], [some true, some true, some true, some true, some false]] (by kernel_rfl) (fun _ => rfl) rfl rfl rfl rfl rfl (fun _ _ => ⟨⟨⟨⟨⟨trivial, rfl⟩, rfl⟩, rfl⟩, rfl⟩, rfl⟩) 1 [1, 1, 1, 1, 1, 1, 1, 1, 1, 1, 1, 1, 1, 0] (fun _ => by kernel_rfl) ?_ ?_
                · refine ⟨rfl, ?_, rfl, ?_, rfl, ?_, rfl, ?_, rfl, ?_, trivial⟩
                  · intro b1_ b2_ g3
                    refine TL.asL [box b_6 24 [.one (.int .i64 r_29), .one (.int .i64 r_30), .one (.int .i64 r_31), .one (.int .i64 r_32), .one (SV.v s8)], row Ei 2 s8 r_33, box b_5 24 [.one (.int .i64 r_24), .one (.int .i64 r_25), .one (.int .i64 r_26), .one (.int .i64 r_27), .one (SV.v s7)], row Ei 2 s7 r_28, box b_4 24 [.one (.int .i64 r_19), .one (.int .i64 r_20), .one (.int .i64 r_21), .one (.int .i64 r_22), .one (SV.v s6)], row Ei 2 s6 r_23, box b_2 32 [.one (.int .i64 x6), .one (.int .i64 x7), .one (.int .i64 x8), .one (.int .i64 x9), .one (SV.v s2)], box b_1 32 [.one (.int .i64 x1), .one (.int .i64 x2), .one (.int .i64 x3), .one (.int .i64 x4), .one (SV.v s1)], row Ei 2 (gs (g1 8)) r_7, row Ei 2 (gs (g1 24)) r_12, row Ei 2 (gs (g1 32)) r_17, box (gs (g1 64)).n 24 [.one (.int .i64 r_13), .one (.int .i64 r_14), .one (.int .i64 r_15), .one (.int .i64 r_16), .one (SV.v (gs (g1 32)))], row Ei 2 (gs (g2 16)) r_40, (bif b2_ then row Ei 2 (gs (g3 16)) r_46 else emp)] (by kernel_rfl) ?_
                    refine TL.loadM 0 5 (Src.box 2 rfl) Try.isAgg24 Try.sizeOf24 (mid := [.one (.int .i64 r_24), .one (.int .i64 r_25), .one (.int .i64 r_26), .one (.int .i64 r_27), .one (SV.v s7)]) rfl rfl rfl rfl rfl rfl ?_
                    refine TL.done ?_
                    exact TC.nrm () [] ⟨rfl, trivial⟩ [0, 0, 0, 0, 0, 0, 0, 0, 0, 0, 0, 0, 0, 0] (by kernel_rfl)
                  · intro b0_ g3
                    refine TL.asL [box b_6 24 [.one (.int .i64 r_29), .one (.int .i64 r_30), .one (.int .i64 r_31), .one (.int .i64 r_32), .one (SV.v s8)], row Ei 2 s8 r_33, box b_5 24 [.one (.int .i64 r_24), .one (.int .i64 r_25), .one (.int .i64 r_26), .one (.int .i64 r_27), .one (SV.v s7)], row Ei 2 s7 r_28, box b_4 24 [.one (.int .i64 r_19), .one (.int .i64 r_20), .one (.int .i64 r_21), .one (.int .i64 r_22), .one (SV.v s6)], row Ei 2 s6 r_23, box b_2 32 [.one (.int .i64 x6), .one (.int .i64 x7), .one (.int .i64 x8), .one (.int .i64 x9), .one (SV.v s2)], box b_1 32 [.one (.int .i64 x1), .one (.int .i64 x2), .one (.int .i64 x3), .one (.int .i64 x4), .one (SV.v s1)], row Ei 2 (gs (g1 8)) r_7, row Ei 2 (gs (g1 24)) r_12, row Ei 2 (gs (g1 32)) r_17, box (gs (g1 64)).n 24 [.one (.int .i64 r_13), .one (.int .i64 r_14), .one (.int .i64 r_15), .one (.int .i64 r_16), .one (SV.v (gs (g1 32)))], row Ei 2 (gs (g2 16)) r_40, emp] (by kernel_rfl) ?_
                    refine TL.loadM 0 5 (Src.box 6 rfl) Try.isAgg32 Try.sizeOf32 (mid := [.one (.int .i64 x6), .one (.int .i64 x7), .one (.int .i64 x8), .one (.int .i64 x9), .one (SV.v s2)]) rfl rfl rfl rfl rfl rfl ?_
                    refine TL.done ?_
                    exact TC.nrm () [] ⟨rfl, trivial⟩ [0, 0, 0, 0, 0, 0, 0, 0, 0, 0, 0, 0, 0, 0] (by kernel_rfl)
                  · intro b0_ g3
                    refine TL.asL [box b_6 24 [.one (.int .i64 r_29), .one (.int .i64 r_30), .one (.int .i64 r_31), .one (.int .i64 r_32), .one (SV.v s8)], row Ei 2 s8 r_33, box b_5 24 [.one (.int .i64 r_24), .one (.int .i64 r_25), .one (.int .i64 r_26), .one (.int .i64 r_27), .one (SV.v s7)], row Ei 2 s7 r_28, box b_4 24 [.one (.int .i64 r_19), .one (.int .i64 r_20), .one (.int .i64 r_21), .one (.int .i64 r_22), .one (SV.v s6)], row Ei 2 s6 r_23, box b_2 32 [.one (.int .i64 x6), .one (.int .i64 x7), .one (.int .i64 x8), .one (.int .i64 x9), .one (SV.v s2)], box b_1 32 [.one (.int .i64 x1), .one (.int .i64 x2), .one (.int .i64 x3), .one (.int .i64 x4), .one (SV.v s1)], row Ei 2 (gs (g1 8)) r_7, row Ei 2 (gs (g1 24)) r_12, row Ei 2 (gs (g1 32)) r_17, box (gs (g1 64)).n 24 [.one (.int .i64 r_13), .one (.int .i64 r_14), .one (.int .i64 r_15), .one (.int .i64 r_16), .one (SV.v (gs (g1 32)))], row Ei 2 (gs (g2 16)) r_40, emp] (by kernel_rfl) ?_
                    refine TL.callH (R := G.laws_toTensor.R) hr6 Try.call21 rfl rfl rfl (fun w hS => G.laws_toTensor.calls w x6 x7 x8 x9 s2 x10 ((Rd.old h2) w hS)) ?_
                    rintro _ _ ⟨s10, rfl, rfl⟩
                    refine TL.done ?_
                    exact TC.nrm () [[s10]] ⟨rfl, trivial⟩ [1, 1, 1, 1, 1, 1, 1, 1, 1, 1, 1, 1, 1, 0] (by kernel_rfl)
                  · intro g3
                    refine TL.asL [box b_6 24 [.one (.int .i64 r_29), .one (.int .i64 r_30), .one (.int .i64 r_31), .one (.int .i64 r_32), .one (SV.v s8)], row Ei 2 s8 r_33, box b_5 24 [.one (.int .i64 r_24), .one (.int .i64 r_25), .one (.int .i64 r_26), .one (.int .i64 r_27), .one (SV.v s7)], row Ei 2 s7 r_28, box b_4 24 [.one (.int .i64 r_19), .one (.int .i64 r_20), .one (.int .i64 r_21), .one (.int .i64 r_22), .one (SV.v s6)], row Ei 2 s6 r_23, box b_2 32 [.one (.int .i64 x6), .one (.int .i64 x7), .one (.int .i64 x8), .one (.int .i64 x9), .one (SV.v s2)], box b_1 32 [.one (.int .i64 x1), .one (.int .i64 x2), .one (.int .i64 x3), .one (.int .i64 x4), .one (SV.v s1)], row Ei 2 (gs (g1 8)) r_7, row Ei 2 (gs (g1 24)) r_12, row Ei 2 (gs (g1 32)) r_17, box (gs (g1 64)).n 24 [.one (.int .i64 r_13), .one (.int .i64 r_14), .one (.int .i64 r_15), .one (.int .i64 r_16), .one (SV.v (gs (g1 32)))], row Ei 2 (gs (g2 16)) r_40, row Ei 2 (gs (g3 16)) r_46] (by kernel_rfl) ?_
                    refine TL.callH (R := G.laws_eqTensor.R) hr7 Try.call14 rfl rfl rfl (fun w hS => G.laws_eqTensor.calls w r_24 r_25 r_26 r_27 s7 r_28 r_42 r_43 r_44 r_45 (gs (g3 16)) r_46 ((Rd.row 3 rfl) w hS) ((Rd.row 13 rfl) w hS)) ?_
                    rintro _ _ ⟨rfl, rfl⟩
                    refine TL.done ?_
                    exact TC.nrm () [] ⟨rfl, trivial⟩ [0, 0, 0, 0, 0, 0, 0, 0, 0, 0, 0, 0, 0, 0] (by kernel_rfl)
                  · intro g3
                    refine TL.not r_47 rfl rfl rfl ?_
                    refine TL.done ?_
                    exact TC.nrm () [] ⟨rfl, trivial⟩ [0, 0, 0, 0, 0, 0, 0, 0, 0, 0, 0, 0, 0, 0] (by kernel_rfl)
                · intro g3
                  refine TC.asL [box b_6 24 [.one (.int .i64 r_29), .one (.int .i64 r_30), .one (.int .i64 r_31), .one (.int .i64 r_32), .one (SV.v s8)], row Ei 2 s8 r_33, box b_5 24 [.one (.int .i64 r_24), .one (.int .i64 r_25), .one (.int .i64 r_26), .one (.int .i64 r_27), .one (SV.v s7)], row Ei 2 s7 r_28, box b_4 24 [.one (.int .i64 r_19), .one (.int .i64 r_20), .one (.int .i64 r_21), .one (.int .i64 r_22), .one (SV.v s6)], row Ei 2 s6 r_23, box b_2 32 [.one (.int .i64 x6), .one (.int .i64 x7), .one (.int .i64 x8), .one (.int .i64 x9), .one (SV.v s2)], box b_1 32 [.one (.int .i64 x1), .one (.int .i64 x2), .one (.int .i64 x3), .one (.int .i64 x4), .one (SV.v s1)], row Ei 2 (gs (g1 8)) r_7, row Ei 2 (gs (g1 24)) r_12, row Ei 2 (gs (g1 32)) r_17, box (gs (g1 64)).n 24 [.one (.int .i64 r_13), .one (.int .i64 r_14), .one (.int .i64 r_15), .one (.int .i64 r_16), .one (SV.v (gs (g1 32)))], row Ei 2 (gs (g2 16)) r_40, row Ei 2 (gs (g3 16)) r_46] (by kernel_rfl) ?_
                  refine TC.cond (b := (!r_47)) rfl (fun c11 => ?_) (fun c12 => ?_)
                  · refine TC.seq ?_
                    refine TC.region ?_
                    refine TL.assign rfl rfl (v := .bool false) rfl ?_
                    refine TL.done ?_
                    exact TC.retF (Fin.body (fin1 (.inr rfl) rfl (.tmp rfl) [] rfl ⟨rfl, rfl⟩))
                  · refine TC.skip ?_
                    refine TC.seq ?_
                    refine TC.region ?_
                    refine TL.assign rfl rfl (v := .int .i64 1) rfl ?_
                    refine TL.done ?_
                    refine TC.seq ?_
                    refine TC.region ?_
                    refine TL.loadM 0 5 (Src.box 4 rfl) Try.isAgg24 Try.sizeOf24 (mid := [.one (.int .i64 r_19), .one (.int .i64 r_20), .one (.int .i64 r_21), .one (.int .i64 r_22), .one (SV.v s6)]) rfl rfl rfl rfl rfl rfl ?_
                    refine TL.move rfl rfl (v := .int .i64 1) rfl ?_
                    refine TL.callX (R := G.laws_markTensor.R s6) [5, 0, 0, 0, 0, 0, 0, 0, 0, 0, 0, 0, 0, 0] [row Ei 2 s6 r_23] [box b_6 24 [.one (.int .i64 r_29), .one (.int .i64 r_30), .one (.int .i64 r_31), .one (.int .i64 r_32), .one (SV.v s8)], row Ei 2 s8 r_33, box b_5 24 [.one (.int .i64 r_24), .one (.int .i64 r_25), .one (.int .i64 r_26), .one (.int .i64 r_27), .one (SV.v s7)], row Ei 2 s7 r_28, box b_4 24 [.one (.int .i64 r_19), .one (.int .i64 r_20), .one (.int .i64 r_21), .one (.int .i64 r_22), .one (SV.v s6)], box b_2 32 [.one (.int .i64 x6), .one (.int .i64 x7), .one (.int .i64 x8), .one (.int .i64 x9), .one (SV.v s2)], box b_1 32 [.one (.int .i64 x1), .one (.int .i64 x2), .one (.int .i64 x3), .one (.int .i64 x4), .one (SV.v s1)], row Ei 2 (gs (g1 8)) r_7, row Ei 2 (gs (g1 24)) r_12, row Ei 2 (gs (g1 32)) r_17, box (gs (g1 64)).n 24 [.one (.int .i64 r_13), .one (.int .i64 r_14), .one (.int .i64 r_15), .one (.int .i64 r_16), .one (SV.v (gs (g1 32)))], row Ei 2 (gs (g2 16)) r_40, row Ei 2 (gs (g3 16)) r_46] rfl Try.call15 rfl rfl rfl (fun w I_ hle hB hS => G.laws_markTensor.calls _ I_ w r_19 r_20 r_21 r_22 s6 r_23 1 hS) ?_
                    rintro ⟨r_48, l1⟩ _ _ ⟨rfl, rfl⟩
                    refine TL.assign rfl rfl (v := .int .i64 r_48) rfl ?_
                    refine TL.done ?_
                    refine TC.seq ?_
                    refine TC.region ?_
                    refine TL.loadM 0 5 (Src.box 3 rfl) Try.isAgg24 Try.sizeOf24 (mid := [.one (.int .i64 r_24), .one (.int .i64 r_25), .one (.int .i64 r_26), .one (.int .i64 r_27), .one (SV.v s7)]) rfl rfl rfl rfl rfl rfl ?_
                    refine TL.move rfl rfl (v := .int .i64 r_48) rfl ?_
                    refine TL.callX (R := G.laws_markTensor.R s7) [4, 0, 0, 0, 0, 0, 0, 0, 0, 0, 0, 0, 0, 0] [row Ei 2 s7 r_28] [row Ei 2 s6 l1, box b_6 24 [.one (.int .i64 r_29), .one (.int .i64 r_30), .one (.int .i64 r_31), .one (.int .i64 r_32), .one (SV.v s8)], row Ei 2 s8 r_33, box b_5 24 [.one (.int .i64 r_24), .one (.int .i64 r_25), .one (.int .i64 r_26), .one (.int .i64 r_27), .one (SV.v s7)], box b_4 24 [.one (.int .i64 r_19), .one (.int .i64 r_20), .one (.int .i64 r_21), .one (.int .i64 r_22), .one (SV.v s6)], box b_2 32 [.one (.int .i64 x6), .one (.int .i64 x7), .one (.int .i64 x8), .one (.int .i64 x9), .one (SV.v s2)], box b_1 32 [.one (.int .i64 x1), .one (.int .i64 x2), .one (.int .i64 x3), .one (.int .i64 x4), .one (SV.v s1)], row Ei 2 (gs (g1 8)) r_7, row Ei 2 (gs (g1 24)) r_12, row Ei 2 (gs (g1 32)) r_17, box (gs (g1 64)).n 24 [.one (.int .i64 r_13), .one (.int .i64 r_14), .one (.int .i64 r_15), .one (.int .i64 r_16), .one (SV.v (gs (g1 32)))], row Ei 2 (gs (g2 16)) r_40, row Ei 2 (gs (g3 16)) r_46] rfl Try.call15 rfl rfl rfl (fun w I_ hle hB hS => G.laws_markTensor.calls _ I_ w r_24 r_25 r_26 r_27 s7 r_28 r_48 hS) ?_
                    rintro ⟨r_49, l2⟩ _ _ ⟨rfl, rfl⟩
                    refine TL.assign rfl rfl (v := .int .i64 r_49) rfl ?_
                    refine TL.done ?_
                    refine TC.seq ?_
                    refine TC.seq ?_
                    refine TC.region ?_
                    refine TL.move rfl rfl (v := .int .i64 r_49) rfl ?_
                    refine TL.bin .i64 r_49 0 rfl rfl rfl rfl (v := .bool (decide (r_49 < 0))) rfl ?_
                    refine TL.move rfl rfl (v := .bool (decide (r_49 < 0))) rfl ?_
                    refine TL.cutJ (σ := Bool) (γ := Unit) (Γ' := fun b_7 _ => [(77, .bool b_7), (2, bp b_1 0), (3, bp b_2 0), (6, bp (gs (g1 64)).n 0), (7, .int .i64 r_18), (8, bp b_4 0), (9, bp b_5 0), (10, bp b_6 0), (11, .int .i64 r_34), (54, sval [.one (.int .i64 r_19), .one (.int .i64 r_20), .one (.int .i64 r_21), .one (.int .i64 r_22), .one (SV.v s6)]), (55, sval [.one (.int .i64 x1), .one (.int .i64 x2), .one (.int .i64 x3), .one (.int .i64 x4), .one (SV.v s1)]), (56, sval [.one (.int .i64 r_36), .one (.int .i64 r_37), .one (.int .i64 r_38), .one (.int .i64 r_39), .one (SV.v (gs (g2 16)))]), (57, .bool r_41), (58, .bool (!r_41)), (59, sval [.one (.int .i64 r_24), .one (.int .i64 r_25), .one (.int .i64 r_26), .one (.int .i64 r_27), .one (SV.v s7)]), (60, sval [.one (.int .i64 x6), .one (.int .i64 x7), .one (.int .i64 x8), .one (.int .i64 x9), .one (SV.v s2)]), (61, sval [.one (.int .i64 r_42), .one (.int .i64 r_43), .one (.int .i64 r_44), .one (.int .i64 r_45), .one (SV.v (gs (g3 16)))]), (62, .bool r_47), (63, .bool (!r_47)), (12, .int .i64 r_49), (64, sval [.one (.int .i64 r_19), .one (.int .i64 r_20), .one (.int .i64 r_21), .one (.int .i64 r_22), .one (SV.v s6)]), (65, .int .i64 1), (66, .int .i64 r_48), (67, sval [.one (.int .i64 r_24), .one (.int .i64 r_25), .one (.int .i64 r_26), .one (.int .i64 r_27), .one (SV.v s7)]), (68, .int .i64 r_48), (69, .int .i64 r_49), (70, .int .i64 r_49), (71, .bool (decide (r_49 < 0))), (72, .bool (decide (r_49 < 0)))]) (L' := fun _ _ => [row Ei 2 s7 l2, row Ei 2 s6 l1, box b_6 24 [.one (.int .i64 r_29), .one (.int .i64 r_30), .one (.int .i64 r_31), .one (.int .i64 r_32), .one (SV.v s8)], row Ei 2 s8 r_33, box b_5 24 [.one (.int .i64 r_24), .one (.int .i64 r_25), .one (.int .i64 r_26), .one (.int .i64 r_27), .one (SV.v s7)], box b_4 24 [.one (.int .i64 r_19), .one (.int .i64 r_20), .one (.int .i64 r_21), .one (.int .i64 r_22), .one (SV.v s6)], box b_2 32 [.one (.int .i64 x6), .one (.int .i64 x7), .one (.int .i64 x8), .one (.int .i64 x9), .one (SV.v s2)], box b_1 32 [.one (.int .i64 x1), .one (.int .i64 x2), .one (.int .i64 x3), .one (.int .i64 x4), .one (SV.v s1)], row Ei 2 (gs (g1 8)) r_7, row Ei 2 (gs (g1 24)) r_12, row Ei 2 (gs (g1 32)) r_17, box (gs (g1 64)).n 24 [.one (.int .i64 r_13), .one (.int .i64 r_14), .one (.int .i64 r_15), .one (.int .i64 r_16), .one (SV.v (gs (g1 32)))], row Ei 2 (gs (g2 16)) r_40, row Ei 2 (gs (g3 16)) r_46]) 5 ?_ ?_
                    · refine TL.ifb (t := 72) (b := (decide (r_49 < 0))) rfl (fun c13 => ?_) (fun c14 => ?_)
                      · refine TL.skip rfl rfl (by decide) ?_
                        refine TL.skip rfl rfl (by decide) ?_
                        refine TL.skip rfl rfl (by decide) ?_
                        refine TL.skip rfl rfl (by decide) ?_
                        refine TL.pick rfl rfl (b := true) rfl (r := .bool true) rfl ?_
                        refine TL.done ?_
                        exact TC.nrm (true) () ⟨rfl, rfl, rfl, rfl, rfl, rfl, rfl, rfl, rfl, rfl, rfl, rfl, rfl, rfl, rfl, rfl, rfl, rfl, rfl, rfl, rfl, rfl, rfl, rfl, rfl, rfl, rfl, rfl, (by rw [c13]; rfl), trivial⟩ [0, 0, 0, 0, 0, 0, 0, 0, 0, 0, 0, 0, 0, 0] (by kernel_rfl)
                      · refine TL.loadM 0 5 (Src.box 2 rfl) Try.isAgg24 Try.sizeOf24 (mid := [.one (.int .i64 r_29), .one (.int .i64 r_30), .one (.int .i64 r_31), .one (.int .i64 r_32), .one (SV.v s8)]) rfl rfl rfl rfl rfl rfl ?_
                        refine TL.loadM 0 5 (Src.box 11 rfl) Try.isAgg24 Try.sizeOf24 (mid := [.one (.int .i64 r_13), .one (.int .i64 r_14), .one (.int .i64 r_15), .one (.int .i64 r_16), .one (SV.v (gs (g1 32)))]) rfl rfl rfl rfl rfl rfl ?_
                        refine TL.call (R := G.laws_eqTensor.R) Try.call14 rfl rfl rfl (fun w hS => G.laws_eqTensor.calls w r_29 r_30 r_31 r_32 s8 r_33 r_13 r_14 r_15 r_16 (gs (g1 32)) r_17 ((Rd.row 3 rfl) w hS) ((Rd.row 10 rfl) w hS)) ?_
                        rintro r_50 _ _ ⟨rfl, rfl⟩
                        refine TL.not r_50 rfl rfl rfl ?_
                        refine TL.pick rfl rfl (b := false) rfl (r := .bool (!r_50)) rfl ?_
                        refine TL.done ?_
                        exact TC.nrm ((!r_50)) () ⟨rfl, rfl, rfl, rfl, rfl, rfl, rfl, rfl, rfl, rfl, rfl, rfl, rfl, rfl, rfl, rfl, rfl, rfl, rfl, rfl, rfl, rfl, rfl, rfl, rfl, rfl, rfl, rfl, (by rw [c14]; rfl), trivial⟩ [0, 0, 0, 0, 0, 0, 0, 0, 0, 0, 0, 0, 0, 0] (by kernel_rfl)
                    · rintro b_7 _
                      refine TL.move rfl rfl (v := .bool b_7) rfl ?_
                      refine TL.cutU 4 [(82, .bool (b_7 || (r_34 != r_18))), (2, bp b_1 0), (3, bp b_2 0), (6, bp (gs (g1 64)).n 0), (7, .int .i64 r_18), (8, bp b_4 0), (9, bp b_5 0), (10, bp b_6 0), (11, .int .i64 r_34), (54, sval [.one (.int .i64 r_19), .one (.int .i64 r_20), .one (.int .i64 r_21), .one (.int .i64 r_22), .one (SV.v s6)]), (55, sval [.one (.int .i64 x1), .one (.int .i64 x2), .one (.int .i64 x3), .one (.int .i64 x4), .one (SV.v s1)]), (56, sval [.one (.int .i64 r_36), .one (.int .i64 r_37), .one (.int .i64 r_38), .one (.int .i64 r_39), .one (SV.v (gs (g2 16)))]), (57, .bool r_41), (58, .bool (!r_41)), (59, sval [.one (.int .i64 r_24), .one (.int .i64 r_25), .one (.int .i64 r_26), .one (.int .i64 r_27), .one (SV.v s7)]), (60, sval [.one (.int .i64 x6), .one (.int .i64 x7), .one (.int .i64 x8), .one (.int .i64 x9), .one (SV.v s2)]), (61, sval [.one (.int .i64 r_42), .one (.int .i64 r_43), .one (.int .i64 r_44), .one (.int .i64 r_45), .one (SV.v (gs (g3 16)))]), (62, .bool r_47), (63, .bool (!r_47)), (12, .int .i64 r_49), (64, sval [.one (.int .i64 r_19), .one (.int .i64 r_20), .one (.int .i64 r_21), .one (.int .i64 r_22), .one (SV.v s6)]), (65, .int .i64 1), (66, .int .i64 r_48), (67, sval [.one (.int .i64 r_24), .one (.int .i64 r_25), .one (.int .i64 r_26), .one (.int .i64 r_27), .one (SV.v s7)]), (68, .int .i64 r_48), (69, .int .i64 r_49), (70, .int .i64 r_49), (71, .bool (decide (r_49 < 0))), (72, .bool (decide (r_49 < 0))), (77, .bool b_7), (78, .bool b_7)] [row Ei 2 s7 l2, row Ei 2 s6 l1, box b_6 24 [.one (.int .i64 r_29), .one (.int .i64 r_30), .one (.int .i64 r_31), .one (.int .i64 r_32), .one (SV.v s8)], row Ei 2 s8 r_33, box b_5 24 [.one (.int .i64 r_24), .one (.int .i64 r_25), .one (.int .i64 r_26), .one (.int .i64 r_27), .one (SV.v s7)], box b_4 24 [.one (.int .i64 r_19), .one (.int .i64 r_20), .one (.int .i64 r_21), .one (.int .i64 r_22), .one (SV.v s6)], box b_2 32 [.one (.int .i64 x6), .one (.int .i64 x7), .one (.int .i64 x8), .one (.int .i64 x9), .one (SV.v s2)], box b_1 32 [.one (.int .i64 x1), .one (.int .i64 x2), .one (.int .i64 x3), .one (.int .i64 x4), .one (SV.v s1)], row Ei 2 (gs (g1 8)) r_7, row Ei 2 (gs (g1 24)) r_12, row Ei 2 (gs (g1 32)) r_17, box (gs (g1 64)).n 24 [.one (.int .i64 r_13), .one (.int .i64 r_14), .one (.int .i64 r_15), .one (.int .i64 r_16), .one (SV.v (gs (g1 32)))], row Ei 2 (gs (g2 16)) r_40, row Ei 2 (gs (g3 16)) r_46] ?_ ?_
                      · refine TL.cases (t := 78) (b := b_7) rfl (fun c15 => ?_) (fun c16 => ?_)
                        · refine TL.skip rfl rfl (by decide) ?_
                          refine TL.skip rfl rfl (by decide) ?_
                          refine TL.skip rfl rfl (by decide) ?_
                          refine TL.pick rfl rfl (b := true) rfl (r := .bool true) rfl ?_
                          refine TL.done ?_
                          exact TC.nrm () () ⟨(by rw [c15]; rfl), rfl, rfl, rfl, rfl, rfl, rfl, rfl, rfl, rfl, rfl, rfl, rfl, rfl, rfl, rfl, rfl, rfl, rfl, rfl, rfl, rfl, rfl, rfl, rfl, rfl, rfl, rfl, rfl, rfl, (by rw [c15]; rfl), trivial⟩ [0, 0, 0, 0, 0, 0, 0, 0, 0, 0, 0, 0, 0, 0] (by kernel_rfl)
                        · refine TL.move rfl rfl (v := .int .i64 r_34) rfl ?_
                          refine TL.move rfl rfl (v := .int .i64 r_18) rfl ?_
                          refine TL.bin .i64 r_34 r_18 rfl rfl rfl rfl (v := .bool (r_34 != r_18)) rfl ?_
                          refine TL.pick rfl rfl (b := false) rfl (r := .bool (r_34 != r_18)) rfl ?_
                          refine TL.done ?_
                          exact TC.nrm () () ⟨(by rw [c16]; rfl), rfl, rfl, rfl, rfl, rfl, rfl, rfl, rfl, rfl, rfl, rfl, rfl, rfl, rfl, rfl, rfl, rfl, rfl, rfl, rfl, rfl, rfl, rfl, rfl, rfl, rfl, rfl, rfl, rfl, (by rw [c16]; rfl), trivial⟩ [0, 0, 0, 0, 0, 0, 0, 0, 0, 0, 0, 0, 0, 0] (by kernel_rfl)
                      · refine TL.done ?_
                        refine TC.cond (b := (b_7 || (r_34 != r_18))) rfl (fun c17 => ?_) (fun c18 => ?_)
                        · refine TC.seq ?_
                          refine TC.region ?_
                          refine TL.assign rfl rfl (v := .bool false) rfl ?_
                          refine TL.done ?_
                          exact TC.retF (Fin.body (fin1 (.inr rfl) rfl (.tmp rfl) [] rfl ⟨rfl, rfl⟩))
                        · refine TC.skip ?_
                          refine TC.seq ?_
                          refine TC.region ?_
                          refine TL.assign rfl rfl (v := .int .i64 1) rfl ?_
                          refine TL.done ?_
                          refine TC.seq ?_
                          refine TC.region ?_
                          refine TL.loadM 0 5 (Src.box 2 rfl) Try.isAgg24 Try.sizeOf24 (mid := [.one (.int .i64 r_29), .one (.int .i64 r_30), .one (.int .i64 r_31), .one (.int .i64 r_32), .one (SV.v s8)]) rfl rfl rfl rfl rfl rfl ?_
                          refine TL.move rfl rfl (v := .int .i64 1) rfl ?_
                          refine TL.callX (R := G.laws_markTensor.R s8) [3, 0, 0, 0, 0, 0, 0, 0, 0, 0, 0, 0, 0, 0] [row Ei 2 s8 r_33] [row Ei 2 s7 l2, row Ei 2 s6 l1, box b_6 24 [.one (.int .i64 r_29), .one (.int .i64 r_30), .one (.int .i64 r_31), .one (.int .i64 r_32), .one (SV.v s8)], box b_5 24 [.one (.int .i64 r_24), .one (.int .i64 r_25), .one (.int .i64 r_26), .one (.int .i64 r_27), .one (SV.v s7)], box b_4 24 [.one (.int .i64 r_19), .one (.int .i64 r_20), .one (.int .i64 r_21), .one (.int .i64 r_22), .one (SV.v s6)], box b_2 32 [.one (.int .i64 x6), .one (.int .i64 x7), .one (.int .i64 x8), .one (.int .i64 x9), .one (SV.v s2)], box b_1 32 [.one (.int .i64 x1), .one (.int .i64 x2), .one (.int .i64 x3), .one (.int .i64 x4), .one (SV.v s1)], row Ei 2 (gs (g1 8)) r_7, row Ei 2 (gs (g1 24)) r_12, row Ei 2 (gs (g1 32)) r_17, box (gs (g1 64)).n 24 [.one (.int .i64 r_13), .one (.int .i64 r_14), .one (.int .i64 r_15), .one (.int .i64 r_16), .one (SV.v (gs (g1 32)))], row Ei 2 (gs (g2 16)) r_40, row Ei 2 (gs (g3 16)) r_46] rfl Try.call15 rfl rfl rfl (fun w I_ hle hB hS => G.laws_markTensor.calls _ I_ w r_29 r_30 r_31 r_32 s8 r_33 1 hS) ?_
                          rintro ⟨r_51, l3⟩ _ _ ⟨rfl, rfl⟩
                          refine TL.assign rfl rfl (v := .int .i64 r_51) rfl ?_
                          refine TL.done ?_
                          refine TC.seq ?_
                          refine TC.region ?_
                          refine TL.assign rfl rfl (v := .int .i64 1) rfl ?_
                          refine TL.done ?_
                          refine TC.seq ?_
                          refine TC.region ?_
                          refine TL.loadM 0 5 (Src.box 3 rfl) Try.isAgg24 Try.sizeOf24 (mid := [.one (.int .i64 r_29), .one (.int .i64 r_30), .one (.int .i64 r_31), .one (.int .i64 r_32), .one (SV.v s8)]) rfl rfl rfl rfl rfl rfl ?_
                          refine TL.move rfl rfl (v := .int .i64 1) rfl ?_
                          refine TL.call (R := G.laws_heldTensor.R) Try.call16 rfl rfl rfl (fun w hS => G.laws_heldTensor.calls w r_29 r_30 r_31 r_32 s8 l3 1 ((Rd.row 0 rfl) w hS)) ?_
                          rintro r_52 _ _ ⟨rfl, rfl⟩
                          refine TL.assign rfl rfl (v := .int .i64 r_52) rfl ?_
                          refine TL.done ?_
                          refine TC.seq ?_
                          refine TC.seq ?_
                          refine TC.region ?_
                          refine TL.move rfl rfl (v := .int .i64 r_52) rfl ?_
                          refine TL.bin .i64 r_52 0 rfl rfl rfl rfl (v := .bool (decide (r_52 < 0))) rfl ?_
                          refine TL.done ?_
                          refine TC.cond (b := (decide (r_52 < 0))) rfl (fun c19 => ?_) (fun c20 => ?_)
                          · refine TC.seq ?_
                            refine TC.region ?_
                            refine TL.assign rfl rfl (v := .bool false) rfl ?_
                            refine TL.done ?_
                            exact TC.retF (Fin.body (fin1 (.inr rfl) rfl (.tmp rfl) [] rfl ⟨rfl, rfl⟩))
                          · refine TC.skip ?_
                            refine TC.seq ?_
                            refine TC.seq ?_
                            refine TC.region ?_
                            refine TL.move rfl rfl (v := .int .i64 r_52) rfl ?_
                            refine TL.move rfl rfl (v := .int .i64 r_51) rfl ?_
                            refine TL.bin .i64 r_52 r_51 rfl rfl rfl rfl (v := .bool (r_52 != r_51)) rfl ?_
                            refine TL.done ?_
                            refine TC.cond (b := (r_52 != r_51)) rfl (fun c21 => ?_) (fun c22 => ?_)
                            · refine TC.seq ?_
                              refine TC.region ?_
                              refine TL.assign rfl rfl (v := .bool false) rfl ?_
                              refine TL.done ?_
                              exact TC.retF (Fin.body (fin1 (.inr rfl) rfl (.tmp rfl) [] rfl ⟨rfl, rfl⟩))
                            · refine TC.skip ?_
                              refine TC.seq ?_
                              refine TC.wk (Γ' := [(2, bp b_1 0), (3, bp b_2 0), (6, bp (gs (g1 64)).n 0), (7, .int .i64 r_18), (10, bp b_6 0), (13, .int .i64 r_51)]) ⟨rfl, rfl, rfl, rfl, rfl, rfl, trivial⟩ ?_
                              refine TC.bindE ?_
                              rintro ⟨r_53, r_54, r_55, r_56, r_57⟩ hr8
                              refine TC.bindE ?_
                              rintro ⟨r_58, r_59, r_60, r_61, r_62⟩ hr9
                              refine TC.bindE ?_
                              rintro ⟨r_63, r_64, r_65, r_66, r_67, r_68⟩ hr10
                              refine TC.drawG [(2, bp b_1 0), (3, bp b_2 0), (6, bp (gs (g1 64)).n 0), (7, .int .i64 r_18), (10, bp b_6 0), (13, .int .i64 r_51)] [] ⟨rfl, rfl, rfl, rfl, rfl, rfl, trivial⟩ trivial (fun l_ g4 => [row Ei 2 s8 l3, row Ei 2 s7 l2, row Ei 2 s6 l1, box b_6 24 [.one (.int .i64 r_29), .one (.int .i64 r_30), .one (.int .i64 r_31), .one (.int .i64 r_32), .one (SV.v s8)], box b_5 24 [.one (.int .i64 r_24), .one (.int .i64 r_25), .one (.int .i64 r_26), .one (.int .i64 r_27), .one (SV.v s7)], box b_4 24 [.one (.int .i64 r_19), .one (.int .i64 r_20), .one (.int .i64 r_21), .one (.int .i64 r_22), .one (SV.v s6)], box b_2 32 [.one (.int .i64 x6), .one (.int .i64 x7), .one (.int .i64 x8), .one (.int .i64 x9), .one (SV.v s2)], box b_1 32 [.one (.int .i64 x1), .one (.int .i64 x2), .one (.int .i64 x3), .one (.int .i64 x4), .one (SV.v s1)], row Ei 2 (gs (g1 8)) r_7, row Ei 2 (gs (g1 24)) r_12, row Ei 2 (gs (g1 32)) r_17, box (gs (g1 64)).n 24 [.one (.int .i64 r_13), .one (.int .i64 r_14), .one (.int .i64 r_15), .one (.int .i64 r_16), .one (SV.v (gs (g1 32)))], row Ei 2 (gs (g2 16)) r_40, row Ei 2 (gs (g3 16)) r_46, (bif nb l_ 1 then row Ei 2 (gs (g4 8)) r_57 else emp), (bif nb l_ 3 then row Ei 2 (gs (g4 24)) r_62 else emp), (bif nb l_ 4 then row Ei 2 (gs (g4 32)) r_67 else emp), (bif nb l_ 9 then box (gs (g4 64)).n 24 [.one (.int .i64 r_63), .one (.int .i64 r_64), .one (.int .i64 r_65), .one (.int .i64 r_66), .one (SV.v (gs (g4 32)))] else (bif nb l_ 8 then box (gs (g4 64)).n 24 [.one (.int .i64 0), .one (.int .i64 0), .one (.int .i64 0), .one (.int .i64 0), .one (SV.v ⟨none, 0, 0⟩)] else emp))]) (fun g4 => [sval [.one (.int .i64 x1), .one (.int .i64 x2), .one (.int .i64 x3), .one (.int .i64 x4), .one (SV.v s1)], sval [.one (.int .i64 r_53), .one (.int .i64 r_54), .one (.int .i64 r_55), .one (.int .i64 r_56), .one (SV.v (gs (g4 8)))], sval [.one (.int .i64 x6), .one (.int .i64 x7), .one (.int .i64 x8), .one (.int .i64 x9), .one (SV.v s2)], sval [.one (.int .i64 r_58), .one (.int .i64 r_59), .one (.int .i64 r_60), .one (.int .i64 r_61), .one (SV.v (gs (g4 24)))], .tuple #[sval [.one (.int .i64 r_63), .one (.int .i64 r_64), .one (.int .i64 r_65), .one (.int .i64 r_66), .one (SV.v (gs (g4 32)))], .int .i64 r_68], .tuple #[sval [.one (.int .i64 r_63), .one (.int .i64 r_64), .one (.int .i64 r_65), .one (.int .i64 r_66), .one (SV.v (gs (g4 32)))], .int .i64 r_68], sval [.one (.int .i64 r_63), .one (.int .i64 r_64), .one (.int .i64 r_65), .one (.int .i64 r_66), .one (SV.v (gs (g4 32)))], .int .i64 r_68, bp (gs (g4 64)).n 0, undef, .int .i64 r_68]) [[], [0], [], [0, 1, 2], [0, 1, 2, 3], [0, 1, 2, 3, 4], [0, 1, 2, 3, 4, 5], [0, 1, 2, 3, 4, 5], [], [0, 1, 2, 3, 4, 5, 6, 8], [0, 1, 2, 3, 4, 5, 6, 7, 8, 9]] [[some false, some false, none, some false, some false, some false, some false, some false, none, some false, some false], [some true, some false, none, some false, some false, some false, some false, some false, none, some false, some false], [none, none, some false, some false, some false, some false, some false, some false, none, some false, some false], [some true, some true, some true, some false, some false, some false, some false, some false, none, some false, some false], [some true, some true, some true, some true, some false, some false, some false, some false, none, some false, some false], [some true, some true, some true, some true, some true, some false, some false, some false, none, some false, some false], [some true, some true, some true, some true, some true, some true, some false, none, none, some false, some false], [some true, some true, some true, some true, some true, some true, none, some false, none, none, some false], [none, none, none, none, none, none, none, none, some false, some false, some false], [some true, some true, some true, some true, some true, some true, some true, none, some true, some false, some false], [some true, some true, some true, some true, some true, some true, some true, some true, some true, some true, some false]] (by kernel_rfl) (fun _ => rfl) rfl rfl rfl rfl rfl (fun _ _ => ⟨⟨⟨⟨⟨⟨⟨⟨⟨⟨⟨trivial, rfl⟩, rfl⟩, rfl⟩, rfl⟩, rfl⟩, rfl⟩, rfl⟩, rfl⟩, rfl⟩, rfl⟩, rfl⟩) 4 [4, 4, 4, 4, 4, 4, 4, 4, 4, 4, 4, 4, 4, 4, 0, 0, 0, 0] (fun _ => by kernel_rfl) ?_ ?_
                              · refine ⟨rfl, ?_, rfl, ?_, rfl, ?_, rfl, ?_, rfl, ?_, rfl, ?_, rfl, ?_, rfl, ?_, rfl, ?_, rfl, ?_, rfl, ?_, trivial⟩
                                · intro b2_ b8_ g4
                                  refine TL.asL [row Ei 2 s8 l3, row Ei 2 s7 l2, row Ei 2 s6 l1, box b_6 24 [.one (.int .i64 r_29), .one (.int .i64 r_30), .one (.int .i64 r_31), .one (.int .i64 r_32), .one (SV.v s8)], box b_5 24 [.one (.int .i64 r_24), .one (.int .i64 r_25), .one (.int .i64 r_26), .one (.int .i64 r_27), .one (SV.v s7)], box b_4 24 [.one (.int .i64 r_19), .one (.int .i64 r_20), .one (.int .i64 r_21), .one (.int .i64 r_22), .one (SV.v s6)], box b_2 32 [.one (.int .i64 x6), .one (.int .i64 x7), .one (.int .i64 x8), .one (.int .i64 x9), .one (SV.v s2)], box b_1 32 [.one (.int .i64 x1), .one (.int .i64 x2), .one (.int .i64 x3), .one (.int .i64 x4), .one (SV.v s1)], row Ei 2 (gs (g1 8)) r_7, row Ei 2 (gs (g1 24)) r_12, row Ei 2 (gs (g1 32)) r_17, box (gs (g1 64)).n 24 [.one (.int .i64 r_13), .one (.int .i64 r_14), .one (.int .i64 r_15), .one (.int .i64 r_16), .one (SV.v (gs (g1 32)))], row Ei 2 (gs (g2 16)) r_40, row Ei 2 (gs (g3 16)) r_46, emp, emp, emp, (bif b8_ then box (gs (g4 64)).n 24 [.one (.int .i64 0), .one (.int .i64 0), .one (.int .i64 0), .one (.int .i64 0), .one (SV.v ⟨none, 0, 0⟩)] else emp)] (by kernel_rfl) ?_
                                  refine TL.loadM 0 5 (Src.box 7 rfl) Try.isAgg32 Try.sizeOf32 (mid := [.one (.int .i64 x1), .one (.int .i64 x2), .one (.int .i64 x3), .one (.int .i64 x4), .one (SV.v s1)]) rfl rfl rfl rfl rfl rfl ?_
                                  refine TL.done ?_
                                  exact TC.nrm () [] ⟨rfl, trivial⟩ [0, 0, 0, 0, 0, 0, 0, 0, 0, 0, 0, 0, 0, 0, 0, 0, 0, 0] (by kernel_rfl)
                                · intro b2_ b8_ g4
                                  refine TL.asL [row Ei 2 s8 l3, row Ei 2 s7 l2, row Ei 2 s6 l1, box b_6 24 [.one (.int .i64 r_29), .one (.int .i64 r_30), .one (.int .i64 r_31), .one (.int .i64 r_32), .one (SV.v s8)], box b_5 24 [.one (.int .i64 r_24), .one (.int .i64 r_25), .one (.int .i64 r_26), .one (.int .i64 r_27), .one (SV.v s7)], box b_4 24 [.one (.int .i64 r_19), .one (.int .i64 r_20), .one (.int .i64 r_21), .one (.int .i64 r_22), .one (SV.v s6)], box b_2 32 [.one (.int .i64 x6), .one (.int .i64 x7), .one (.int .i64 x8), .one (.int .i64 x9), .one (SV.v s2)], box b_1 32 [.one (.int .i64 x1), .one (.int .i64 x2), .one (.int .i64 x3), .one (.int .i64 x4), .one (SV.v s1)], row Ei 2 (gs (g1 8)) r_7, row Ei 2 (gs (g1 24)) r_12, row Ei 2 (gs (g1 32)) r_17, box (gs (g1 64)).n 24 [.one (.int .i64 r_13), .one (.int .i64 r_14), .one (.int .i64 r_15), .one (.int .i64 r_16), .one (SV.v (gs (g1 32)))], row Ei 2 (gs (g2 16)) r_40, row Ei 2 (gs (g3 16)) r_46, emp, emp, emp, (bif b8_ then box (gs (g4 64)).n 24 [.one (.int .i64 0), .one (.int .i64 0), .one (.int .i64 0), .one (.int .i64 0), .one (SV.v ⟨none, 0, 0⟩)] else emp)] (by kernel_rfl) ?_
                                  refine TL.callH (R := G.laws_toTensor.R) hr8 Try.call21 rfl rfl rfl (fun w hS => G.laws_toTensor.calls w x1 x2 x3 x4 s1 x5 ((Rd.old h1) w hS)) ?_
                                  rintro _ _ ⟨s11, rfl, rfl⟩
                                  refine TL.done ?_
                                  exact TC.nrm () [[s11]] ⟨rfl, trivial⟩ [1, 1, 1, 1, 1, 1, 1, 1, 1, 1, 1, 1, 1, 1, 0, 1, 1, 1] (by kernel_rfl)
                                · intro b0_ b1_ b8_ g4
                                  refine TL.asL [row Ei 2 s8 l3, row Ei 2 s7 l2, row Ei 2 s6 l1, box b_6 24 [.one (.int .i64 r_29), .one (.int .i64 r_30), .one (.int .i64 r_31), .one (.int .i64 r_32), .one (SV.v s8)], box b_5 24 [.one (.int .i64 r_24), .one (.int .i64 r_25), .one (.int .i64 r_26), .one (.int .i64 r_27), .one (SV.v s7)], box b_4 24 [.one (.int .i64 r_19), .one (.int .i64 r_20), .one (.int .i64 r_21), .one (.int .i64 r_22), .one (SV.v s6)], box b_2 32 [.one (.int .i64 x6), .one (.int .i64 x7), .one (.int .i64 x8), .one (.int .i64 x9), .one (SV.v s2)], box b_1 32 [.one (.int .i64 x1), .one (.int .i64 x2), .one (.int .i64 x3), .one (.int .i64 x4), .one (SV.v s1)], row Ei 2 (gs (g1 8)) r_7, row Ei 2 (gs (g1 24)) r_12, row Ei 2 (gs (g1 32)) r_17, box (gs (g1 64)).n 24 [.one (.int .i64 r_13), .one (.int .i64 r_14), .one (.int .i64 r_15), .one (.int .i64 r_16), .one (SV.v (gs (g1 32)))], row Ei 2 (gs (g2 16)) r_40, row Ei 2 (gs (g3 16)) r_46, (bif b1_ then row Ei 2 (gs (g4 8)) r_57 else emp), emp, emp, (bif b8_ then box (gs (g4 64)).n 24 [.one (.int .i64 0), .one (.int .i64 0), .one (.int .i64 0), .one (.int .i64 0), .one (SV.v ⟨none, 0, 0⟩)] else emp)] (by kernel_rfl) ?_
                                  refine TL.loadM 0 5 (Src.box 6 rfl) Try.isAgg32 Try.sizeOf32 (mid := [.one (.int .i64 x6), .one (.int .i64 x7), .one (.int .i64 x8), .one (.int .i64 x9), .one (SV.v s2)]) rfl rfl rfl rfl rfl rfl ?_
                                  refine TL.done ?_
                                  exact TC.nrm () [] ⟨rfl, trivial⟩ [0, 0, 0, 0, 0, 0, 0, 0, 0, 0, 0, 0, 0, 0, 0, 0, 0, 0] (by kernel_rfl)
                                · intro b8_ g4
                                  refine TL.asL [row Ei 2 s8 l3, row Ei 2 s7 l2, row Ei 2 s6 l1, box b_6 24 [.one (.int .i64 r_29), .one (.int .i64 r_30), .one (.int .i64 r_31), .one (.int .i64 r_32), .one (SV.v s8)], box b_5 24 [.one (.int .i64 r_24), .one (.int .i64 r_25), .one (.int .i64 r_26), .one (.int .i64 r_27), .one (SV.v s7)], box b_4 24 [.one (.int .i64 r_19), .one (.int .i64 r_20), .one (.int .i64 r_21), .one (.int .i64 r_22), .one (SV.v s6)], box b_2 32 [.one (.int .i64 x6), .one (.int .i64 x7), .one (.int .i64 x8), .one (.int .i64 x9), .one (SV.v s2)], box b_1 32 [.one (.int .i64 x1), .one (.int .i64 x2), .one (.int .i64 x3), .one (.int .i64 x4), .one (SV.v s1)], row Ei 2 (gs (g1 8)) r_7, row Ei 2 (gs (g1 24)) r_12, row Ei 2 (gs (g1 32)) r_17, box (gs (g1 64)).n 24 [.one (.int .i64 r_13), .one (.int .i64 r_14), .one (.int .i64 r_15), .one (.int .i64 r_16), .one (SV.v (gs (g1 32)))], row Ei 2 (gs (g2 16)) r_40, row Ei 2 (gs (g3 16)) r_46, row Ei 2 (gs (g4 8)) r_57, emp, emp, (bif b8_ then box (gs (g4 64)).n 24 [.one (.int .i64 0), .one (.int .i64 0), .one (.int .i64 0), .one (.int .i64 0), .one (SV.v ⟨none, 0, 0⟩)] else emp)] (by kernel_rfl) ?_
                                  refine TL.callH (R := G.laws_toTensor.R) hr9 Try.call21 rfl rfl rfl (fun w hS => G.laws_toTensor.calls w x6 x7 x8 x9 s2 x10 ((Rd.old h2) w hS)) ?_
                                  rintro _ _ ⟨s12, rfl, rfl⟩
                                  refine TL.done ?_
                                  exact TC.nrm () [[s12]] ⟨rfl, trivial⟩ [1, 1, 1, 1, 1, 1, 1, 1, 1, 1, 1, 1, 1, 1, 1, 0, 1, 1] (by kernel_rfl)
                                · intro b8_ g4
                                  refine TL.asL [row Ei 2 s8 l3, row Ei 2 s7 l2, row Ei 2 s6 l1, box b_6 24 [.one (.int .i64 r_29), .one (.int .i64 r_30), .one (.int .i64 r_31), .one (.int .i64 r_32), .one (SV.v s8)], box b_5 24 [.one (.int .i64 r_24), .one (.int .i64 r_25), .one (.int .i64 r_26), .one (.int .i64 r_27), .one (SV.v s7)], box b_4 24 [.one (.int .i64 r_19), .one (.int .i64 r_20), .one (.int .i64 r_21), .one (.int .i64 r_22), .one (SV.v s6)], box b_2 32 [.one (.int .i64 x6), .one (.int .i64 x7), .one (.int .i64 x8), .one (.int .i64 x9), .one (SV.v s2)], box b_1 32 [.one (.int .i64 x1), .one (.int .i64 x2), .one (.int .i64 x3), .one (.int .i64 x4), .one (SV.v s1)], row Ei 2 (gs (g1 8)) r_7, row Ei 2 (gs (g1 24)) r_12, row Ei 2 (gs (g1 32)) r_17, box (gs (g1 64)).n 24 [.one (.int .i64 r_13), .one (.int .i64 r_14), .one (.int .i64 r_15), .one (.int .i64 r_16), .one (SV.v (gs (g1 32)))], row Ei 2 (gs (g2 16)) r_40, row Ei 2 (gs (g3 16)) r_46, row Ei 2 (gs (g4 8)) r_57, row Ei 2 (gs (g4 24)) r_62, emp, (bif b8_ then box (gs (g4 64)).n 24 [.one (.int .i64 0), .one (.int .i64 0), .one (.int .i64 0), .one (.int .i64 0), .one (SV.v ⟨none, 0, 0⟩)] else emp)] (by kernel_rfl) ?_
                                  refine TL.callH (R := G.impl_ComposeTensors.R) hr10 Try.call28 rfl rfl rfl (fun w hS => G.impl_ComposeTensors.calls w r_53 r_54 r_55 r_56 (gs (g4 8)) r_57 r_58 r_59 r_60 r_61 (gs (g4 24)) r_62 ((Rd.row 14 rfl) w hS) ((Rd.row 15 rfl) w hS)) ?_
                                  rintro _ _ ⟨s13, rfl, rfl⟩
                                  refine TL.done ?_
                                  exact TC.nrm () [[s13]] ⟨rfl, trivial⟩ [1, 1, 1, 1, 1, 1, 1, 1, 1, 1, 1, 1, 1, 1, 1, 1, 0, 1] (by kernel_rfl)
                                · intro b8_ g4
                                  refine TL.move rfl rfl (v := .tuple #[sval [.one (.int .i64 r_63), .one (.int .i64 r_64), .one (.int .i64 r_65), .one (.int .i64 r_66), .one (SV.v (gs (g4 32)))], .int .i64 r_68]) rfl ?_
                                  refine TL.done ?_
                                  exact TC.nrm () [] ⟨rfl, trivial⟩ [0, 0, 0, 0, 0, 0, 0, 0, 0, 0, 0, 0, 0, 0, 0, 0, 0, 0] (by kernel_rfl)
                                · intro b7_ b8_ g4
                                  refine TL.extract rfl rfl rfl (v := sval [.one (.int .i64 r_63), .one (.int .i64 r_64), .one (.int .i64 r_65), .one (.int .i64 r_66), .one (SV.v (gs (g4 32)))]) rfl ?_
                                  refine TL.done ?_
                                  exact TC.nrm () [] ⟨rfl, trivial⟩ [0, 0, 0, 0, 0, 0, 0, 0, 0, 0, 0, 0, 0, 0, 0, 0, 0, 0] (by kernel_rfl)
                                · intro b6_ b8_ b9_ g4
                                  refine TL.extract rfl rfl rfl (v := .int .i64 r_68) rfl ?_
                                  refine TL.done ?_
                                  exact TC.nrm () [] ⟨rfl, trivial⟩ [0, 0, 0, 0, 0, 0, 0, 0, 0, 0, 0, 0, 0, 0, 0, 0, 0, 0] (by kernel_rfl)
                                · intro b0_ b1_ b2_ b3_ b4_ b5_ b6_ b7_ g4
                                  refine TL.asL [row Ei 2 s8 l3, row Ei 2 s7 l2, row Ei 2 s6 l1, box b_6 24 [.one (.int .i64 r_29), .one (.int .i64 r_30), .one (.int .i64 r_31), .one (.int .i64 r_32), .one (SV.v s8)], box b_5 24 [.one (.int .i64 r_24), .one (.int .i64 r_25), .one (.int .i64 r_26), .one (.int .i64 r_27), .one (SV.v s7)], box b_4 24 [.one (.int .i64 r_19), .one (.int .i64 r_20), .one (.int .i64 r_21), .one (.int .i64 r_22), .one (SV.v s6)], box b_2 32 [.one (.int .i64 x6), .one (.int .i64 x7), .one (.int .i64 x8), .one (.int .i64 x9), .one (SV.v s2)], box b_1 32 [.one (.int .i64 x1), .one (.int .i64 x2), .one (.int .i64 x3), .one (.int .i64 x4), .one (SV.v s1)], row Ei 2 (gs (g1 8)) r_7, row Ei 2 (gs (g1 24)) r_12, row Ei 2 (gs (g1 32)) r_17, box (gs (g1 64)).n 24 [.one (.int .i64 r_13), .one (.int .i64 r_14), .one (.int .i64 r_15), .one (.int .i64 r_16), .one (SV.v (gs (g1 32)))], row Ei 2 (gs (g2 16)) r_40, row Ei 2 (gs (g3 16)) r_46, (bif b1_ then row Ei 2 (gs (g4 8)) r_57 else emp), (bif b3_ then row Ei 2 (gs (g4 24)) r_62 else emp), (bif b4_ then row Ei 2 (gs (g4 32)) r_67 else emp), emp] (by kernel_rfl) ?_
                                  refine TL.alloc [.one (.int .i64 0), .one (.int .i64 0), .one (.int .i64 0), .one (.int .i64 0), .one (SV.v ⟨none, 0, 0⟩)] rfl rfl Try.zeroValue24 rfl fun b_8 => ?_
                                  refine TL.done ?_
                                  exact TC.nrm () [[⟨none, b_8, 0⟩]] ⟨rfl, trivial⟩ [1, 1, 1, 1, 1, 1, 1, 1, 1, 1, 1, 1, 1, 1, 1, 1, 1, 0] (by kernel_rfl)
                                · intro b7_ g4
                                  refine TL.asL [row Ei 2 s8 l3, row Ei 2 s7 l2, row Ei 2 s6 l1, box b_6 24 [.one (.int .i64 r_29), .one (.int .i64 r_30), .one (.int .i64 r_31), .one (.int .i64 r_32), .one (SV.v s8)], box b_5 24 [.one (.int .i64 r_24), .one (.int .i64 r_25), .one (.int .i64 r_26), .one (.int .i64 r_27), .one (SV.v s7)], box b_4 24 [.one (.int .i64 r_19), .one (.int .i64 r_20), .one (.int .i64 r_21), .one (.int .i64 r_22), .one (SV.v s6)], box b_2 32 [.one (.int .i64 x6), .one (.int .i64 x7), .one (.int .i64 x8), .one (.int .i64 x9), .one (SV.v s2)], box b_1 32 [.one (.int .i64 x1), .one (.int .i64 x2), .one (.int .i64 x3), .one (.int .i64 x4), .one (SV.v s1)], row Ei 2 (gs (g1 8)) r_7, row Ei 2 (gs (g1 24)) r_12, row Ei 2 (gs (g1 32)) r_17, box (gs (g1 64)).n 24 [.one (.int .i64 r_13), .one (.int .i64 r_14), .one (.int .i64 r_15), .one (.int .i64 r_16), .one (SV.v (gs (g1 32)))], row Ei 2 (gs (g2 16)) r_40, row Ei 2 (gs (g3 16)) r_46, row Ei 2 (gs (g4 8)) r_57, row Ei 2 (gs (g4 24)) r_62, row Ei 2 (gs (g4 32)) r_67, box (gs (g4 64)).n 24 [.one (.int .i64 0), .one (.int .i64 0), .one (.int .i64 0), .one (.int .i64 0), .one (SV.v ⟨none, 0, 0⟩)]] (by kernel_rfl) ?_
                                  refine TL.stM (news := [.one (.int .i64 r_63), .one (.int .i64 r_64), .one (.int .i64 r_65), .one (.int .i64 r_66), .one (SV.v (gs (g4 32)))]) 17 0 5 rfl Try.sizeOf24 (ones_one rfl (ones_one rfl (ones_one rfl (ones_one rfl (ones_one rfl ones_nil))))) rfl rfl rfl rfl rfl rfl ?_
                                  refine TL.done ?_
                                  exact TC.nrm () [] trivial [0, 0, 0, 0, 0, 0, 0, 0, 0, 0, 0, 0, 0, 0, 0, 0, 0, 0] (by kernel_rfl)
                                · intro g4
                                  refine TL.assign rfl rfl (v := .int .i64 r_68) rfl ?_
                                  refine TL.done ?_
                                  exact TC.nrm () [] ⟨rfl, trivial⟩ [0, 0, 0, 0, 0, 0, 0, 0, 0, 0, 0, 0, 0, 0, 0, 0, 0, 0] (by kernel_rfl)
                              · intro g4
                                refine TC.asL [row Ei 2 s8 l3, row Ei 2 s7 l2, row Ei 2 s6 l1, box b_6 24 [.one (.int .i64 r_29), .one (.int .i64 r_30), .one (.int .i64 r_31), .one (.int .i64 r_32), .one (SV.v s8)], box b_5 24 [.one (.int .i64 r_24), .one (.int .i64 r_25), .one (.int .i64 r_26), .one (.int .i64 r_27), .one (SV.v s7)], box b_4 24 [.one (.int .i64 r_19), .one (.int .i64 r_20), .one (.int .i64 r_21), .one (.int .i64 r_22), .one (SV.v s6)], box b_2 32 [.one (.int .i64 x6), .one (.int .i64 x7), .one (.int .i64 x8), .one (.int .i64 x9), .one (SV.v s2)], box b_1 32 [.one (.int .i64 x1), .one (.int .i64 x2), .one (.int .i64 x3), .one (.int .i64 x4), .one (SV.v s1)], row Ei 2 (gs (g1 8)) r_7, row Ei 2 (gs (g1 24)) r_12, row Ei 2 (gs (g1 32)) r_17, box (gs (g1 64)).n 24 [.one (.int .i64 r_13), .one (.int .i64 r_14), .one (.int .i64 r_15), .one (.int .i64 r_16), .one (SV.v (gs (g1 32)))], row Ei 2 (gs (g2 16)) r_40, row Ei 2 (gs (g3 16)) r_46, row Ei 2 (gs (g4 8)) r_57, row Ei 2 (gs (g4 24)) r_62, row Ei 2 (gs (g4 32)) r_67, box (gs (g4 64)).n 24 [.one (.int .i64 r_63), .one (.int .i64 r_64), .one (.int .i64 r_65), .one (.int .i64 r_66), .one (SV.v (gs (g4 32)))]] (by kernel_rfl) ?_
                                refine TC.seq ?_
                                refine TC.seq ?_
                                refine TC.region ?_
                                refine TL.loadM 0 5 (Src.box 17 rfl) Try.isAgg24 Try.sizeOf24 (mid := [.one (.int .i64 r_63), .one (.int .i64 r_64), .one (.int .i64 r_65), .one (.int .i64 r_66), .one (SV.v (gs (g4 32)))]) rfl rfl rfl rfl rfl rfl ?_
                                refine TL.loadM 0 5 (Src.box 11 rfl) Try.isAgg24 Try.sizeOf24 (mid := [.one (.int .i64 r_13), .one (.int .i64 r_14), .one (.int .i64 r_15), .one (.int .i64 r_16), .one (SV.v (gs (g1 32)))]) rfl rfl rfl rfl rfl rfl ?_
                                refine TL.call (R := G.laws_eqTensor.R) Try.call14 rfl rfl rfl (fun w hS => G.laws_eqTensor.calls w r_63 r_64 r_65 r_66 (gs (g4 32)) r_67 r_13 r_14 r_15 r_16 (gs (g1 32)) r_17 ((Rd.row 16 rfl) w hS) ((Rd.row 10 rfl) w hS)) ?_
                                rintro r_69 _ _ ⟨rfl, rfl⟩
                                refine TL.not r_69 rfl rfl rfl ?_
                                refine TL.move rfl rfl (v := .bool (!r_69)) rfl ?_
                                refine TL.cutU 4 [(110, .bool ((!r_69) || (r_68 != r_18))), (2, bp b_1 0), (3, bp b_2 0), (6, bp (gs (g1 64)).n 0), (7, .int .i64 r_18), (10, bp b_6 0), (13, .int .i64 r_51), (95, sval [.one (.int .i64 x1), .one (.int .i64 x2), .one (.int .i64 x3), .one (.int .i64 x4), .one (SV.v s1)]), (96, sval [.one (.int .i64 r_53), .one (.int .i64 r_54), .one (.int .i64 r_55), .one (.int .i64 r_56), .one (SV.v (gs (g4 8)))]), (97, sval [.one (.int .i64 x6), .one (.int .i64 x7), .one (.int .i64 x8), .one (.int .i64 x9), .one (SV.v s2)]), (98, sval [.one (.int .i64 r_58), .one (.int .i64 r_59), .one (.int .i64 r_60), .one (.int .i64 r_61), .one (SV.v (gs (g4 24)))]), (99, .tuple #[sval [.one (.int .i64 r_63), .one (.int .i64 r_64), .one (.int .i64 r_65), .one (.int .i64 r_66), .one (SV.v (gs (g4 32)))], .int .i64 r_68]), (94, .tuple #[sval [.one (.int .i64 r_63), .one (.int .i64 r_64), .one (.int .i64 r_65), .one (.int .i64 r_66), .one (SV.v (gs (g4 32)))], .int .i64 r_68]), (100, sval [.one (.int .i64 r_63), .one (.int .i64 r_64), .one (.int .i64 r_65), .one (.int .i64 r_66), .one (SV.v (gs (g4 32)))]), (101, .int .i64 r_68), (15, bp (gs (g4 64)).n 0), (16, .int .i64 r_68), (102, sval [.one (.int .i64 r_63), .one (.int .i64 r_64), .one (.int .i64 r_65), .one (.int .i64 r_66), .one (SV.v (gs (g4 32)))]), (103, sval [.one (.int .i64 r_13), .one (.int .i64 r_14), .one (.int .i64 r_15), .one (.int .i64 r_16), .one (SV.v (gs (g1 32)))]), (104, .bool r_69), (105, .bool (!r_69)), (106, .bool (!r_69))] [row Ei 2 s8 l3, row Ei 2 s7 l2, row Ei 2 s6 l1, box b_6 24 [.one (.int .i64 r_29), .one (.int .i64 r_30), .one (.int .i64 r_31), .one (.int .i64 r_32), .one (SV.v s8)], box b_5 24 [.one (.int .i64 r_24), .one (.int .i64 r_25), .one (.int .i64 r_26), .one (.int .i64 r_27), .one (SV.v s7)], box b_4 24 [.one (.int .i64 r_19), .one (.int .i64 r_20), .one (.int .i64 r_21), .one (.int .i64 r_22), .one (SV.v s6)], box b_2 32 [.one (.int .i64 x6), .one (.int .i64 x7), .one (.int .i64 x8), .one (.int .i64 x9), .one (SV.v s2)], box b_1 32 [.one (.int .i64 x1), .one (.int .i64 x2), .one (.int .i64 x3), .one (.int .i64 x4), .one (SV.v s1)], row Ei 2 (gs (g1 8)) r_7, row Ei 2 (gs (g1 24)) r_12, row Ei 2 (gs (g1 32)) r_17, box (gs (g1 64)).n 24 [.one (.int .i64 r_13), .one (.int .i64 r_14), .one (.int .i64 r_15), .one (.int .i64 r_16), .one (SV.v (gs (g1 32)))], row Ei 2 (gs (g2 16)) r_40, row Ei 2 (gs (g3 16)) r_46, row Ei 2 (gs (g4 8)) r_57, row Ei 2 (gs (g4 24)) r_62, row Ei 2 (gs (g4 32)) r_67, box (gs (g4 64)).n 24 [.one (.int .i64 r_63), .one (.int .i64 r_64), .one (.int .i64 r_65), .one (.int .i64 r_66), .one (SV.v (gs (g4 32)))]] ?_ ?_
                                · refine TL.cases (t := 106) (b := (!r_69)) rfl (fun c23 => ?_) (fun c24 => ?_)
                                  · refine TL.skip rfl rfl (by decide) ?_
                                    refine TL.skip rfl rfl (by decide) ?_
                                    refine TL.skip rfl rfl (by decide) ?_
                                    refine TL.pick rfl rfl (b := true) rfl (r := .bool true) rfl ?_
                                    refine TL.done ?_
                                    exact TC.nrm () () ⟨(by rw [c23]; rfl), rfl, rfl, rfl, rfl, rfl, rfl, rfl, rfl, rfl, rfl, rfl, rfl, rfl, rfl, rfl, rfl, rfl, rfl, rfl, rfl, (by rw [c23]; rfl), trivial⟩ [0, 0, 0, 0, 0, 0, 0, 0, 0, 0, 0, 0, 0, 0, 0, 0, 0, 0] (by kernel_rfl)
                                  · refine TL.move rfl rfl (v := .int .i64 r_68) rfl ?_
                                    refine TL.move rfl rfl (v := .int .i64 r_18) rfl ?_
                                    refine TL.bin .i64 r_68 r_18 rfl rfl rfl rfl (v := .bool (r_68 != r_18)) rfl ?_
                                    refine TL.pick rfl rfl (b := false) rfl (r := .bool (r_68 != r_18)) rfl ?_
                                    refine TL.done ?_
                                    exact TC.nrm () () ⟨(by rw [c24]; rfl), rfl, rfl, rfl, rfl, rfl, rfl, rfl, rfl, rfl, rfl, rfl, rfl, rfl, rfl, rfl, rfl, rfl, rfl, rfl, rfl, (by rw [c24]; rfl), trivial⟩ [0, 0, 0, 0, 0, 0, 0, 0, 0, 0, 0, 0, 0, 0, 0, 0, 0, 0] (by kernel_rfl)
                                · refine TL.done ?_
                                  refine TC.cond (b := ((!r_69) || (r_68 != r_18))) rfl (fun c25 => ?_) (fun c26 => ?_)
                                  · refine TC.seq ?_
                                    refine TC.region ?_
                                    refine TL.assign rfl rfl (v := .bool false) rfl ?_
                                    refine TL.done ?_
                                    exact TC.retF (Fin.body (fin1 (.inr rfl) rfl (.tmp rfl) [] rfl ⟨rfl, rfl⟩))
                                  · refine TC.skip ?_
                                    refine TC.seq ?_
                                    refine TC.region ?_
                                    refine TL.assign rfl rfl (v := .int .i64 1) rfl ?_
                                    refine TL.done ?_
                                    refine TC.seq ?_
                                    refine TC.region ?_
                                    refine TL.loadM 0 5 (Src.box 3 rfl) Try.isAgg24 Try.sizeOf24 (mid := [.one (.int .i64 r_29), .one (.int .i64 r_30), .one (.int .i64 r_31), .one (.int .i64 r_32), .one (SV.v s8)]) rfl rfl rfl rfl rfl rfl ?_
                                    refine TL.move rfl rfl (v := .int .i64 1) rfl ?_
                                    refine TL.call (R := G.laws_heldTensor.R) Try.call16 rfl rfl rfl (fun w hS => G.laws_heldTensor.calls w r_29 r_30 r_31 r_32 s8 l3 1 ((Rd.row 0 rfl) w hS)) ?_
                                    rintro r_70 _ _ ⟨rfl, rfl⟩
                                    refine TL.assign rfl rfl (v := .int .i64 r_70) rfl ?_
                                    refine TL.done ?_
                                    refine TC.seq ?_
                                    refine TC.seq ?_
                                    refine TC.region ?_
                                    refine TL.move rfl rfl (v := .int .i64 r_70) rfl ?_
                                    refine TL.bin .i64 r_70 0 rfl rfl rfl rfl (v := .bool (decide (r_70 < 0))) rfl ?_
                                    refine TL.done ?_
                                    refine TC.cond (b := (decide (r_70 < 0))) rfl (fun c27 => ?_) (fun c28 => ?_)
                                    · refine TC.seq ?_
                                      refine TC.region ?_
                                      refine TL.assign rfl rfl (v := .bool false) rfl ?_
                                      refine TL.done ?_
                                      exact TC.retF (Fin.body (fin1 (.inr rfl) rfl (.tmp rfl) [] rfl ⟨rfl, rfl⟩))
                                    · refine TC.skip ?_
                                      refine TC.seq ?_
                                      refine TC.seq ?_
                                      refine TC.region ?_
                                      refine TL.move rfl rfl (v := .int .i64 r_70) rfl ?_
                                      refine TL.move rfl rfl (v := .int .i64 r_51) rfl ?_
                                      refine TL.bin .i64 r_70 r_51 rfl rfl rfl rfl (v := .bool (r_70 != r_51)) rfl ?_
                                      refine TL.done ?_
                                      refine TC.cond (b := (r_70 != r_51)) rfl (fun c29 => ?_) (fun c30 => ?_)
                                      · refine TC.seq ?_
                                        refine TC.region ?_
                                        refine TL.assign rfl rfl (v := .bool false) rfl ?_
                                        refine TL.done ?_
                                        exact TC.retF (Fin.body (fin1 (.inr rfl) rfl (.tmp rfl) [] rfl ⟨rfl, rfl⟩))
                                      · refine TC.skip ?_
                                        refine TC.seq ?_
                                        refine TC.region ?_
                                        refine TL.assign rfl rfl (v := .bool true) rfl ?_
                                        refine TL.done ?_
                                        exact TC.retF (Fin.body (fin1 (.inr rfl) rfl (.tmp rfl) [] rfl ⟨rfl, rfl⟩))

end Go.Proofs.Ytjjfoofjipafiaa.G

/- spec.l01Mod, as a pure function. -/
set_option linter.unusedVariables false
namespace Go.Proofs.Ytjjfoofjipafiaa.G
open Go Go.Sx Go.Proofs

def spec_l01Mod.f (p1 : Int) (x1 : Int) : Option Int := nz p1 (some (Int.tmod (w64 ((Int.tmod x1 p1) + p1)) p1))

def spec_l01Mod.R (r : Int) (v : Value) (L : List Asn) : Prop := v = .int .i64 r ∧ L = []

set_option maxRecDepth 100000 in
set_option maxHeartbeats 4000000 in
theorem spec_l01Mod.calls (w : World) (p1 : Int) (x1 : Int) :
    ∀ r, spec_l01Mod.f p1 x1 = some r → Calls Try.prog 146 #[.int .i64 p1, .int .i64 x1] w (Ret w (spec_l01Mod.R r)) := by

  refine calls_T (n := 12) (Γ := [(0, .int .i64 p1), (1, .int .i64 x1)]) (R := spec_l01Mod.R) Try.func146 rfl rfl (Nat.le_of_ble_eq_true rfl) ⟨rfl, rfl, trivial⟩ ?_
  unfold spec_l01Mod.f
  refine TC.seq ?_
  refine TC.region ?_
  refine TL.assign rfl rfl (v := .int .i64 0) rfl ?_
  refine TL.done ?_
  refine TC.seq ?_
  refine TC.region ?_
  refine TL.move rfl rfl (v := .int .i64 x1) rfl ?_
  refine TL.move rfl rfl (v := .int .i64 p1) rfl ?_
  refine TL.nz fun z1 => ?_
  refine TL.rem .i64 x1 p1 z1 rfl rfl rfl rfl ?_
  refine TL.move rfl rfl (v := .int .i64 p1) rfl ?_
  refine TL.bin .i64 (Int.tmod x1 p1) p1 rfl rfl rfl rfl (v := .int .i64 (w64 ((Int.tmod x1 p1) + p1))) rfl ?_
  refine TL.move rfl rfl (v := .int .i64 p1) rfl ?_
  refine TL.rem .i64 (w64 ((Int.tmod x1 p1) + p1)) p1 z1 rfl rfl rfl rfl ?_
  refine TL.assign rfl rfl (v := .int .i64 (Int.tmod (w64 ((Int.tmod x1 p1) + p1)) p1)) rfl ?_
  refine TL.done ?_
  exact TC.retF (Fin.body (fin1 (.inr rfl) rfl (.tmp rfl) [] rfl ⟨rfl, rfl⟩))

end Go.Proofs.Ytjjfoofjipafiaa.G
