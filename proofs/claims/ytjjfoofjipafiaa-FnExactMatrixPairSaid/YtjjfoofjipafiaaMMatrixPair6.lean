/- Functions of the program, as pure functions. -/
import Derived.Test.YtjjfoofjipafiaaMMatrixPair5
import Derived.Test.YtjjfoofjipafiaaProg
/- laws.eqPair, as a pure function. -/
set_option linter.unusedVariables false
namespace Go.Proofs.Ytjjfoofjipafiaa.G
open Go Go.Sx Go.Proofs

def laws_eqPair.f (a_1 : Int) (a_2 : Int) (a_3 : Nat → UInt8) (a_4 : Nat → UInt8) (a_5 : Int) (a_6 : Int) (a_7 : Nat → UInt8) (a_8 : Nat → UInt8) (a_9 : Nat → UInt8) (b_1 : Int) (b_2 : Int) (b_3 : Nat → UInt8) (b_4 : Nat → UInt8) (b_5 : Int) (b_6 : Int) (b_7 : Nat → UInt8) (b_8 : Nat → UInt8) (b_9 : Nat → UInt8) : Option Bool := (G.laws_eqAlgebra.f a_1 a_2 a_3 a_4 b_1 b_2 b_3 b_4).bind (fun r_1 => (bif (!r_1) then some false else (G.laws_eqAlgebra.f a_5 a_6 a_7 a_8 b_5 b_6 b_7 b_8).bind (fun r_2 => (bif (!r_2) then some false else (G.laws_eqVectorA6.f a_9 b_9).bind (fun r_3 => (bif (!r_3) then some false else some true))))))

def laws_eqPair.R (r : Bool) (v : Value) (L : List Asn) : Prop := v = .bool r ∧ L = []

set_option maxRecDepth 100000 in
set_option maxHeartbeats 4000000 in
theorem laws_eqPair.calls (w : World) (a_1 : Int) (a_2 : Int) (a_3 : Nat → UInt8) (a_4 : Nat → UInt8) (a_5 : Int) (a_6 : Int) (a_7 : Nat → UInt8) (a_8 : Nat → UInt8) (a_9 : Nat → UInt8) (b_1 : Int) (b_2 : Int) (b_3 : Nat → UInt8) (b_4 : Nat → UInt8) (b_5 : Int) (b_6 : Int) (b_7 : Nat → UInt8) (b_8 : Nat → UInt8) (b_9 : Nat → UInt8) :
    ∀ r, laws_eqPair.f a_1 a_2 a_3 a_4 a_5 a_6 a_7 a_8 a_9 b_1 b_2 b_3 b_4 b_5 b_6 b_7 b_8 b_9 = some r → Calls Try.prog 43 #[sval [.one (.int .i64 a_1), .one (.int .i64 a_2), .arr 216 (enf u8v a_3), .arr 6 (enf u8v a_4), .one (.int .i64 a_5), .one (.int .i64 a_6), .arr 216 (enf u8v a_7), .arr 6 (enf u8v a_8), .arr 36 (enf u8v a_9)], sval [.one (.int .i64 b_1), .one (.int .i64 b_2), .arr 216 (enf u8v b_3), .arr 6 (enf u8v b_4), .one (.int .i64 b_5), .one (.int .i64 b_6), .arr 216 (enf u8v b_7), .arr 6 (enf u8v b_8), .arr 36 (enf u8v b_9)]] w (Ret w (laws_eqPair.R r)) := by

  refine calls_T (n := 23) (Γ := [(0, sval [.one (.int .i64 a_1), .one (.int .i64 a_2), .arr 216 (enf u8v a_3), .arr 6 (enf u8v a_4), .one (.int .i64 a_5), .one (.int .i64 a_6), .arr 216 (enf u8v a_7), .arr 6 (enf u8v a_8), .arr 36 (enf u8v a_9)]), (1, sval [.one (.int .i64 b_1), .one (.int .i64 b_2), .arr 216 (enf u8v b_3), .arr 6 (enf u8v b_4), .one (.int .i64 b_5), .one (.int .i64 b_6), .arr 216 (enf u8v b_7), .arr 6 (enf u8v b_8), .arr 36 (enf u8v b_9)])]) (R := laws_eqPair.R) Try.func43 rfl rfl (Nat.le_of_ble_eq_true rfl) ⟨rfl, rfl, trivial⟩ ?_
  unfold laws_eqPair.f
  refine TC.seq ?_
  refine TC.region ?_
  refine TL.box [.one (.int .i64 a_1), .one (.int .i64 a_2), .arr 216 (enf u8v a_3), .arr 6 (enf u8v a_4), .one (.int .i64 a_5), .one (.int .i64 a_6), .arr 216 (enf u8v a_7), .arr 6 (enf u8v a_8), .arr 36 (enf u8v a_9)] rfl rfl rfl rfl fun b_10 => ?_
  refine TL.box [.one (.int .i64 b_1), .one (.int .i64 b_2), .arr 216 (enf u8v b_3), .arr 6 (enf u8v b_4), .one (.int .i64 b_5), .one (.int .i64 b_6), .arr 216 (enf u8v b_7), .arr 6 (enf u8v b_8), .arr 36 (enf u8v b_9)] rfl rfl rfl rfl fun b_11 => ?_
  refine TL.assign rfl rfl (v := .bool false) rfl ?_
  refine TL.done ?_
  refine TC.seq ?_
  refine TC.seq ?_
  refine TC.region ?_
  refine TL.fa Try.underlying63 rfl Try.sizeOf60 rfl 0 rfl rfl rfl rfl ?_
  refine TL.loadM 0 4 (Src.box 1 rfl) Try.isAgg60 Try.sizeOf60 (mid := [.one (.int .i64 a_1), .one (.int .i64 a_2), .arr 216 (enf u8v a_3), .arr 6 (enf u8v a_4)]) rfl rfl rfl rfl rfl rfl ?_
  refine TL.fa Try.underlying63 rfl Try.sizeOf60 rfl 0 rfl rfl rfl rfl ?_
  refine TL.loadM 0 4 (Src.box 0 rfl) Try.isAgg60 Try.sizeOf60 (mid := [.one (.int .i64 b_1), .one (.int .i64 b_2), .arr 216 (enf u8v b_3), .arr 6 (enf u8v b_4)]) rfl rfl rfl rfl rfl rfl ?_
  refine TL.call (R := G.laws_eqAlgebra.R) Try.call86 rfl rfl rfl (fun w hS => G.laws_eqAlgebra.calls w a_1 a_2 a_3 a_4 b_1 b_2 b_3 b_4) ?_
  rintro r_1 _ _ ⟨rfl, rfl⟩
  refine TL.not r_1 rfl rfl rfl ?_
  refine TL.done ?_
  refine TC.cond (b := (!r_1)) rfl (fun c1 => ?_) (fun c2 => ?_)
  · refine TC.seq ?_
    refine TC.region ?_
    refine TL.assign rfl rfl (v := .bool false) rfl ?_
    refine TL.done ?_
    exact TC.retF (Fin.body (fin1 (.inr rfl) rfl (.tmp rfl) [] rfl ⟨rfl, rfl⟩))
  · refine TC.skip ?_
    refine TC.seq ?_
    refine TC.seq ?_
    refine TC.region ?_
    refine TL.fa Try.underlying63 rfl Try.sizeOf60 rfl 224 rfl rfl rfl rfl ?_
    refine TL.loadM 4 4 (Src.box 1 rfl) Try.isAgg60 Try.sizeOf60 (mid := [.one (.int .i64 a_5), .one (.int .i64 a_6), .arr 216 (enf u8v a_7), .arr 6 (enf u8v a_8)]) rfl rfl rfl rfl rfl rfl ?_
    refine TL.fa Try.underlying63 rfl Try.sizeOf60 rfl 224 rfl rfl rfl rfl ?_
    refine TL.loadM 4 4 (Src.box 0 rfl) Try.isAgg60 Try.sizeOf60 (mid := [.one (.int .i64 b_5), .one (.int .i64 b_6), .arr 216 (enf u8v b_7), .arr 6 (enf u8v b_8)]) rfl rfl rfl rfl rfl rfl ?_
    refine TL.call (R := G.laws_eqAlgebra.R) Try.call86 rfl rfl rfl (fun w hS => G.laws_eqAlgebra.calls w a_5 a_6 a_7 a_8 b_5 b_6 b_7 b_8) ?_
    rintro r_2 _ _ ⟨rfl, rfl⟩
    refine TL.not r_2 rfl rfl rfl ?_
    refine TL.done ?_
    refine TC.cond (b := (!r_2)) rfl (fun c3 => ?_) (fun c4 => ?_)
    · refine TC.seq ?_
      refine TC.region ?_
      refine TL.assign rfl rfl (v := .bool false) rfl ?_
      refine TL.done ?_
      exact TC.retF (Fin.body (fin1 (.inr rfl) rfl (.tmp rfl) [] rfl ⟨rfl, rfl⟩))
    · refine TC.skip ?_
      refine TC.seq ?_
      refine TC.seq ?_
      refine TC.region ?_
      refine TL.fa Try.underlying63 rfl Try.sizeOf61 rfl 448 rfl rfl rfl rfl ?_
      refine TL.loadM 8 1 (Src.box 1 rfl) Try.isAgg61 Try.sizeOf61 (mid := [.arr 36 (enf u8v a_9)]) rfl rfl rfl rfl rfl rfl ?_
      refine TL.fa Try.underlying63 rfl Try.sizeOf61 rfl 448 rfl rfl rfl rfl ?_
      refine TL.loadM 8 1 (Src.box 0 rfl) Try.isAgg61 Try.sizeOf61 (mid := [.arr 36 (enf u8v b_9)]) rfl rfl rfl rfl rfl rfl ?_
      refine TL.call (R := G.laws_eqVectorA6.R) Try.call87 rfl rfl rfl (fun w hS => G.laws_eqVectorA6.calls w a_9 b_9) ?_
      rintro r_3 _ _ ⟨rfl, rfl⟩
      refine TL.not r_3 rfl rfl rfl ?_
      refine TL.done ?_
      refine TC.cond (b := (!r_3)) rfl (fun c5 => ?_) (fun c6 => ?_)
      · refine TC.seq ?_
        refine TC.region ?_
        refine TL.assign rfl rfl (v := .bool false) rfl ?_
        refine TL.done ?_
        exact TC.retF (Fin.body (fin1 (.inr rfl) rfl (.tmp rfl) [] rfl ⟨rfl, rfl⟩))
      · refine TC.skip ?_
        refine TC.seq ?_
        refine TC.region ?_
        refine TL.assign rfl rfl (v := .bool true) rfl ?_
        refine TL.done ?_
        exact TC.retF (Fin.body (fin1 (.inr rfl) rfl (.tmp rfl) [] rfl ⟨rfl, rfl⟩))

end Go.Proofs.Ytjjfoofjipafiaa.G

/- laws.FnExactMatrixPair, as a pure function. -/
set_option linter.unusedVariables false
namespace Go.Proofs.Ytjjfoofjipafiaa.G
open Go Go.Sx Go.Proofs

def laws_FnExactMatrixPair.f (aP1 : Int) (aS1 : Int) : Option Bool := (G.spec_MatrixPair.f aP1 aS1).bind (fun p => match p with | (r_1, r_2, r_3, r_4, r_5, r_6, r_7, r_8, r_9, r_10) => (G.impl_MatrixPair.f aP1 aS1).bind (fun p => match p with | (r_11, r_12, r_13, r_14, r_15, r_16, r_17, r_18, r_19, r_20) => (G.laws_eqPair.f r_11 r_12 r_13 r_14 r_15 r_16 r_17 r_18 r_19 r_1 r_2 r_3 r_4 r_5 r_6 r_7 r_8 r_9).bind (fun r_21 => (bif ((!r_21) || (r_20 != r_10)) then some false else some true))))

def laws_FnExactMatrixPair.R (r : Bool) (v : Value) (L : List Asn) : Prop := v = .bool r ∧ L = []

set_option maxRecDepth 100000 in
set_option maxHeartbeats 4000000 in
theorem laws_FnExactMatrixPair.calls (w : World) (aP1 : Int) (aS1 : Int) :
    ∀ r, laws_FnExactMatrixPair.f aP1 aS1 = some r → Calls Try.prog 11 #[.int .i64 aP1, .int .i64 aS1] w (Ret w (laws_FnExactMatrixPair.R r)) := by

  refine calls_T (n := 30) (Γ := [(0, .int .i64 aP1), (1, .int .i64 aS1)]) (R := laws_FnExactMatrixPair.R) Try.func11 rfl rfl (Nat.le_of_ble_eq_true rfl) ⟨rfl, rfl, trivial⟩ ?_
  unfold laws_FnExactMatrixPair.f
  refine TC.seq ?_
  refine TC.region ?_
  refine TL.assign rfl rfl (v := .bool false) rfl ?_
  refine TL.done ?_
  refine TC.seq ?_
  refine TC.region ?_
  refine TL.move rfl rfl (v := .int .i64 aP1) rfl ?_
  refine TL.move rfl rfl (v := .int .i64 aS1) rfl ?_
  refine TL.call (R := G.spec_MatrixPair.R) Try.call41 rfl rfl rfl (fun w hS => G.spec_MatrixPair.calls w aP1 aS1) ?_
  rintro ⟨r_1, r_2, r_3, r_4, r_5, r_6, r_7, r_8, r_9, r_10⟩ _ _ ⟨rfl, rfl⟩
  refine TL.move rfl rfl (v := .tuple #[sval [.one (.int .i64 r_1), .one (.int .i64 r_2), .arr 216 (enf u8v r_3), .arr 6 (enf u8v r_4), .one (.int .i64 r_5), .one (.int .i64 r_6), .arr 216 (enf u8v r_7), .arr 6 (enf u8v r_8), .arr 36 (enf u8v r_9)], .int .i64 r_10]) rfl ?_
  refine TL.extract rfl rfl rfl (v := sval [.one (.int .i64 r_1), .one (.int .i64 r_2), .arr 216 (enf u8v r_3), .arr 6 (enf u8v r_4), .one (.int .i64 r_5), .one (.int .i64 r_6), .arr 216 (enf u8v r_7), .arr 6 (enf u8v r_8), .arr 36 (enf u8v r_9)]) rfl ?_
  refine TL.extract rfl rfl rfl (v := .int .i64 r_10) rfl ?_
  refine TL.alloc [.one (.int .i64 0), .one (.int .i64 0), .arr 216 (enf u8v (fun _ => (0 : UInt8))), .arr 6 (enf u8v (fun _ => (0 : UInt8))), .one (.int .i64 0), .one (.int .i64 0), .arr 216 (enf u8v (fun _ => (0 : UInt8))), .arr 6 (enf u8v (fun _ => (0 : UInt8))), .arr 36 (enf u8v (fun _ => (0 : UInt8)))] rfl rfl Try.zeroValue63 rfl fun b_1 => ?_
  refine TL.stM (news := [.one (.int .i64 r_1), .one (.int .i64 r_2), .arr 216 (enf u8v r_3), .arr 6 (enf u8v r_4), .one (.int .i64 r_5), .one (.int .i64 r_6), .arr 216 (enf u8v r_7), .arr 6 (enf u8v r_8), .arr 36 (enf u8v r_9)]) 0 0 9 rfl Try.sizeOf63 (ones_one rfl (ones_one rfl (ones_arr (fun _ => rfl) (ones_arr (fun _ => rfl) (ones_one rfl (ones_one rfl (ones_arr (fun _ => rfl) (ones_arr (fun _ => rfl) (ones_arr (fun _ => rfl) ones_nil))))))))) rfl rfl rfl rfl rfl rfl ?_
  refine TL.assign rfl rfl (v := .int .i64 r_10) rfl ?_
  refine TL.done ?_
  refine TC.seq ?_
  refine TC.region ?_
  refine TL.move rfl rfl (v := .int .i64 aP1) rfl ?_
  refine TL.move rfl rfl (v := .int .i64 aS1) rfl ?_
  refine TL.call (R := G.impl_MatrixPair.R) Try.call42 rfl rfl rfl (fun w hS => G.impl_MatrixPair.calls w aP1 aS1) ?_
  rintro ⟨r_11, r_12, r_13, r_14, r_15, r_16, r_17, r_18, r_19, r_20⟩ _ _ ⟨rfl, rfl⟩
  refine TL.move rfl rfl (v := .tuple #[sval [.one (.int .i64 r_11), .one (.int .i64 r_12), .arr 216 (enf u8v r_13), .arr 6 (enf u8v r_14), .one (.int .i64 r_15), .one (.int .i64 r_16), .arr 216 (enf u8v r_17), .arr 6 (enf u8v r_18), .arr 36 (enf u8v r_19)], .int .i64 r_20]) rfl ?_
  refine TL.extract rfl rfl rfl (v := sval [.one (.int .i64 r_11), .one (.int .i64 r_12), .arr 216 (enf u8v r_13), .arr 6 (enf u8v r_14), .one (.int .i64 r_15), .one (.int .i64 r_16), .arr 216 (enf u8v r_17), .arr 6 (enf u8v r_18), .arr 36 (enf u8v r_19)]) rfl ?_
  refine TL.extract rfl rfl rfl (v := .int .i64 r_20) rfl ?_
  refine TL.alloc [.one (.int .i64 0), .one (.int .i64 0), .arr 216 (enf u8v (fun _ => (0 : UInt8))), .arr 6 (enf u8v (fun _ => (0 : UInt8))), .one (.int .i64 0), .one (.int .i64 0), .arr 216 (enf u8v (fun _ => (0 : UInt8))), .arr 6 (enf u8v (fun _ => (0 : UInt8))), .arr 36 (enf u8v (fun _ => (0 : UInt8)))] rfl rfl Try.zeroValue63 rfl fun b_2 => ?_
  refine TL.stM (news := [.one (.int .i64 r_11), .one (.int .i64 r_12), .arr 216 (enf u8v r_13), .arr 6 (enf u8v r_14), .one (.int .i64 r_15), .one (.int .i64 r_16), .arr 216 (enf u8v r_17), .arr 6 (enf u8v r_18), .arr 36 (enf u8v r_19)]) 0 0 9 rfl Try.sizeOf63 (ones_one rfl (ones_one rfl (ones_arr (fun _ => rfl) (ones_arr (fun _ => rfl) (ones_one rfl (ones_one rfl (ones_arr (fun _ => rfl) (ones_arr (fun _ => rfl) (ones_arr (fun _ => rfl) ones_nil))))))))) rfl rfl rfl rfl rfl rfl ?_
  refine TL.assign rfl rfl (v := .int .i64 r_20) rfl ?_
  refine TL.done ?_
  refine TC.seq ?_
  refine TC.seq ?_
  refine TC.region ?_
  refine TL.loadM 0 9 (Src.box 0 rfl) Try.isAgg63 Try.sizeOf63 (mid := [.one (.int .i64 r_11), .one (.int .i64 r_12), .arr 216 (enf u8v r_13), .arr 6 (enf u8v r_14), .one (.int .i64 r_15), .one (.int .i64 r_16), .arr 216 (enf u8v r_17), .arr 6 (enf u8v r_18), .arr 36 (enf u8v r_19)]) rfl rfl rfl rfl rfl rfl ?_
  refine TL.loadM 0 9 (Src.box 1 rfl) Try.isAgg63 Try.sizeOf63 (mid := [.one (.int .i64 r_1), .one (.int .i64 r_2), .arr 216 (enf u8v r_3), .arr 6 (enf u8v r_4), .one (.int .i64 r_5), .one (.int .i64 r_6), .arr 216 (enf u8v r_7), .arr 6 (enf u8v r_8), .arr 36 (enf u8v r_9)]) rfl rfl rfl rfl rfl rfl ?_
  refine TL.call (R := G.laws_eqPair.R) Try.call43 rfl rfl rfl (fun w hS => G.laws_eqPair.calls w r_11 r_12 r_13 r_14 r_15 r_16 r_17 r_18 r_19 r_1 r_2 r_3 r_4 r_5 r_6 r_7 r_8 r_9) ?_
  rintro r_21 _ _ ⟨rfl, rfl⟩
  refine TL.not r_21 rfl rfl rfl ?_
  refine TL.move rfl rfl (v := .bool (!r_21)) rfl ?_
  refine TL.cutU 4 [(29, .bool ((!r_21) || (r_20 != r_10))), (0, .int .i64 aP1), (1, .int .i64 aS1), (4, .bool false), (10, .int .i64 aP1), (11, .int .i64 aS1), (12, .tuple #[sval [.one (.int .i64 r_1), .one (.int .i64 r_2), .arr 216 (enf u8v r_3), .arr 6 (enf u8v r_4), .one (.int .i64 r_5), .one (.int .i64 r_6), .arr 216 (enf u8v r_7), .arr 6 (enf u8v r_8), .arr 36 (enf u8v r_9)], .int .i64 r_10]), (9, .tuple #[sval [.one (.int .i64 r_1), .one (.int .i64 r_2), .arr 216 (enf u8v r_3), .arr 6 (enf u8v r_4), .one (.int .i64 r_5), .one (.int .i64 r_6), .arr 216 (enf u8v r_7), .arr 6 (enf u8v r_8), .arr 36 (enf u8v r_9)], .int .i64 r_10]), (13, sval [.one (.int .i64 r_1), .one (.int .i64 r_2), .arr 216 (enf u8v r_3), .arr 6 (enf u8v r_4), .one (.int .i64 r_5), .one (.int .i64 r_6), .arr 216 (enf u8v r_7), .arr 6 (enf u8v r_8), .arr 36 (enf u8v r_9)]), (14, .int .i64 r_10), (5, bp b_1 0), (6, .int .i64 r_10), (16, .int .i64 aP1), (17, .int .i64 aS1), (18, .tuple #[sval [.one (.int .i64 r_11), .one (.int .i64 r_12), .arr 216 (enf u8v r_13), .arr 6 (enf u8v r_14), .one (.int .i64 r_15), .one (.int .i64 r_16), .arr 216 (enf u8v r_17), .arr 6 (enf u8v r_18), .arr 36 (enf u8v r_19)], .int .i64 r_20]), (15, .tuple #[sval [.one (.int .i64 r_11), .one (.int .i64 r_12), .arr 216 (enf u8v r_13), .arr 6 (enf u8v r_14), .one (.int .i64 r_15), .one (.int .i64 r_16), .arr 216 (enf u8v r_17), .arr 6 (enf u8v r_18), .arr 36 (enf u8v r_19)], .int .i64 r_20]), (19, sval [.one (.int .i64 r_11), .one (.int .i64 r_12), .arr 216 (enf u8v r_13), .arr 6 (enf u8v r_14), .one (.int .i64 r_15), .one (.int .i64 r_16), .arr 216 (enf u8v r_17), .arr 6 (enf u8v r_18), .arr 36 (enf u8v r_19)]), (20, .int .i64 r_20), (7, bp b_2 0), (8, .int .i64 r_20), (21, sval [.one (.int .i64 r_11), .one (.int .i64 r_12), .arr 216 (enf u8v r_13), .arr 6 (enf u8v r_14), .one (.int .i64 r_15), .one (.int .i64 r_16), .arr 216 (enf u8v r_17), .arr 6 (enf u8v r_18), .arr 36 (enf u8v r_19)]), (22, sval [.one (.int .i64 r_1), .one (.int .i64 r_2), .arr 216 (enf u8v r_3), .arr 6 (enf u8v r_4), .one (.int .i64 r_5), .one (.int .i64 r_6), .arr 216 (enf u8v r_7), .arr 6 (enf u8v r_8), .arr 36 (enf u8v r_9)]), (23, .bool r_21), (24, .bool (!r_21)), (25, .bool (!r_21))] [box b_2 63 [.one (.int .i64 r_11), .one (.int .i64 r_12), .arr 216 (enf u8v r_13), .arr 6 (enf u8v r_14), .one (.int .i64 r_15), .one (.int .i64 r_16), .arr 216 (enf u8v r_17), .arr 6 (enf u8v r_18), .arr 36 (enf u8v r_19)], box b_1 63 [.one (.int .i64 r_1), .one (.int .i64 r_2), .arr 216 (enf u8v r_3), .arr 6 (enf u8v r_4), .one (.int .i64 r_5), .one (.int .i64 r_6), .arr 216 (enf u8v r_7), .arr 6 (enf u8v r_8), .arr 36 (enf u8v r_9)]] ?_ ?_
  · refine TL.cases (t := 25) (b := (!r_21)) rfl (fun c1 => ?_) (fun c2 => ?_)
    · refine TL.skip rfl rfl (by decide) ?_
      refine TL.skip rfl rfl (by decide) ?_
      refine TL.skip rfl rfl (by decide) ?_
      refine TL.pick rfl rfl (b := true) rfl (r := .bool true) rfl ?_
      refine TL.done ?_
      exact TC.nrm () () ⟨(by rw [c1]; rfl), rfl, rfl, rfl, rfl, rfl, rfl, rfl, rfl, rfl, rfl, rfl, rfl, rfl, rfl, rfl, rfl, rfl, rfl, rfl, rfl, rfl, rfl, rfl, (by rw [c1]; rfl), trivial⟩ [0, 0] (by kernel_rfl)
    · refine TL.move rfl rfl (v := .int .i64 r_20) rfl ?_
      refine TL.move rfl rfl (v := .int .i64 r_10) rfl ?_
      refine TL.bin .i64 r_20 r_10 rfl rfl rfl rfl (v := .bool (r_20 != r_10)) rfl ?_
      refine TL.pick rfl rfl (b := false) rfl (r := .bool (r_20 != r_10)) rfl ?_
      refine TL.done ?_
      exact TC.nrm () () ⟨(by rw [c2]; rfl), rfl, rfl, rfl, rfl, rfl, rfl, rfl, rfl, rfl, rfl, rfl, rfl, rfl, rfl, rfl, rfl, rfl, rfl, rfl, rfl, rfl, rfl, rfl, (by rw [c2]; rfl), trivial⟩ [0, 0] (by kernel_rfl)
  · refine TL.done ?_
    refine TC.cond (b := ((!r_21) || (r_20 != r_10))) rfl (fun c3 => ?_) (fun c4 => ?_)
    · refine TC.seq ?_
      refine TC.region ?_
      refine TL.assign rfl rfl (v := .bool false) rfl ?_
      refine TL.done ?_
      exact TC.retF (Fin.body (fin1 (.inr rfl) rfl (.tmp rfl) [] rfl ⟨rfl, rfl⟩))
    · refine TC.skip ?_
      refine TC.seq ?_
      refine TC.region ?_
      refine TL.assign rfl rfl (v := .bool true) rfl ?_
      refine TL.done ?_
      exact TC.retF (Fin.body (fin1 (.inr rfl) rfl (.tmp rfl) [] rfl ⟨rfl, rfl⟩))

end Go.Proofs.Ytjjfoofjipafiaa.G
