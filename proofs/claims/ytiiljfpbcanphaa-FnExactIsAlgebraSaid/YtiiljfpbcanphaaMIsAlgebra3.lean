/- Functions of the program, as pure functions. -/
import Derived.Test.YtiiljfpbcanphaaMIsAlgebra2
import Derived.Test.YtiiljfpbcanphaaProg
/- laws.toVector, as a pure function. -/
set_option linter.unusedVariables false
namespace Go.Proofs.Ytiiljfpbcanphaa.G
open Go Go.Sx Go.Proofs

def laws_toVector.b0 (a_1 : Nat → UInt8) : (Nat → UInt8) × Int → Option (LB ((Nat → UInt8) × Int)) := fun p => match p with | (out1, i1) => (bif (decide (i1 < 6)) then chk i1 6 (some (.next ((upd out1 i1.toNat (a_1 i1.toNat)), (w64 (i1 + 1))))) else some (.brk (out1, i1)))

def laws_toVector.f (a_1 : Nat → UInt8) : Option (Nat → UInt8) := (loop1 (laws_toVector.b0 a_1) ((fun _ => (0 : UInt8)), 0)).bind (fun p => match p with | (out1, i1) => some out1)

def laws_toVector.R (r : Nat → UInt8) (v : Value) (L : List Asn) : Prop := v = sval [.arr 6 (enf u8v r)] ∧ L = []

set_option maxRecDepth 100000 in
set_option maxHeartbeats 4000000 in
theorem laws_toVector.calls (w : World) (a_1 : Nat → UInt8) :
    ∀ r, laws_toVector.f a_1 = some r → Calls Try.prog 111 #[sval [.arr 6 (enf u8v a_1)]] w (Ret w (laws_toVector.R r)) := by

  refine calls_T (n := 15) (Γ := [(0, sval [.arr 6 (enf u8v a_1)])]) (R := laws_toVector.R) Try.func111 rfl rfl (Nat.le_of_ble_eq_true rfl) ⟨rfl, trivial⟩ ?_
  unfold laws_toVector.f
  refine TC.seq ?_
  refine TC.region ?_
  refine TL.box [.arr 6 (enf u8v a_1)] rfl rfl rfl rfl fun b_1 => ?_
  refine TL.alloc [.arr 6 (enf u8v (fun _ => (0 : UInt8)))] rfl rfl Try.zeroValue41 rfl fun b_2 => ?_
  refine TL.done ?_
  refine TC.seq ?_
  refine TC.region ?_
  refine TL.alloc [.arr 6 (enf u8v (fun _ => (0 : UInt8)))] rfl rfl Try.zeroValue41 rfl fun b_3 => ?_
  refine TL.done ?_
  refine TC.seq ?_
  refine TC.seq ?_
  refine TC.region ?_
  refine TL.assign rfl rfl (v := .int .i64 0) rfl ?_
  refine TL.done ?_
  refine TC.loop1 (σ := (Nat → UInt8) × Int) (γ := Unit) (Γ' := (fun p q => match p, q with | (out1, i1), _ => [(1, bp b_1 0), (2, bp b_2 0), (3, bp b_3 0), (4, .int .i64 i1)])) (L' := (fun p q => match p, q with | (out1, i1), _ => [box b_1 38 [.arr 6 (enf u8v a_1)], box b_2 41 [.arr 6 (enf u8v (fun _ => (0 : UInt8)))], box b_3 41 [.arr 6 (enf u8v out1)]])) (Γb := (fun p q => match p, q with | (out1, i1), _ => [(1, bp b_1 0), (2, bp b_2 0), (3, bp b_3 0), (4, .int .i64 i1)])) (Lb := (fun p q => match p, q with | (out1, i1), _ => [box b_1 38 [.arr 6 (enf u8v a_1)], box b_2 41 [.arr 6 (enf u8v (fun _ => (0 : UInt8)))], box b_3 41 [.arr 6 (enf u8v out1)]])) (((fun _ => (0 : UInt8)), 0)) (()) ⟨rfl, rfl, rfl, rfl, trivial⟩ [2, 1, 0] rfl ?_ ?_
  · rintro ⟨out1, i1⟩ _
    refine TC.seq ?_
    refine TC.seq ?_
    refine TC.region ?_
    refine TL.move rfl rfl (v := .int .i64 i1) rfl ?_
    refine TL.bin .i64 i1 6 rfl rfl rfl rfl (v := .bool (decide (i1 < 6))) rfl ?_
    refine TL.done ?_
    refine TC.cond (b := (decide (i1 < 6))) rfl (fun c1 => ?_) (fun c2 => ?_)
    · refine TC.skip ?_
      refine TC.seq ?_
      refine TC.block (NoEx.loop1 rfl) ?_
      refine TC.region ?_
      refine TL.move rfl rfl (v := .int .i64 i1) rfl ?_
      refine TL.move rfl rfl (v := .int .i64 i1) rfl ?_
      refine TL.chk fun h1 => ?_
      refine TL.ixa i1 i1.toNat h1 Try.underlying38 Try.sizeOf5 rfl rfl rfl rfl (by omega) ?_
      refine TL.loadA i1.toNat 0 (Src.box 0 rfl) Try.isAgg5 rfl (by omega) (v := u8v (a_1 i1.toNat)) rfl (st := 0) rfl (by omega) rfl rfl rfl ?_
      refine TL.ixa i1 i1.toNat h1 Try.underlying41 Try.sizeOf5 rfl rfl rfl rfl (by omega) ?_
      refine TL.stA (e := u8v) (z := (a_1 i1.toNat)) 2 0 i1.toNat rfl Try.sizeOf5 rfl (by omega) (s := 0) rfl (by omega) rfl rfl rfl rfl rfl ?_
      refine TL.done ?_
      refine TC.region ?_
      refine TL.move rfl rfl (v := .int .i64 i1) rfl ?_
      refine TL.bin .i64 i1 1 rfl rfl rfl rfl (v := .int .i64 (w64 (i1 + 1))) rfl ?_
      refine TL.assign rfl rfl (v := .int .i64 (w64 (i1 + 1))) rfl ?_
      refine TL.done ?_
      exact TC.next1 (((upd out1 i1.toNat (a_1 i1.toNat)), (w64 (i1 + 1)))) (()) ⟨rfl, rfl, rfl, rfl, trivial⟩ [0, 0, 0] rfl
    · exact TC.brk1 ((out1, i1)) (()) ⟨rfl, rfl, rfl, rfl, trivial⟩ [0, 0, 0] rfl
  · rintro ⟨out1, i1⟩ _
    refine TC.seq ?_
    refine TC.region ?_
    refine TL.loadM 0 1 (Src.box 2 rfl) Try.isAgg41 Try.sizeOf41 (mid := [.arr 6 (enf u8v out1)]) rfl rfl rfl rfl rfl rfl ?_
    refine TL.stM (news := [.arr 6 (enf u8v out1)]) 1 0 1 rfl Try.sizeOf41 (ones_arr (fun _ => rfl) ones_nil) rfl rfl rfl rfl rfl rfl ?_
    refine TL.done ?_
    exact TC.retF (Fin.body (fin1 (.inr rfl) rfl (.cellN rfl (Src.box 1 rfl) Try.isAgg41 Try.sizeOf41 rfl) [] rfl ⟨rfl, rfl⟩))

end Go.Proofs.Ytiiljfpbcanphaa.G

/- laws.toAlgebra, as a pure function. -/
set_option linter.unusedVariables false
namespace Go.Proofs.Ytiiljfpbcanphaa.G
open Go Go.Sx Go.Proofs

def laws_toAlgebra.f (a_1 : Int) (a_2 : Int) (a_3 : Nat → UInt8) (a_4 : Nat → UInt8) : Option (Int × Int × (Nat → UInt8) × (Nat → UInt8)) := (G.laws_toByteA6A6A6.f a_3).bind (fun r_1 => (G.laws_toVector.f a_4).bind (fun r_2 => some (a_1, a_2, r_1, r_2)))

def laws_toAlgebra.R (r : Int × Int × (Nat → UInt8) × (Nat → UInt8)) (v : Value) (L : List Asn) : Prop := v = sval [.one (.int .i64 r.1), .one (.int .i64 r.2.1), .arr 216 (enf u8v r.2.2.1), .arr 6 (enf u8v r.2.2.2)] ∧ L = []

set_option maxRecDepth 100000 in
set_option maxHeartbeats 4000000 in
theorem laws_toAlgebra.calls (w : World) (a_1 : Int) (a_2 : Int) (a_3 : Nat → UInt8) (a_4 : Nat → UInt8) :
    ∀ r, laws_toAlgebra.f a_1 a_2 a_3 a_4 = some r → Calls Try.prog 37 #[sval [.one (.int .i64 a_1), .one (.int .i64 a_2), .arr 216 (enf u8v a_3), .arr 6 (enf u8v a_4)]] w (Ret w (laws_toAlgebra.R r)) := by

  refine calls_T (n := 19) (Γ := [(0, sval [.one (.int .i64 a_1), .one (.int .i64 a_2), .arr 216 (enf u8v a_3), .arr 6 (enf u8v a_4)])]) (R := laws_toAlgebra.R) Try.func37 rfl rfl (Nat.le_of_ble_eq_true rfl) ⟨rfl, trivial⟩ ?_
  unfold laws_toAlgebra.f
  refine TC.seq ?_
  refine TC.region ?_
  refine TL.box [.one (.int .i64 a_1), .one (.int .i64 a_2), .arr 216 (enf u8v a_3), .arr 6 (enf u8v a_4)] rfl rfl rfl rfl fun b_1 => ?_
  refine TL.alloc [.one (.int .i64 0), .one (.int .i64 0), .arr 216 (enf u8v (fun _ => (0 : UInt8))), .arr 6 (enf u8v (fun _ => (0 : UInt8)))] rfl rfl Try.zeroValue43 rfl fun b_2 => ?_
  refine TL.done ?_
  refine TC.seq ?_
  refine TC.region ?_
  refine TL.alloc [.one (.int .i64 0), .one (.int .i64 0), .arr 216 (enf u8v (fun _ => (0 : UInt8))), .arr 6 (enf u8v (fun _ => (0 : UInt8)))] rfl rfl Try.zeroValue43 rfl fun b_3 => ?_
  refine TL.done ?_
  refine TC.seq ?_
  refine TC.region ?_
  refine TL.fa Try.underlying53 rfl Try.sizeOf2 rfl 0 rfl rfl rfl rfl ?_
  refine TL.load1 0 (Src.box 2 rfl) Try.isAgg2 rfl rfl rfl rfl rfl ?_
  refine TL.fa Try.underlying43 rfl Try.sizeOf2 rfl 0 rfl rfl rfl rfl ?_
  refine TL.st1 0 0 rfl Try.sizeOf2 rfl rfl rfl rfl rfl rfl rfl ?_
  refine TL.done ?_
  refine TC.seq ?_
  refine TC.region ?_
  refine TL.fa Try.underlying53 rfl Try.sizeOf2 rfl 1 rfl rfl rfl rfl ?_
  refine TL.load1 1 (Src.box 2 rfl) Try.isAgg2 rfl rfl rfl rfl rfl ?_
  refine TL.fa Try.underlying43 rfl Try.sizeOf2 rfl 1 rfl rfl rfl rfl ?_
  refine TL.st1 0 1 rfl Try.sizeOf2 rfl rfl rfl rfl rfl rfl rfl ?_
  refine TL.done ?_
  refine TC.seq ?_
  refine TC.region ?_
  refine TL.fa Try.underlying53 rfl Try.sizeOf40 rfl 2 rfl rfl rfl rfl ?_
  refine TL.loadM 2 1 (Src.box 2 rfl) Try.isAgg40 Try.sizeOf40 (mid := [.arr 216 (enf u8v a_3)]) rfl rfl rfl rfl rfl rfl ?_
  refine TL.call (R := G.laws_toByteA6A6A6.R) Try.call110 rfl rfl rfl (fun w hS => G.laws_toByteA6A6A6.calls w a_3) ?_
  rintro r_1 _ _ ⟨rfl, rfl⟩
  refine TL.fa Try.underlying43 rfl Try.sizeOf40 rfl 2 rfl rfl rfl rfl ?_
  refine TL.stM (news := [.arr 216 (enf u8v r_1)]) 0 2 1 rfl Try.sizeOf40 (ones_arr (fun _ => rfl) ones_nil) rfl rfl rfl rfl rfl rfl ?_
  refine TL.done ?_
  refine TC.seq ?_
  refine TC.region ?_
  refine TL.fa Try.underlying53 rfl Try.sizeOf38 rfl 218 rfl rfl rfl rfl ?_
  refine TL.loadM 3 1 (Src.box 2 rfl) Try.isAgg38 Try.sizeOf38 (mid := [.arr 6 (enf u8v a_4)]) rfl rfl rfl rfl rfl rfl ?_
  refine TL.call (R := G.laws_toVector.R) Try.call111 rfl rfl rfl (fun w hS => G.laws_toVector.calls w a_4) ?_
  rintro r_2 _ _ ⟨rfl, rfl⟩
  refine TL.fa Try.underlying43 rfl Try.sizeOf41 rfl 218 rfl rfl rfl rfl ?_
  refine TL.stM (news := [.arr 6 (enf u8v r_2)]) 0 3 1 rfl Try.sizeOf41 (ones_arr (fun _ => rfl) ones_nil) rfl rfl rfl rfl rfl rfl ?_
  refine TL.done ?_
  refine TC.seq ?_
  refine TC.region ?_
  refine TL.loadM 0 4 (Src.box 0 rfl) Try.isAgg43 Try.sizeOf43 (mid := [.one (.int .i64 a_1), .one (.int .i64 a_2), .arr 216 (enf u8v r_1), .arr 6 (enf u8v r_2)]) rfl rfl rfl rfl rfl rfl ?_
  refine TL.stM (news := [.one (.int .i64 a_1), .one (.int .i64 a_2), .arr 216 (enf u8v r_1), .arr 6 (enf u8v r_2)]) 1 0 4 rfl Try.sizeOf43 (ones_one rfl (ones_one rfl (ones_arr (fun _ => rfl) (ones_arr (fun _ => rfl) ones_nil)))) rfl rfl rfl rfl rfl rfl ?_
  refine TL.done ?_
  exact TC.retF (Fin.body (fin1 (.inr rfl) rfl (.cellN rfl (Src.box 1 rfl) Try.isAgg43 Try.sizeOf43 rfl) [] rfl ⟨rfl, rfl⟩))

end Go.Proofs.Ytiiljfpbcanphaa.G

/- impl.in, as a pure function. -/
set_option linter.unusedVariables false
namespace Go.Proofs.Ytiiljfpbcanphaa.G
open Go Go.Sx Go.Proofs

def impl_in.f (n_1 : Int) (low1 : Int) (high1 : Int) : Option Bool := some ((decide (n_1 ≥ low1)) && (decide (n_1 ≤ high1)))

def impl_in.R (r : Bool) (v : Value) (L : List Asn) : Prop := v = .bool r ∧ L = []

set_option maxRecDepth 100000 in
set_option maxHeartbeats 4000000 in
theorem impl_in.calls (w : World) (n_1 : Int) (low1 : Int) (high1 : Int) :
    ∀ r, impl_in.f n_1 low1 high1 = some r → Calls Try.prog 72 #[.int .i64 n_1, .int .i64 low1, .int .i64 high1] w (Ret w (impl_in.R r)) := by

  refine calls_T (n := 15) (Γ := [(0, .int .i64 n_1), (1, .int .i64 low1), (2, .int .i64 high1)]) (R := impl_in.R) Try.func72 rfl rfl (Nat.le_of_ble_eq_true rfl) ⟨rfl, rfl, rfl, trivial⟩ ?_
  unfold impl_in.f
  refine TC.seq ?_
  refine TC.region ?_
  refine TL.assign rfl rfl (v := .bool false) rfl ?_
  refine TL.done ?_
  refine TC.seq ?_
  refine TC.region ?_
  refine TL.move rfl rfl (v := .int .i64 n_1) rfl ?_
  refine TL.move rfl rfl (v := .int .i64 low1) rfl ?_
  refine TL.bin .i64 n_1 low1 rfl rfl rfl rfl (v := .bool (decide (n_1 ≥ low1))) rfl ?_
  refine TL.move rfl rfl (v := .bool (decide (n_1 ≥ low1))) rfl ?_
  refine TL.cutU 4 [(14, .bool ((decide (n_1 ≥ low1)) && (decide (n_1 ≤ high1)))), (0, .int .i64 n_1), (1, .int .i64 low1), (2, .int .i64 high1), (6, .bool false), (7, .int .i64 n_1), (8, .int .i64 low1), (9, .bool (decide (n_1 ≥ low1))), (10, .bool (decide (n_1 ≥ low1)))] [] ?_ ?_
  · refine TL.cases (t := 10) (b := (decide (n_1 ≥ low1))) rfl (fun c1 => ?_) (fun c2 => ?_)
    · refine TL.move rfl rfl (v := .int .i64 n_1) rfl ?_
      refine TL.move rfl rfl (v := .int .i64 high1) rfl ?_
      refine TL.bin .i64 n_1 high1 rfl rfl rfl rfl (v := .bool (decide (n_1 ≤ high1))) rfl ?_
      refine TL.pick rfl rfl (b := true) rfl (r := .bool (decide (n_1 ≤ high1))) rfl ?_
      refine TL.done ?_
      exact TC.nrm () () ⟨(by rw [c1]; rfl), rfl, rfl, rfl, rfl, rfl, rfl, rfl, (by rw [c1]; rfl), trivial⟩ [] (by kernel_rfl)
    · refine TL.skip rfl rfl (by decide) ?_
      refine TL.skip rfl rfl (by decide) ?_
      refine TL.skip rfl rfl (by decide) ?_
      refine TL.pick rfl rfl (b := false) rfl (r := .bool false) rfl ?_
      refine TL.done ?_
      exact TC.nrm () () ⟨(by rw [c2]; rfl), rfl, rfl, rfl, rfl, rfl, rfl, rfl, (by rw [c2]; rfl), trivial⟩ [] (by kernel_rfl)
  · refine TL.assign rfl rfl (v := .bool ((decide (n_1 ≥ low1)) && (decide (n_1 ≤ high1)))) rfl ?_
    refine TL.done ?_
    exact TC.retF (Fin.body (fin1 (.inr rfl) rfl (.tmp rfl) [] rfl ⟨rfl, rfl⟩))

end Go.Proofs.Ytiiljfpbcanphaa.G

/- slices.Index[[]int64,int64], as a pure function. -/
set_option linter.unusedVariables false
namespace Go.Proofs.Ytiiljfpbcanphaa.G
open Go Go.Sx Go.Proofs

def slices_Index_int64_int64.b0 (s1 : List Int) (v_1 : Int) : Int → Option (LR Int Int) := fun x1 => (bif (decide (x1 < (s1.length : Int))) then chk x1 s1.length ((bif (v_1 == (gt s1 x1)) then some (.ret (x1)) else some (.next (w64 (x1 + 1))))) else some (.brk x1))

def slices_Index_int64_int64.f (s1 : List Int) (v_1 : Int) : Option Int := (loop (slices_Index_int64_int64.b0 s1 v_1) 0).bind (ln (fun x1 => some (-1)))

def slices_Index_int64_int64.R (r : Int) (v : Value) (L : List Asn) : Prop := v = .int .i64 r ∧ L = []

set_option maxRecDepth 100000 in
set_option maxHeartbeats 4000000 in
theorem slices_Index_int64_int64.calls (w : World) (s2 : SV) (s1 : List Int) (v_1 : Int) (h1 : Reads Ei (hp w) s2 s1) :
    ∀ r, slices_Index_int64_int64.f s1 v_1 = some r → Calls Try.prog 151 #[SV.v s2, .int .i64 v_1] w (Ret w (slices_Index_int64_int64.R r)) := by

  refine calls_T (n := 19) (Γ := [(0, SV.v s2), (1, .int .i64 v_1)]) (R := slices_Index_int64_int64.R) Try.func151 rfl rfl (Nat.le_of_ble_eq_true rfl) ⟨rfl, rfl, trivial⟩ ?_
  unfold slices_Index_int64_int64.f
  refine TC.seq ?_
  refine TC.region ?_
  refine TL.assign rfl rfl (v := .int .i64 0) rfl ?_
  refine TL.done ?_
  refine TC.seq ?_
  refine TC.seq ?_
  refine TC.region ?_
  refine TL.move rfl rfl (v := SV.v s2) rfl ?_
  refine TL.len (Rd.old h1) Try.underlying22 rfl rfl rfl ?_
  refine TL.move rfl rfl (v := .int .i64 0) rfl ?_
  refine TL.done ?_
  refine TC.loopK (σ := Int) (γ := Unit) (Γ' := (fun x1 _ => [(0, SV.v s2), (1, .int .i64 v_1), (7, .int .i64 (s1.length : Int)), (8, .int .i64 x1)])) (L' := (fun x1 _ => [])) (Γb := (fun x1 _ => [(0, SV.v s2), (1, .int .i64 v_1), (7, .int .i64 (s1.length : Int)), (8, .int .i64 x1)])) (Lb := (fun x1 _ => [])) (0) (()) ⟨rfl, rfl, rfl, rfl, trivial⟩ [] rfl ?_ ?_
  · rintro x1 _
    refine TC.seq ?_
    refine TC.region ?_
    refine TL.bin .i64 x1 (s1.length : Int) rfl rfl rfl rfl (v := .bool (decide (x1 < (s1.length : Int)))) rfl ?_
    refine TL.done ?_
    refine TC.seq ?_
    refine TC.cond (b := (decide (x1 < (s1.length : Int)))) rfl (fun c1 => ?_) (fun c2 => ?_)
    · refine TC.skip ?_
      refine TC.seq ?_
      refine TC.block (NoEx.loop rfl NoEx.body) ?_
      refine TC.seq ?_
      refine TC.region ?_
      refine TL.move rfl rfl (v := .int .i64 x1) rfl ?_
      refine TL.assign rfl rfl (v := .int .i64 x1) rfl ?_
      refine TL.done ?_
      refine TC.seq ?_
      refine TC.region ?_
      refine TL.move rfl rfl (v := .int .i64 v_1) rfl ?_
      refine TL.move rfl rfl (v := SV.v s2) rfl ?_
      refine TL.move rfl rfl (v := .int .i64 x1) rfl ?_
      refine TL.chk fun h2 => ?_
      refine TL.ixs x1 x1.toNat (Rd.old h1) h2 Try.underlying22 Try.sizeOf2 rfl rfl rfl rfl (by omega) ?_
      refine TL.loadE (Rd.old h1) Try.isAgg2 x1.toNat 0 (gt_spec h2) (v := .int .i64 (gt s1 x1)) rfl (by simp only [show Ei.sz = 1 from rfl] <;> omega) rfl rfl rfl ?_
      refine TL.bin .i64 v_1 (gt s1 x1) rfl rfl rfl rfl (v := .bool (v_1 == (gt s1 x1))) rfl ?_
      refine TL.done ?_
      refine TC.cond (b := (v_1 == (gt s1 x1))) rfl (fun c3 => ?_) (fun c4 => ?_)
      · refine TC.seq ?_
        refine TC.region ?_
        refine TL.move rfl rfl (v := .int .i64 x1) rfl ?_
        refine TL.assign rfl rfl (v := .int .i64 x1) rfl ?_
        refine TL.done ?_
        exact TC.retF (Fin.loop Far.ret (Fin.body (fin1 (.inr rfl) rfl (.tmp rfl) [] rfl ⟨rfl, rfl⟩)))
      · refine TC.skip ?_
        refine TC.region ?_
        refine TL.bin .i64 x1 1 rfl rfl rfl rfl (v := .int .i64 (w64 (x1 + 1))) rfl ?_
        refine TL.move rfl rfl (v := .int .i64 (w64 (x1 + 1))) rfl ?_
        refine TL.done ?_
        exact TC.next ((w64 (x1 + 1))) (()) ⟨rfl, rfl, rfl, rfl, trivial⟩ [] rfl
    · exact TC.brk (x1) (()) ⟨rfl, rfl, rfl, rfl, trivial⟩ [] rfl
  · rintro x1 _
    refine TC.seq ?_
    refine TC.region ?_
    refine TL.assign rfl rfl (v := .int .i64 (-1)) rfl ?_
    refine TL.done ?_
    exact TC.retF (Fin.body (fin1 (.inr rfl) rfl (.tmp rfl) [] rfl ⟨rfl, rfl⟩))

end Go.Proofs.Ytiiljfpbcanphaa.G

/- slices.Contains[[]int64,int64], as a pure function. -/
set_option linter.unusedVariables false
namespace Go.Proofs.Ytiiljfpbcanphaa.G
open Go Go.Sx Go.Proofs

def slices_Contains_int64_int64.f (s1 : List Int) (v_1 : Int) : Option Bool := (G.slices_Index_int64_int64.f s1 v_1).bind (fun r_1 => some (decide (r_1 ≥ 0)))

def slices_Contains_int64_int64.R (r : Bool) (v : Value) (L : List Asn) : Prop := v = .bool r ∧ L = []

set_option maxRecDepth 100000 in
set_option maxHeartbeats 4000000 in
theorem slices_Contains_int64_int64.calls (w : World) (s2 : SV) (s1 : List Int) (v_1 : Int) (h1 : Reads Ei (hp w) s2 s1) :
    ∀ r, slices_Contains_int64_int64.f s1 v_1 = some r → Calls Try.prog 105 #[SV.v s2, .int .i64 v_1] w (Ret w (slices_Contains_int64_int64.R r)) := by

  refine calls_T (n := 9) (Γ := [(0, SV.v s2), (1, .int .i64 v_1)]) (R := slices_Contains_int64_int64.R) Try.func105 rfl rfl (Nat.le_of_ble_eq_true rfl) ⟨rfl, rfl, trivial⟩ ?_
  unfold slices_Contains_int64_int64.f
  refine TC.seq ?_
  refine TC.region ?_
  refine TL.assign rfl rfl (v := .bool false) rfl ?_
  refine TL.done ?_
  refine TC.seq ?_
  refine TC.region ?_
  refine TL.move rfl rfl (v := SV.v s2) rfl ?_
  refine TL.move rfl rfl (v := .int .i64 v_1) rfl ?_
  refine TL.call (R := G.slices_Index_int64_int64.R) Try.call151 rfl rfl rfl (fun w hS => G.slices_Index_int64_int64.calls w s2 s1 v_1 ((Rd.old h1) w hS)) ?_
  rintro r_1 _ _ ⟨rfl, rfl⟩
  refine TL.bin .i64 r_1 0 rfl rfl rfl rfl (v := .bool (decide (r_1 ≥ 0))) rfl ?_
  refine TL.assign rfl rfl (v := .bool (decide (r_1 ≥ 0))) rfl ?_
  refine TL.done ?_
  exact TC.retF (Fin.body (fin1 (.inr rfl) rfl (.tmp rfl) [] rfl ⟨rfl, rfl⟩))

end Go.Proofs.Ytiiljfpbcanphaa.G

/- impl.isPrime, as a pure function. -/
set_option linter.unusedVariables false
namespace Go.Proofs.Ytiiljfpbcanphaa.G
open Go Go.Sx Go.Proofs

def impl_isPrime.f (p1 : Int) : Option Bool := (G.slices_Contains_int64_int64.f ([2, 3, 5, 7, 11, 13] : List Int) p1).bind (fun r_1 => some r_1)

def impl_isPrime.R (r : Bool) (v : Value) (L : List Asn) : Prop := v = .bool r ∧ L = []

set_option maxRecDepth 100000 in
set_option maxHeartbeats 4000000 in
theorem impl_isPrime.calls (w : World) (p1 : Int) :
    ∀ r, impl_isPrime.f p1 = some r → Calls Try.prog 85 #[.int .i64 p1] w (Ret w (impl_isPrime.R r)) := by

  refine calls_T (n := 6) (Γ := [(0, .int .i64 p1)]) (R := impl_isPrime.R) Try.func85 rfl rfl (Nat.le_of_ble_eq_true rfl) ⟨rfl, trivial⟩ ?_
  unfold impl_isPrime.f
  refine TC.seq ?_
  refine TC.region ?_
  refine TL.assign rfl rfl (v := .bool false) rfl ?_
  refine TL.done ?_
  refine TC.seq ?_
  refine TC.region ?_
  refine TL.blit Ei ([2, 3, 5, 7, 11, 13] : List Int) Try.underlying22 Try.sizeOf2 Try.zeroValue2 rfl rfl rfl [(0, .int .i64 2), (1, .int .i64 3), (2, .int .i64 5), (3, .int .i64 7), (4, .int .i64 11), (5, .int .i64 13)] rfl ⟨rfl, rfl, rfl, rfl, rfl, rfl, rfl, rfl, rfl, rfl, rfl, rfl, trivial⟩ rfl rfl fun s1 => ?_
  refine TL.move rfl rfl (v := .int .i64 p1) rfl ?_
  refine TL.call (R := G.slices_Contains_int64_int64.R) Try.call105 rfl rfl rfl (fun w hS => G.slices_Contains_int64_int64.calls w s1 ([2, 3, 5, 7, 11, 13] : List Int) p1 ((Rd.row 0 rfl) w hS)) ?_
  rintro r_1 _ _ ⟨rfl, rfl⟩
  refine TL.assign rfl rfl (v := .bool r_1) rfl ?_
  refine TL.done ?_
  exact TC.retF (Fin.body (fin1 (.inr rfl) rfl (.tmp rfl) [] rfl ⟨rfl, rfl⟩))

end Go.Proofs.Ytiiljfpbcanphaa.G

/- impl.isVector, as a pure function. -/
set_option linter.unusedVariables false
namespace Go.Proofs.Ytiiljfpbcanphaa.G
open Go Go.Sx Go.Proofs

def impl_isVector.b0 (v_1 : Nat → UInt8) (p1 : Int) (n_1 : Int) : Int → Option (LR Int Bool) := fun x1 => (bif (decide (x1 < 6)) then chk x1 6 ((bif ((decide (((v_1 x1.toNat).toNat : Int) ≥ p1)) || ((decide (x1 ≥ n_1)) && (((v_1 x1.toNat).toNat : Int) != ((0 : UInt8).toNat : Int)))) then some (.ret (false)) else some (.next (w64 (x1 + 1))))) else some (.brk x1))

def impl_isVector.f (v_1 : Nat → UInt8) (n_1 : Int) (p1 : Int) : Option Bool := (loop (impl_isVector.b0 v_1 p1 n_1) 0).bind (ln (fun x1 => some true))

def impl_isVector.R (r : Bool) (v : Value) (L : List Asn) : Prop := v = .bool r ∧ L = []

set_option maxRecDepth 100000 in
set_option maxHeartbeats 4000000 in
theorem impl_isVector.calls (w : World) (v_1 : Nat → UInt8) (n_1 : Int) (p1 : Int) :
    ∀ r, impl_isVector.f v_1 n_1 p1 = some r → Calls Try.prog 158 #[sval [.arr 6 (enf u8v v_1)], .int .i64 n_1, .int .i64 p1] w (Ret w (impl_isVector.R r)) := by

  refine calls_T (n := 28) (Γ := [(0, sval [.arr 6 (enf u8v v_1)]), (1, .int .i64 n_1), (2, .int .i64 p1)]) (R := impl_isVector.R) Try.func158 rfl rfl (Nat.le_of_ble_eq_true rfl) ⟨rfl, rfl, rfl, trivial⟩ ?_
  unfold impl_isVector.f
  refine TC.seq ?_
  refine TC.region ?_
  refine TL.box [.arr 6 (enf u8v v_1)] rfl rfl rfl rfl fun b_1 => ?_
  refine TL.assign rfl rfl (v := .bool false) rfl ?_
  refine TL.done ?_
  refine TC.seq ?_
  refine TC.seq ?_
  refine TC.region ?_
  refine TL.loadM 0 1 (Src.box 0 rfl) Try.isAgg41 Try.sizeOf41 (mid := [.arr 6 (enf u8v v_1)]) rfl rfl rfl rfl rfl rfl ?_
  refine TL.move rfl rfl (v := .int .i64 0) rfl ?_
  refine TL.done ?_
  refine TC.loopK (σ := Int) (γ := Unit) (Γ' := (fun x1 _ => [(1, .int .i64 n_1), (2, .int .i64 p1), (9, sval [.arr 6 (enf u8v v_1)]), (10, .int .i64 x1)])) (L' := (fun x1 _ => [])) (Γb := (fun x1 _ => [(1, .int .i64 n_1), (2, .int .i64 p1), (9, sval [.arr 6 (enf u8v v_1)]), (10, .int .i64 x1)])) (Lb := (fun x1 _ => [])) (0) (()) ⟨rfl, rfl, rfl, rfl, trivial⟩ [] rfl ?_ ?_
  · rintro x1 _
    refine TC.seq ?_
    refine TC.region ?_
    refine TL.bin .i64 x1 6 rfl rfl rfl rfl (v := .bool (decide (x1 < 6))) rfl ?_
    refine TL.done ?_
    refine TC.seq ?_
    refine TC.cond (b := (decide (x1 < 6))) rfl (fun c1 => ?_) (fun c2 => ?_)
    · refine TC.skip ?_
      refine TC.seq ?_
      refine TC.block (NoEx.loop rfl NoEx.body) ?_
      refine TC.seq ?_
      refine TC.region ?_
      refine TL.move rfl rfl (v := .int .i64 x1) rfl ?_
      refine TL.chk fun h1 => ?_
      refine TL.ixv1 x1 h1 Try.underlying41 Try.isAgg5 Try.sizeOf5 (v := u8v (v_1 x1.toNat)) rfl rfl rfl rfl rfl ?_
      refine TL.assign rfl rfl (v := .int .i64 x1) rfl ?_
      refine TL.assign rfl rfl (v := u8v (v_1 x1.toNat)) rfl ?_
      refine TL.done ?_
      refine TC.seq ?_
      refine TC.region ?_
      refine TL.move rfl rfl (v := u8v (v_1 x1.toNat)) rfl ?_
      refine TL.conv .u8 .i64 ((v_1 x1.toNat).toNat : Int) _ rfl rfl rfl Try.underlying5 Try.underlying2 (v := .int .i64 ((v_1 x1.toNat).toNat : Int)) (conv_u8_i64 _) ?_
      refine TL.move rfl rfl (v := .int .i64 p1) rfl ?_
      refine TL.bin .i64 ((v_1 x1.toNat).toNat : Int) p1 rfl rfl rfl rfl (v := .bool (decide (((v_1 x1.toNat).toNat : Int) ≥ p1))) rfl ?_
      refine TL.move rfl rfl (v := .bool (decide (((v_1 x1.toNat).toNat : Int) ≥ p1))) rfl ?_
      refine TL.cutU 8 [(26, .bool ((decide (((v_1 x1.toNat).toNat : Int) ≥ p1)) || ((decide (x1 ≥ n_1)) && (((v_1 x1.toNat).toNat : Int) != ((0 : UInt8).toNat : Int))))), (1, .int .i64 n_1), (2, .int .i64 p1), (9, sval [.arr 6 (enf u8v v_1)]), (10, .int .i64 x1), (11, .bool (decide (x1 < 6))), (12, .int .i64 x1), (13, u8v (v_1 x1.toNat)), (7, .int .i64 x1), (8, u8v (v_1 x1.toNat)), (14, u8v (v_1 x1.toNat)), (15, .int .i64 ((v_1 x1.toNat).toNat : Int)), (16, .int .i64 p1), (17, .bool (decide (((v_1 x1.toNat).toNat : Int) ≥ p1))), (18, .bool (decide (((v_1 x1.toNat).toNat : Int) ≥ p1)))] [] ?_ ?_
      · refine TL.cases (t := 18) (b := (decide (((v_1 x1.toNat).toNat : Int) ≥ p1))) rfl (fun c3 => ?_) (fun c4 => ?_)
        · refine TL.skip rfl rfl (by decide) ?_
          refine TL.skip rfl rfl (by decide) ?_
          refine TL.skip rfl rfl (by decide) ?_
          refine TL.skip rfl rfl (by decide) ?_
          refine TL.skip rfl rfl (by decide) ?_
          refine TL.skip rfl rfl (by decide) ?_
          refine TL.skip rfl rfl (by decide) ?_
          refine TL.pick rfl rfl (b := true) rfl (r := .bool true) rfl ?_
          refine TL.done ?_
          exact TC.nrm () () ⟨(by rw [c3]; rfl), rfl, rfl, rfl, rfl, rfl, rfl, rfl, rfl, rfl, rfl, rfl, rfl, rfl, (by rw [c3]; rfl), trivial⟩ [] (by kernel_rfl)
        · refine TL.move rfl rfl (v := .int .i64 x1) rfl ?_
          refine TL.move rfl rfl (v := .int .i64 n_1) rfl ?_
          refine TL.bin .i64 x1 n_1 rfl rfl rfl rfl (v := .bool (decide (x1 ≥ n_1))) rfl ?_
          refine TL.move rfl rfl (v := .bool (decide (x1 ≥ n_1))) rfl ?_
          refine TL.cutU 3 [(25, .bool ((decide (x1 ≥ n_1)) && (((v_1 x1.toNat).toNat : Int) != ((0 : UInt8).toNat : Int)))), (1, .int .i64 n_1), (2, .int .i64 p1), (9, sval [.arr 6 (enf u8v v_1)]), (10, .int .i64 x1), (11, .bool (decide (x1 < 6))), (12, .int .i64 x1), (13, u8v (v_1 x1.toNat)), (7, .int .i64 x1), (8, u8v (v_1 x1.toNat)), (14, u8v (v_1 x1.toNat)), (15, .int .i64 ((v_1 x1.toNat).toNat : Int)), (16, .int .i64 p1), (17, .bool (decide (((v_1 x1.toNat).toNat : Int) ≥ p1))), (18, .bool false), (19, .int .i64 x1), (20, .int .i64 n_1), (21, .bool (decide (x1 ≥ n_1))), (22, .bool (decide (x1 ≥ n_1)))] [] ?_ ?_
          · refine TL.cases (t := 22) (b := (decide (x1 ≥ n_1))) rfl (fun c5 => ?_) (fun c6 => ?_)
            · refine TL.move rfl rfl (v := u8v (v_1 x1.toNat)) rfl ?_
              refine TL.bin .u8 ((v_1 x1.toNat).toNat : Int) ((0 : UInt8).toNat : Int) rfl rfl rfl rfl (v := .bool (((v_1 x1.toNat).toNat : Int) != ((0 : UInt8).toNat : Int))) rfl ?_
              refine TL.pick rfl rfl (b := true) rfl (r := .bool (((v_1 x1.toNat).toNat : Int) != ((0 : UInt8).toNat : Int))) rfl ?_
              refine TL.done ?_
              exact TC.nrm () () ⟨(by rw [c5]; rfl), rfl, rfl, rfl, rfl, rfl, rfl, rfl, rfl, rfl, rfl, rfl, rfl, rfl, rfl, rfl, rfl, rfl, (by rw [c5]; rfl), trivial⟩ [] (by kernel_rfl)
            · refine TL.skip rfl rfl (by decide) ?_
              refine TL.skip rfl rfl (by decide) ?_
              refine TL.pick rfl rfl (b := false) rfl (r := .bool false) rfl ?_
              refine TL.done ?_
              exact TC.nrm () () ⟨(by rw [c6]; rfl), rfl, rfl, rfl, rfl, rfl, rfl, rfl, rfl, rfl, rfl, rfl, rfl, rfl, rfl, rfl, rfl, rfl, (by rw [c6]; rfl), trivial⟩ [] (by kernel_rfl)
          · refine TL.pick rfl rfl (b := false) rfl (r := .bool ((decide (x1 ≥ n_1)) && (((v_1 x1.toNat).toNat : Int) != ((0 : UInt8).toNat : Int)))) rfl ?_
            refine TL.done ?_
            exact TC.nrm () () ⟨(by rw [c4]; rfl), rfl, rfl, rfl, rfl, rfl, rfl, rfl, rfl, rfl, rfl, rfl, rfl, rfl, (by rw [c4]; rfl), trivial⟩ [] (by kernel_rfl)
      · refine TL.done ?_
        refine TC.cond (b := ((decide (((v_1 x1.toNat).toNat : Int) ≥ p1)) || ((decide (x1 ≥ n_1)) && (((v_1 x1.toNat).toNat : Int) != ((0 : UInt8).toNat : Int))))) rfl (fun c7 => ?_) (fun c8 => ?_)
        · refine TC.seq ?_
          refine TC.region ?_
          refine TL.assign rfl rfl (v := .bool false) rfl ?_
          refine TL.done ?_
          exact TC.retF (Fin.loop Far.ret (Fin.body (fin1 (.inr rfl) rfl (.tmp rfl) [] rfl ⟨rfl, rfl⟩)))
        · refine TC.skip ?_
          refine TC.region ?_
          refine TL.bin .i64 x1 1 rfl rfl rfl rfl (v := .int .i64 (w64 (x1 + 1))) rfl ?_
          refine TL.move rfl rfl (v := .int .i64 (w64 (x1 + 1))) rfl ?_
          refine TL.done ?_
          exact TC.next ((w64 (x1 + 1))) (()) ⟨rfl, rfl, rfl, rfl, trivial⟩ [] rfl
    · exact TC.brk (x1) (()) ⟨rfl, rfl, rfl, rfl, trivial⟩ [] rfl
  · rintro x1 _
    refine TC.seq ?_
    refine TC.region ?_
    refine TL.assign rfl rfl (v := .bool true) rfl ?_
    refine TL.done ?_
    exact TC.retF (Fin.body (fin1 (.inr rfl) rfl (.tmp rfl) [] rfl ⟨rfl, rfl⟩))

end Go.Proofs.Ytiiljfpbcanphaa.G

/- impl.Algebra).n, as a pure function. -/
set_option linter.unusedVariables false
namespace Go.Proofs.Ytiiljfpbcanphaa.G
open Go Go.Sx Go.Proofs

def impl_Algebra_n.f (a_1 : Int) (a_2 : Int) (a_3 : Nat → UInt8) (a_4 : Nat → UInt8) : Option Int := some a_2

def impl_Algebra_n.R (r : Int) (v : Value) (L : List Asn) : Prop := v = .int .i64 r ∧ L = []

set_option maxRecDepth 100000 in
set_option maxHeartbeats 4000000 in
theorem impl_Algebra_n.calls (w : World) (b_1 : Nat) (a_1 : Int) (a_2 : Int) (a_3 : Nat → UInt8) (a_4 : Nat → UInt8) (h1 : At (hp w) b_1 [.one (.int .i64 a_1), .one (.int .i64 a_2), .arr 216 (enf u8v a_3), .arr 6 (enf u8v a_4)]) :
    ∀ r, impl_Algebra_n.f a_1 a_2 a_3 a_4 = some r → Calls Try.prog 159 #[bp b_1 0] w (Ret w (impl_Algebra_n.R r)) := by

  refine calls_T (n := 7) (Γ := [(0, bp b_1 0)]) (R := impl_Algebra_n.R) Try.func159 rfl rfl (Nat.le_of_ble_eq_true rfl) ⟨rfl, trivial⟩ ?_
  unfold impl_Algebra_n.f
  refine TC.seq ?_
  refine TC.region ?_
  refine TL.assign rfl rfl (v := .int .i64 0) rfl ?_
  refine TL.done ?_
  refine TC.seq ?_
  refine TC.region ?_
  refine TL.move rfl rfl (v := bp b_1 0) rfl ?_
  refine TL.nilCheck rfl rfl rfl ?_
  refine TL.fa Try.underlying43 rfl Try.sizeOf2 rfl 1 rfl rfl rfl rfl ?_
  refine TL.load1 1 (Src.at h1) Try.isAgg2 rfl rfl rfl rfl rfl ?_
  refine TL.assign rfl rfl (v := .int .i64 a_2) rfl ?_
  refine TL.done ?_
  exact TC.retF (Fin.body (fin1 (.inr rfl) rfl (.tmp rfl) [] rfl ⟨rfl, rfl⟩))

end Go.Proofs.Ytiiljfpbcanphaa.G

/- impl.Algebra).tableOk, as a pure function. -/
set_option linter.unusedVariables false
namespace Go.Proofs.Ytiiljfpbcanphaa.G
open Go Go.Sx Go.Proofs

def impl_Algebra_tableOk.b0 (a_3 : Nat → UInt8) (x1 : Int) (a_2 : Int) (a_1 : Int) (a_4 : Nat → UInt8) : Int → Option (LR Int (LR Int Bool)) := fun x2 => (bif (decide (x2 < 6)) then chk x2 6 ((G.impl_isVector.f (sub (sub a_3 (x1.toNat * 36)) (x2.toNat * 6)) a_2 a_1).bind (fun r_1 => (bif (!r_1) then some (.ret (.ret (false))) else (G.impl_Algebra_n.f a_1 a_2 a_3 a_4).bind (fun r_4 => (bif (decide (x1 ≥ r_4)) then (bif (!((List.range 6).all fun i_ => (((sub (sub a_3 (x1.toNat * 36)) (x2.toNat * 6)) i_).toNat : Int) == (((fun _ => (0 : UInt8)) i_).toNat : Int))) then some (.ret (.ret (false))) else some (.next (w64 (x2 + 1)))) else (bif (decide (x2 ≥ r_4)) then (bif (!((List.range 6).all fun i_ => (((sub (sub a_3 (x1.toNat * 36)) (x2.toNat * 6)) i_).toNat : Int) == (((fun _ => (0 : UInt8)) i_).toNat : Int))) then some (.ret (.ret (false))) else some (.next (w64 (x2 + 1)))) else some (.next (w64 (x2 + 1))))))))) else some (.brk x2))

def impl_Algebra_tableOk.b1 (a_3 : Nat → UInt8) (a_2 : Int) (a_1 : Int) (a_4 : Nat → UInt8) : Int → Option (LR Int Bool) := fun x1 => (bif (decide (x1 < 6)) then chk x1 6 ((loop (impl_Algebra_tableOk.b0 a_3 x1 a_2 a_1 a_4) 0).bind (ln (fun x2 => some (.next (w64 (x1 + 1)))))) else some (.brk x1))

def impl_Algebra_tableOk.f (a_1 : Int) (a_2 : Int) (a_3 : Nat → UInt8) (a_4 : Nat → UInt8) : Option Bool := (loop (impl_Algebra_tableOk.b1 a_3 a_2 a_1 a_4) 0).bind (ln (fun x1 => (G.impl_isVector.f a_4 a_2 a_1).bind (fun r_16 => some r_16)))

def impl_Algebra_tableOk.R (r : Bool) (v : Value) (L : List Asn) : Prop := v = .bool r ∧ L = []

set_option maxRecDepth 100000 in
set_option maxHeartbeats 4000000 in
theorem impl_Algebra_tableOk.calls (w : World) (b_1 : Nat) (a_1 : Int) (a_2 : Int) (a_3 : Nat → UInt8) (a_4 : Nat → UInt8) (h1 : At (hp w) b_1 [.one (.int .i64 a_1), .one (.int .i64 a_2), .arr 216 (enf u8v a_3), .arr 6 (enf u8v a_4)]) :
    ∀ r, impl_Algebra_tableOk.f a_1 a_2 a_3 a_4 = some r → Calls Try.prog 112 #[bp b_1 0] w (Ret w (impl_Algebra_tableOk.R r)) := by

  refine calls_T (n := 63) (Γ := [(0, bp b_1 0)]) (R := impl_Algebra_tableOk.R) Try.func112 rfl rfl (Nat.le_of_ble_eq_true rfl) ⟨rfl, trivial⟩ ?_
  unfold impl_Algebra_tableOk.f
  refine TC.seq ?_
  refine TC.region ?_
  refine TL.assign rfl rfl (v := .bool false) rfl ?_
  refine TL.done ?_
  refine TC.seq ?_
  refine TC.seq ?_
  refine TC.region ?_
  refine TL.move rfl rfl (v := bp b_1 0) rfl ?_
  refine TL.nilCheck rfl rfl rfl ?_
  refine TL.fa Try.underlying43 rfl Try.sizeOf40 rfl 2 rfl rfl rfl rfl ?_
  refine TL.loadM 2 1 (Src.at h1) Try.isAgg40 Try.sizeOf40 (mid := [.arr 216 (enf u8v a_3)]) rfl rfl rfl rfl rfl rfl ?_
  refine TL.move rfl rfl (v := .int .i64 0) rfl ?_
  refine TL.done ?_
  refine TC.loopK (σ := Int) (γ := Unit) (Γ' := (fun x1 _ => [(0, bp b_1 0), (10, sval [.arr 216 (enf u8v a_3)]), (11, .int .i64 x1)])) (L' := (fun x1 _ => [])) (Γb := (fun x1 _ => [(0, bp b_1 0), (10, sval [.arr 216 (enf u8v a_3)]), (11, .int .i64 x1)])) (Lb := (fun x1 _ => [])) (0) (()) ⟨rfl, rfl, rfl, trivial⟩ [] rfl ?_ ?_
  · rintro x1 _
    refine TC.seq ?_
    refine TC.region ?_
    refine TL.bin .i64 x1 6 rfl rfl rfl rfl (v := .bool (decide (x1 < 6))) rfl ?_
    refine TL.done ?_
    refine TC.seq ?_
    refine TC.cond (b := (decide (x1 < 6))) rfl (fun c1 => ?_) (fun c2 => ?_)
    · refine TC.skip ?_
      refine TC.seq ?_
      refine TC.block (NoEx.loop rfl NoEx.body) ?_
      refine TC.seq ?_
      refine TC.region ?_
      refine TL.move rfl rfl (v := .int .i64 x1) rfl ?_
      refine TL.chk fun h2 => ?_
      refine TL.ixvN x1 h2 Try.underlying40 Try.isAgg39 Try.sizeOf39 rfl (v := sval [.arr 36 (enf u8v (sub a_3 (x1.toNat * 36)))]) rfl rfl rfl rfl rfl ?_
      refine TL.alloc [.arr 36 (enf u8v (fun _ => (0 : UInt8)))] rfl rfl Try.zeroValue39 rfl fun b_2 => ?_
      refine TL.assign rfl rfl (v := .int .i64 x1) rfl ?_
      refine TL.stM (news := [.arr 36 (enf u8v (sub a_3 (x1.toNat * 36)))]) 0 0 1 rfl Try.sizeOf39 (ones_arr (fun _ => rfl) ones_nil) rfl rfl rfl rfl rfl rfl ?_
      refine TL.done ?_
      refine TC.seq ?_
      refine TC.region ?_
      refine TL.loadM 0 1 (Src.box 0 rfl) Try.isAgg39 Try.sizeOf39 (mid := [.arr 36 (enf u8v (sub a_3 (x1.toNat * 36)))]) rfl rfl rfl rfl rfl rfl ?_
      refine TL.move rfl rfl (v := .int .i64 0) rfl ?_
      refine TL.done ?_
      refine TC.loopK (σ := Int) (γ := Unit) (Γ' := (fun x2 _ => [(0, bp b_1 0), (3, .int .i64 x1), (10, sval [.arr 216 (enf u8v a_3)]), (11, .int .i64 x1), (15, sval [.arr 36 (enf u8v (sub a_3 (x1.toNat * 36)))]), (16, .int .i64 x2)])) (L' := (fun x2 _ => [])) (Γb := (fun x2 _ => [(0, bp b_1 0), (3, .int .i64 x1), (10, sval [.arr 216 (enf u8v a_3)]), (11, .int .i64 x1), (15, sval [.arr 36 (enf u8v (sub a_3 (x1.toNat * 36)))]), (16, .int .i64 x2)])) (Lb := (fun x2 _ => [])) (0) (()) ⟨rfl, rfl, rfl, rfl, rfl, rfl, trivial⟩ [] rfl ?_ ?_
      · rintro x2 _
        refine TC.seq ?_
        refine TC.region ?_
        refine TL.bin .i64 x2 6 rfl rfl rfl rfl (v := .bool (decide (x2 < 6))) rfl ?_
        refine TL.done ?_
        refine TC.seq ?_
        refine TC.cond (b := (decide (x2 < 6))) rfl (fun c3 => ?_) (fun c4 => ?_)
        · refine TC.skip ?_
          refine TC.seq ?_
          refine TC.block (NoEx.loop rfl (NoEx.loop rfl NoEx.body)) ?_
          refine TC.seq ?_
          refine TC.region ?_
          refine TL.move rfl rfl (v := .int .i64 x2) rfl ?_
          refine TL.chk fun h3 => ?_
          refine TL.ixvN x2 h3 Try.underlying39 Try.isAgg38 Try.sizeOf38 rfl (v := sval [.arr 6 (enf u8v (sub (sub a_3 (x1.toNat * 36)) (x2.toNat * 6)))]) rfl rfl rfl rfl rfl ?_
          refine TL.alloc [.arr 6 (enf u8v (fun _ => (0 : UInt8)))] rfl rfl Try.zeroValue38 rfl fun b_3 => ?_
          refine TL.assign rfl rfl (v := .int .i64 x2) rfl ?_
          refine TL.stM (news := [.arr 6 (enf u8v (sub (sub a_3 (x1.toNat * 36)) (x2.toNat * 6)))]) 0 0 1 rfl Try.sizeOf38 (ones_arr (fun _ => rfl) ones_nil) rfl rfl rfl rfl rfl rfl ?_
          refine TL.done ?_
          refine TC.seq ?_
          refine TC.bindE ?_
          rintro r_1 hr1
          refine TC.ifB (!r_1) (fun c5 => ?_) (fun c5 => ?_)
          · refine TC.wk (Γ' := [(0, bp b_1 0), (3, .int .i64 x1), (10, sval [.arr 216 (enf u8v a_3)]), (11, .int .i64 x1), (15, sval [.arr 36 (enf u8v (sub a_3 (x1.toNat * 36)))]), (16, .int .i64 x2), (17, .bool (decide (x2 < 6))), (18, .int .i64 x2), (19, sval [.arr 6 (enf u8v (sub (sub a_3 (x1.toNat * 36)) (x2.toNat * 6)))]), (6, bp b_3 0), (5, .int .i64 x2)]) ⟨rfl, rfl, rfl, rfl, rfl, rfl, rfl, rfl, rfl, rfl, rfl, trivial⟩ ?_
            refine TC.drawG [(0, bp b_1 0), (3, .int .i64 x1), (10, sval [.arr 216 (enf u8v a_3)]), (11, .int .i64 x1), (15, sval [.arr 36 (enf u8v (sub a_3 (x1.toNat * 36)))]), (16, .int .i64 x2), (17, .bool (decide (x2 < 6))), (18, .int .i64 x2), (19, sval [.arr 6 (enf u8v (sub (sub a_3 (x1.toNat * 36)) (x2.toNat * 6)))]), (6, bp b_3 0), (5, .int .i64 x2)] [] ⟨rfl, rfl, rfl, rfl, rfl, rfl, rfl, rfl, rfl, rfl, rfl, trivial⟩ trivial (fun l_ g2 => [box b_3 38 [.arr 6 (enf u8v (sub (sub a_3 (x1.toNat * 36)) (x2.toNat * 6)))]]) (fun g2 => [sval [.arr 6 (enf u8v (sub (sub a_3 (x1.toNat * 36)) (x2.toNat * 6)))], bp b_1 0, bp b_1 0, bp b_1 1, .int .i64 a_2, bp b_1 0, bp b_1 0, bp b_1 0, .int .i64 a_1, .bool r_1, .bool true, .bool true, undef, undef, undef, undef, undef, undef, undef, undef, undef, undef, undef, undef, undef, undef, undef, .bool true]) [[], [], [1], [1, 2], [1, 2, 3], [], [5], [5, 6], [5, 6, 7], [0, 1, 2, 3, 4, 5, 6, 7, 8], [0, 1, 2, 3, 4, 5, 6, 7, 8, 9], [0, 1, 2, 3, 4, 5, 6, 7, 8, 9, 10], [0, 1, 2, 3, 4, 5, 6, 7, 8, 9, 10, 11], [0, 1, 2, 3, 4, 5, 6, 7, 8, 9, 10, 11], [0, 1, 2, 3, 4, 5, 6, 7, 8, 9, 10, 11, 13], [0, 1, 2, 3, 4, 5, 6, 7, 8, 9, 10, 11, 12, 13, 14], [0, 1, 2, 3, 4, 5, 6, 7, 8, 9, 10, 11, 12, 13, 14, 15], [0, 1, 2, 3, 4, 5, 6, 7, 8, 9, 10, 11, 12, 13, 14, 15, 16], [0, 1, 2, 3, 4, 5, 6, 7, 8, 9, 10, 11, 12, 13, 14, 15, 16], [0, 1, 2, 3, 4, 5, 6, 7, 8, 9, 10, 11, 12, 13, 14, 15, 16, 18], [0, 1, 2, 3, 4, 5, 6, 7, 8, 9, 10, 11, 12, 13, 14, 15, 16, 17, 18, 19], [0, 1, 2, 3, 4, 5, 6, 7, 8, 9, 10, 11, 12, 13, 14, 15, 16, 17, 18, 19, 20], [0, 1, 2, 3, 4, 5, 6, 7, 8, 9, 10, 11, 12, 13, 14, 15, 16, 17, 18, 19, 20, 21], [0, 1, 2, 3, 4, 5, 6, 7, 8, 9, 10, 11, 12, 13, 14, 15, 16, 17, 18, 19, 20, 21, 22], [0, 1, 2, 3, 4, 5, 6, 7, 8, 9, 10, 11, 12, 13, 14, 15, 16, 17, 18, 19, 20, 21, 22], [0, 1, 2, 3, 4, 5, 6, 7, 8, 9, 10, 11, 12, 13, 14, 15, 16, 17, 18, 19, 20, 21, 22, 23, 24], [0, 1, 2, 3, 4, 5, 6, 7, 8, 9, 10, 11, 12, 13, 14, 15, 16, 17, 18, 19, 20, 21, 22, 23, 24, 25], [0, 1, 2, 3, 4, 5, 6, 7, 8, 9, 10, 11, 12, 13, 14, 15, 16, 17, 18, 19, 20, 21, 22, 23, 24, 25, 26]] [[some false, none, none, none, none, none, none, none, none, some false, some false, some false, some false, some false, some false, some false, some false, some false, some false, some false, some false, some false, some false, some false, some false, some false, some false, some false], [none, some false, some false, some false, some false, none, none, none, none, some false, some false, some false, some false, some false, some false, some false, some false, some false, some false, some false, some false, some false, some false, some false, some false, some false, some false, some false], [none, some true, some false, some false, some false, none, none, none, none, some false, some false, some false, some false, some false, some false, some false, some false, some false, some false, some false, some false, some false, some false, some false, some false, some false, some false, some false], [none, some true, some true, some false, some false, none, none, none, none, some false, some false, some false, some false, some false, some false, some false, some false, some false, some false, some false, some false, some false, some false, some false, some false, some false, some false, some false], [none, some true, some true, some true, some false, none, none, none, none, some false, some false, some false, some false, some false, some false, some false, some false, some false, some false, some false, some false, some false, some false, some false, some false, some false, some false, some false], [none, none, none, none, none, some false, some false, some false, some false, some false, some false, some false, some false, some false, some false, some false, some false, some false, some false, some false, some false, some false, some false, some false, some false, some false, some false, some false], [none, none, none, none, none, some true, some false, some false, some false, some false, some false, some false, some false, some false, some false, some false, some false, some false, some false, some false, some false, some false, some false, some false, some false, some false, some false, some false], [none, none, none, none, none, some true, some true, some false, some false, some false, some false, some false, some false, some false, some false, some false, some false, some false, some false, some false, some false, some false, some false, some false, some false, some false, some false, some false], [none, none, none, none, none, some true, some true, some true, some false, some false, some false, some false, some false, some false, some false, some false, some false, some false, some false, some false, some false, some false, some false, some false, some false, some false, some false, some false], [some true, some true, some true, some true, some true, some true, some true, some true, some true, some false, some false, some false, some false, some false, some false, some false, some false, some false, some false, some false, some false, some false, some false, some false, some false, some false, some false, some false], [some true, some true, some true, some true, some true, some true, some true, some true, some true, some true, some false, some false, some false, some false, some false, some false, some false, some false, some false, some false, some false, some false, some false, some false, some false, some false, some false, some false], [some true, some true, some true, some true, some true, some true, some true, some true, some true, some true, some true, some false, some false, some false, some false, some false, some false, some false, some false, some false, some false, some false, some false, some false, some false, some false, some false, some false], [some true, some true, some true, some true, some true, some true, some true, some true, some true, some true, some true, some true, some false, none, none, some false, some false, some false, some false, some false, some false, some false, some false, some false, some false, some false, some false, some false], [some true, some true, some true, some true, some true, some true, some true, some true, some true, some true, some true, some true, none, some false, some false, some false, some false, some false, some false, some false, some false, some false, some false, some false, some false, some false, some false, some false], [some true, some true, some true, some true, some true, some true, some true, some true, some true, some true, some true, some true, none, some true, some false, some false, some false, some false, some false, some false, some false, some false, some false, some false, some false, some false, some false, some false], [some true, some true, some true, some true, some true, some true, some true, some true, some true, some true, some true, some true, some true, some true, some true, some false, some false, some false, some false, some false, some false, some false, some false, some false, some false, some false, some false, some false], [some true, some true, some true, some true, some true, some true, some true, some true, some true, some true, some true, some true, some true, some true, some true, some true, some false, some false, some false, some false, some false, some false, some false, some false, some false, some false, some false, some false], [some true, some true, some true, some true, some true, some true, some true, some true, some true, some true, some true, some true, some true, some true, some true, some true, some true, some false, none, none, some false, some false, some false, some false, some false, some false, some false, some false], [some true, some true, some true, some true, some true, some true, some true, some true, some true, some true, some true, some true, some true, some true, some true, some true, some true, none, some false, some false, some false, some false, some false, some false, some false, some false, some false, some false], [some true, some true, some true, some true, some true, some true, some true, some true, some true, some true, some true, some true, some true, some true, some true, some true, some true, none, some true, some false, some false, some false, some false, some false, some false, some false, some false, some false], [some true, some true, some true, some true, some true, some true, some true, some true, some true, some true, some true, some true, some true, some true, some true, some true, some true, some true, some true, some true, some false, some false, some false, some false, some false, some false, some false, some false], [some true, some true, some true, some true, some true, some true, some true, some true, some true, some true, some true, some true, some true, some true, some true, some true, some true, some true, some true, some true, some true, some false, some false, some false, some false, some false, some false, some false], [some true, some true, some true, some true, some true, some true, some true, some true, some true, some true, some true, some true, some true, some true, some true, some true, some true, some true, some true, some true, some true, some true, some false, some false, some false, some false, some false, some false], [some true, some true, some true, some true, some true, some true, some true, some true, some true, some true, some true, some true, some true, some true, some true, some true, some true, some true, some true, some true, some true, some true, some true, some false, none, some false, some false, some false], [some true, some true, some true, some true, some true, some true, some true, some true, some true, some true, some true, some true, some true, some true, some true, some true, some true, some true, some true, some true, some true, some true, some true, none, some false, some false, some false, some false], [some true, some true, some true, some true, some true, some true, some true, some true, some true, some true, some true, some true, some true, some true, some true, some true, some true, some true, some true, some true, some true, some true, some true, some true, some true, some false, some false, some false], [some true, some true, some true, some true, some true, some true, some true, some true, some true, some true, some true, some true, some true, some true, some true, some true, some true, some true, some true, some true, some true, some true, some true, some true, some true, some true, some false, some false], [some true, some true, some true, some true, some true, some true, some true, some true, some true, some true, some true, some true, some true, some true, some true, some true, some true, some true, some true, some true, some true, some true, some true, some true, some true, some true, some true, some false]] (by kernel_rfl) (fun _ => rfl) rfl rfl rfl rfl rfl (fun _ _ => ⟨⟨⟨⟨⟨⟨⟨⟨⟨⟨⟨⟨⟨⟨⟨⟨⟨⟨⟨⟨⟨⟨⟨⟨⟨⟨⟨⟨trivial, rfl⟩, rfl⟩, rfl⟩, rfl⟩, rfl⟩, rfl⟩, rfl⟩, rfl⟩, rfl⟩, rfl⟩, rfl⟩, rfl⟩, rfl⟩, rfl⟩, rfl⟩, rfl⟩, rfl⟩, rfl⟩, rfl⟩, rfl⟩, rfl⟩, rfl⟩, rfl⟩, rfl⟩, rfl⟩, rfl⟩, rfl⟩, rfl⟩) 0 [0] (fun _ => by kernel_rfl) ?_ ?_
            · refine ⟨rfl, ?_, rfl, ?_, rfl, ?_, rfl, ?_, rfl, ?_, rfl, ?_, rfl, ?_, rfl, ?_, rfl, ?_, rfl, ?_, rfl, ?_, rfl, ?_, rfl, ?_, rfl, ?_, rfl, ?_, rfl, ?_, rfl, ?_, rfl, ?_, rfl, ?_, rfl, ?_, rfl, ?_, rfl, ?_, rfl, ?_, rfl, ?_, rfl, ?_, rfl, ?_, rfl, ?_, rfl, ?_, trivial⟩
              · intro b1_ b2_ b3_ b4_ b5_ b6_ b7_ b8_ g2
                refine TL.asL [box b_3 38 [.arr 6 (enf u8v (sub (sub a_3 (x1.toNat * 36)) (x2.toNat * 6)))]] (by kernel_rfl) ?_
                refine TL.loadM 0 1 (Src.box 0 rfl) Try.isAgg38 Try.sizeOf38 (mid := [.arr 6 (enf u8v (sub (sub a_3 (x1.toNat * 36)) (x2.toNat * 6)))]) rfl rfl rfl rfl rfl rfl ?_
                refine TL.done ?_
                exact TC.nrm () [] ⟨rfl, trivial⟩ [0] (by kernel_rfl)
              · intro b0_ b5_ b6_ b7_ b8_ g2
                refine TL.move rfl rfl (v := bp b_1 0) rfl ?_
                refine TL.done ?_
                exact TC.nrm () [] ⟨rfl, trivial⟩ [0] (by kernel_rfl)
              · intro b0_ b5_ b6_ b7_ b8_ g2
                refine TL.nilCheck rfl rfl rfl ?_
                refine TL.done ?_
                exact TC.nrm () [] ⟨rfl, trivial⟩ [0] (by kernel_rfl)
              · intro b0_ b5_ b6_ b7_ b8_ g2
                refine TL.asL [box b_3 38 [.arr 6 (enf u8v (sub (sub a_3 (x1.toNat * 36)) (x2.toNat * 6)))]] (by kernel_rfl) ?_
                refine TL.fa Try.underlying43 rfl Try.sizeOf2 rfl 1 rfl rfl rfl rfl ?_
                refine TL.done ?_
                exact TC.nrm () [] ⟨rfl, trivial⟩ [0] (by kernel_rfl)
              · intro b0_ b5_ b6_ b7_ b8_ g2
                refine TL.asL [box b_3 38 [.arr 6 (enf u8v (sub (sub a_3 (x1.toNat * 36)) (x2.toNat * 6)))]] (by kernel_rfl) ?_
                refine TL.load1 1 (Src.at h1) Try.isAgg2 rfl rfl rfl rfl rfl ?_
                refine TL.done ?_
                exact TC.nrm () [] ⟨rfl, trivial⟩ [0] (by kernel_rfl)
              · intro b0_ b1_ b2_ b3_ b4_ g2
                refine TL.move rfl rfl (v := bp b_1 0) rfl ?_
                refine TL.done ?_
                exact TC.nrm () [] ⟨rfl, trivial⟩ [0] (by kernel_rfl)
              · intro b0_ b1_ b2_ b3_ b4_ g2
                refine TL.nilCheck rfl rfl rfl ?_
                refine TL.done ?_
                exact TC.nrm () [] ⟨rfl, trivial⟩ [0] (by kernel_rfl)
              · intro b0_ b1_ b2_ b3_ b4_ g2
                refine TL.asL [box b_3 38 [.arr 6 (enf u8v (sub (sub a_3 (x1.toNat * 36)) (x2.toNat * 6)))]] (by kernel_rfl) ?_
                refine TL.fa Try.underlying43 rfl Try.sizeOf2 rfl 0 rfl rfl rfl rfl ?_
                refine TL.done ?_
                exact TC.nrm () [] ⟨rfl, trivial⟩ [0] (by kernel_rfl)
              · intro b0_ b1_ b2_ b3_ b4_ g2
                refine TL.asL [box b_3 38 [.arr 6 (enf u8v (sub (sub a_3 (x1.toNat * 36)) (x2.toNat * 6)))]] (by kernel_rfl) ?_
                refine TL.load1 0 (Src.at h1) Try.isAgg2 rfl rfl rfl rfl rfl ?_
                refine TL.done ?_
                exact TC.nrm () [] ⟨rfl, trivial⟩ [0] (by kernel_rfl)
              · intro g2
                refine TL.asL [box b_3 38 [.arr 6 (enf u8v (sub (sub a_3 (x1.toNat * 36)) (x2.toNat * 6)))]] (by kernel_rfl) ?_
                refine TL.callH (R := G.impl_isVector.R) hr1 Try.call158 rfl rfl rfl (fun w hS => G.impl_isVector.calls w (sub (sub a_3 (x1.toNat * 36)) (x2.toNat * 6)) a_2 a_1) ?_
                rintro _ _ ⟨rfl, rfl⟩
                refine TL.done ?_
                exact TC.nrm () [] ⟨rfl, trivial⟩ [0] (by kernel_rfl)
              · intro g2
                refine TL.not r_1 rfl rfl rfl ?_
                refine TL.done ?_
                exact TC.nrm () [] ⟨(by rw [c5]; rfl), trivial⟩ [0] (by kernel_rfl)
              · intro g2
                refine TL.move rfl rfl (v := .bool true) rfl ?_
                refine TL.done ?_
                exact TC.nrm () [] ⟨rfl, trivial⟩ [0] (by kernel_rfl)
              · intro b13_ b14_ g2
                refine TL.skip rfl rfl (by decide) ?_
                refine TL.done ?_
                exact TC.nrm () [] ⟨rfl, trivial⟩ [0] (by kernel_rfl)
              · intro b12_ g2
                refine TL.skip rfl rfl (by decide) ?_
                refine TL.done ?_
                exact TC.nrm () [] ⟨rfl, trivial⟩ [0] (by kernel_rfl)
              · intro b12_ g2
                refine TL.asL [box b_3 38 [.arr 6 (enf u8v (sub (sub a_3 (x1.toNat * 36)) (x2.toNat * 6)))]] (by kernel_rfl) ?_
                refine TL.skip rfl rfl (by decide) ?_
                refine TL.done ?_
                exact TC.nrm () [] ⟨rfl, trivial⟩ [0] (by kernel_rfl)
              · intro g2
                refine TL.skip rfl rfl (by decide) ?_
                refine TL.done ?_
                exact TC.nrm () [] ⟨rfl, trivial⟩ [0] (by kernel_rfl)
              · intro g2
                refine TL.skip rfl rfl (by decide) ?_
                refine TL.done ?_
                exact TC.nrm () [] ⟨rfl, trivial⟩ [0] (by kernel_rfl)
              · intro b18_ b19_ g2
                refine TL.skip rfl rfl (by decide) ?_
                refine TL.done ?_
                exact TC.nrm () [] ⟨rfl, trivial⟩ [0] (by kernel_rfl)
              · intro b17_ g2
                refine TL.skip rfl rfl (by decide) ?_
                refine TL.done ?_
                exact TC.nrm () [] ⟨rfl, trivial⟩ [0] (by kernel_rfl)
              · intro b17_ g2
                refine TL.asL [box b_3 38 [.arr 6 (enf u8v (sub (sub a_3 (x1.toNat * 36)) (x2.toNat * 6)))]] (by kernel_rfl) ?_
                refine TL.skip rfl rfl (by decide) ?_
                refine TL.done ?_
                exact TC.nrm () [] ⟨rfl, trivial⟩ [0] (by kernel_rfl)
              · intro g2
                refine TL.skip rfl rfl (by decide) ?_
                refine TL.done ?_
                exact TC.nrm () [] ⟨rfl, trivial⟩ [0] (by kernel_rfl)
              · intro g2
                refine TL.skip rfl rfl (by decide) ?_
                refine TL.done ?_
                exact TC.nrm () [] ⟨rfl, trivial⟩ [0] (by kernel_rfl)
              · intro g2
                refine TL.skip rfl rfl (by decide) ?_
                refine TL.done ?_
                exact TC.nrm () [] ⟨rfl, trivial⟩ [0] (by kernel_rfl)
              · intro b24_ g2
                refine TL.asL [box b_3 38 [.arr 6 (enf u8v (sub (sub a_3 (x1.toNat * 36)) (x2.toNat * 6)))]] (by kernel_rfl) ?_
                refine TL.skip rfl rfl (by decide) ?_
                refine TL.done ?_
                exact TC.nrm () [] ⟨rfl, trivial⟩ [0] (by kernel_rfl)
              · intro b23_ g2
                refine TL.asL [box b_3 38 [.arr 6 (enf u8v (sub (sub a_3 (x1.toNat * 36)) (x2.toNat * 6)))]] (by kernel_rfl) ?_
                refine TL.skip rfl rfl (by decide) ?_
                refine TL.done ?_
                exact TC.nrm () [] ⟨rfl, trivial⟩ [0] (by kernel_rfl)
              · intro g2
                refine TL.skip rfl rfl (by decide) ?_
                refine TL.done ?_
                exact TC.nrm () [] ⟨rfl, trivial⟩ [0] (by kernel_rfl)
              · intro g2
                refine TL.skip rfl rfl (by decide) ?_
                refine TL.done ?_
                exact TC.nrm () [] ⟨rfl, trivial⟩ [0] (by kernel_rfl)
              · intro g2
                refine TL.pick rfl rfl (b := true) rfl (r := .bool true) rfl ?_
                refine TL.done ?_
                exact TC.nrm () [] ⟨rfl, trivial⟩ [0] (by kernel_rfl)
            · intro g2
              refine TC.asL [box b_3 38 [.arr 6 (enf u8v (sub (sub a_3 (x1.toNat * 36)) (x2.toNat * 6)))]] (by kernel_rfl) ?_
              refine TC.cond_true rfl ?_
              refine TC.seq ?_
              refine TC.region ?_
              refine TL.assign rfl rfl (v := .bool false) rfl ?_
              refine TL.done ?_
              exact TC.retF (Fin.loop Far.ret (Fin.loop Far.ret (Fin.body (fin1 (.inr rfl) rfl (.tmp rfl) [] rfl ⟨rfl, rfl⟩))))
          · refine TC.bindE ?_
            rintro r_4 hr2
            refine TC.ifB (decide (x1 ≥ r_4)) (fun c6 => ?_) (fun c6 => ?_)
            · refine TC.wk (Γ' := [(0, bp b_1 0), (3, .int .i64 x1), (10, sval [.arr 216 (enf u8v a_3)]), (11, .int .i64 x1), (15, sval [.arr 36 (enf u8v (sub a_3 (x1.toNat * 36)))]), (16, .int .i64 x2), (17, .bool (decide (x2 < 6))), (18, .int .i64 x2), (19, sval [.arr 6 (enf u8v (sub (sub a_3 (x1.toNat * 36)) (x2.toNat * 6)))]), (6, bp b_3 0), (5, .int .i64 x2)]) ⟨rfl, rfl, rfl, rfl, rfl, rfl, rfl, rfl, rfl, rfl, rfl, trivial⟩ ?_
              refine TC.drawG [(0, bp b_1 0), (3, .int .i64 x1), (10, sval [.arr 216 (enf u8v a_3)]), (11, .int .i64 x1), (15, sval [.arr 36 (enf u8v (sub a_3 (x1.toNat * 36)))]), (16, .int .i64 x2), (17, .bool (decide (x2 < 6))), (18, .int .i64 x2), (19, sval [.arr 6 (enf u8v (sub (sub a_3 (x1.toNat * 36)) (x2.toNat * 6)))]), (6, bp b_3 0), (5, .int .i64 x2)] [] ⟨rfl, rfl, rfl, rfl, rfl, rfl, rfl, rfl, rfl, rfl, rfl, trivial⟩ trivial (fun l_ g4 => [box b_3 38 [.arr 6 (enf u8v (sub (sub a_3 (x1.toNat * 36)) (x2.toNat * 6)))]]) (fun g4 => [sval [.arr 6 (enf u8v (sub (sub a_3 (x1.toNat * 36)) (x2.toNat * 6)))], bp b_1 0, bp b_1 0, bp b_1 1, .int .i64 a_2, bp b_1 0, bp b_1 0, bp b_1 0, .int .i64 a_1, .bool r_1, .bool false, .bool false, .int .i64 x1, bp b_1 0, .int .i64 r_4, .bool true, .bool true, undef, undef, undef, undef, .bool true, .bool true, sval [.arr 6 (enf u8v (sub (sub a_3 (x1.toNat * 36)) (x2.toNat * 6)))], sval [.arr 6 (enf u8v (fun _ => (0 : UInt8)))], .bool (!((List.range 6).all fun i_ => (((sub (sub a_3 (x1.toNat * 36)) (x2.toNat * 6)) i_).toNat : Int) == (((fun _ => (0 : UInt8)) i_).toNat : Int))), .bool (!((List.range 6).all fun i_ => (((sub (sub a_3 (x1.toNat * 36)) (x2.toNat * 6)) i_).toNat : Int) == (((fun _ => (0 : UInt8)) i_).toNat : Int))), .bool (!((List.range 6).all fun i_ => (((sub (sub a_3 (x1.toNat * 36)) (x2.toNat * 6)) i_).toNat : Int) == (((fun _ => (0 : UInt8)) i_).toNat : Int)))]) [[], [], [1], [1, 2], [1, 2, 3], [], [5], [5, 6], [5, 6, 7], [0, 1, 2, 3, 4, 5, 6, 7, 8], [0, 1, 2, 3, 4, 5, 6, 7, 8, 9], [0, 1, 2, 3, 4, 5, 6, 7, 8, 9, 10], [0, 1, 2, 3, 4, 5, 6, 7, 8, 9, 10, 11], [0, 1, 2, 3, 4, 5, 6, 7, 8, 9, 10, 11], [0, 1, 2, 3, 4, 5, 6, 7, 8, 9, 10, 11, 13], [0, 1, 2, 3, 4, 5, 6, 7, 8, 9, 10, 11, 12, 13, 14], [0, 1, 2, 3, 4, 5, 6, 7, 8, 9, 10, 11, 12, 13, 14, 15], [0, 1, 2, 3, 4, 5, 6, 7, 8, 9, 10, 11, 12, 13, 14, 15, 16], [0, 1, 2, 3, 4, 5, 6, 7, 8, 9, 10, 11, 12, 13, 14, 15, 16], [0, 1, 2, 3, 4, 5, 6, 7, 8, 9, 10, 11, 12, 13, 14, 15, 16, 18], [0, 1, 2, 3, 4, 5, 6, 7, 8, 9, 10, 11, 12, 13, 14, 15, 16, 17, 18, 19], [0, 1, 2, 3, 4, 5, 6, 7, 8, 9, 10, 11, 12, 13, 14, 15, 16, 17, 18, 19, 20], [0, 1, 2, 3, 4, 5, 6, 7, 8, 9, 10, 11, 12, 13, 14, 15, 16, 17, 18, 19, 20, 21], [0, 1, 2, 3, 4, 5, 6, 7, 8, 9, 10, 11, 12, 13, 14, 15, 16, 17, 18, 19, 20, 21, 22], [0, 1, 2, 3, 4, 5, 6, 7, 8, 9, 10, 11, 12, 13, 14, 15, 16, 17, 18, 19, 20, 21, 22], [0, 1, 2, 3, 4, 5, 6, 7, 8, 9, 10, 11, 12, 13, 14, 15, 16, 17, 18, 19, 20, 21, 22, 23, 24], [0, 1, 2, 3, 4, 5, 6, 7, 8, 9, 10, 11, 12, 13, 14, 15, 16, 17, 18, 19, 20, 21, 22, 23, 24, 25], [0, 1, 2, 3, 4, 5, 6, 7, 8, 9, 10, 11, 12, 13, 14, 15, 16, 17, 18, 19, 20, 21, 22, 23, 24, 25, 26]] [[some false, none, none, none, none, none, none, none, none, some false, some false, some false, some false, some false, some false, some false, some false, some false, some false, some false, some false, some false, some false, some false, some false, some false, some false, some false], [none, some false, some false, some false, some false, none, none, none, none, some false, some false, some false, some false, some false, some false, some false, some false, some false, some false, some false, some false, some false, some false, some false, some false, some false, some false, some false], [none, some true, some false, some false, some false, none, none, none, none, some false, some false, some false, some false, some false, some false, some false, some false, some false, some false, some false, some false, some false, some false, some false, some false, some false, some false, some false], [none, some true, some true, some false, some false, none, none, none, none, some false, some false, some false, some false, some false, some false, some false, some false, some false, some false, some false, some false, some false, some false, some false, some false, some false, some false, some false], [none, some true, some true, some true, some false, none, none, none, none, some false, some false, some false, some false, some false, some false, some false, some false, some false, some false, some false, some false, some false, some false, some false, some false, some false, some false, some false], [none, none, none, none, none, some false, some false, some false, some false, some false, some false, some false, some false, some false, some false, some false, some false, some false, some false, some false, some false, some false, some false, some false, some false, some false, some false, some false], [none, none, none, none, none, some true, some false, some false, some false, some false, some false, some false, some false, some false, some false, some false, some false, some false, some false, some false, some false, some false, some false, some false, some false, some false, some false, some false], [none, none, none, none, none, some true, some true, some false, some false, some false, some false, some false, some false, some false, some false, some false, some false, some false, some false, some false, some false, some false, some false, some false, some false, some false, some false, some false], [none, none, none, none, none, some true, some true, some true, some false, some false, some false, some false, some false, some false, some false, some false, some false, some false, some false, some false, some false, some false, some false, some false, some false, some false, some false, some false], [some true, some true, some true, some true, some true, some true, some true, some true, some true, some false, some false, some false, some false, some false, some false, some false, some false, some false, some false, some false, some false, some false, some false, some false, some false, some false, some false, some false], [some true, some true, some true, some true, some true, some true, some true, some true, some true, some true, some false, some false, some false, some false, some false, some false, some false, some false, some false, some false, some false, some false, some false, some false, some false, some false, some false, some false], [some true, some true, some true, some true, some true, some true, some true, some true, some true, some true, some true, some false, some false, some false, some false, some false, some false, some false, some false, some false, some false, some false, some false, some false, some false, some false, some false, some false], [some true, some true, some true, some true, some true, some true, some true, some true, some true, some true, some true, some true, some false, none, none, some false, some false, some false, some false, some false, some false, some false, some false, some false, some false, some false, some false, some false], [some true, some true, some true, some true, some true, some true, some true, some true, some true, some true, some true, some true, none, some false, some false, some false, some false, some false, some false, some false, some false, some false, some false, some false, some false, some false, some false, some false], [some true, some true, some true, some true, some true, some true, some true, some true, some true, some true, some true, some true, none, some true, some false, some false, some false, some false, some false, some false, some false, some false, some false, some false, some false, some false, some false, some false], [some true, some true, some true, some true, some true, some true, some true, some true, some true, some true, some true, some true, some true, some true, some true, some false, some false, some false, some false, some false, some false, some false, some false, some false, some false, some false, some false, some false], [some true, some true, some true, some true, some true, some true, some true, some true, some true, some true, some true, some true, some true, some true, some true, some true, some false, some false, some false, some false, some false, some false, some false, some false, some false, some false, some false, some false], [some true, some true, some true, some true, some true, some true, some true, some true, some true, some true, some true, some true, some true, some true, some true, some true, some true, some false, none, none, some false, some false, some false, some false, some false, some false, some false, some false], [some true, some true, some true, some true, some true, some true, some true, some true, some true, some true, some true, some true, some true, some true, some true, some true, some true, none, some false, some false, some false, some false, some false, some false, some false, some false, some false, some false], [some true, some true, some true, some true, some true, some true, some true, some true, some true, some true, some true, some true, some true, some true, some true, some true, some true, none, some true, some false, some false, some false, some false, some false, some false, some false, some false, some false], [some true, some true, some true, some true, some true, some true, some true, some true, some true, some true, some true, some true, some true, some true, some true, some true, some true, some true, some true, some true, some false, some false, some false, some false, some false, some false, some false, some false], [some true, some true, some true, some true, some true, some true, some true, some true, some true, some true, some true, some true, some true, some true, some true, some true, some true, some true, some true, some true, some true, some false, some false, some false, some false, some false, some false, some false], [some true, some true, some true, some true, some true, some true, some true, some true, some true, some true, some true, some true, some true, some true, some true, some true, some true, some true, some true, some true, some true, some true, some false, some false, some false, some false, some false, some false], [some true, some true, some true, some true, some true, some true, some true, some true, some true, some true, some true, some true, some true, some true, some true, some true, some true, some true, some true, some true, some true, some true, some true, some false, none, some false, some false, some false], [some true, some true, some true, some true, some true, some true, some true, some true, some true, some true, some true, some true, some true, some true, some true, some true, some true, some true, some true, some true, some true, some true, some true, none, some false, some false, some false, some false], [some true, some true, some true, some true, some true, some true, some true, some true, some true, some true, some true, some true, some true, some true, some true, some true, some true, some true, some true, some true, some true, some true, some true, some true, some true, some false, some false, some false], [some true, some true, some true, some true, some true, some true, some true, some true, some true, some true, some true, some true, some true, some true, some true, some true, some true, some true, some true, some true, some true, some true, some true, some true, some true, some true, some false, some false], [some true, some true, some true, some true, some true, some true, some true, some true, some true, some true, some true, some true, some true, some true, some true, some true, some true, some true, some true, some true, some true, some true, some true, some true, some true, some true, some true, some false]] (by kernel_rfl) (fun _ => rfl) rfl rfl rfl rfl rfl (fun _ _ => ⟨⟨⟨⟨⟨⟨⟨⟨⟨⟨⟨⟨⟨⟨⟨⟨⟨⟨⟨⟨⟨⟨⟨⟨⟨⟨⟨⟨trivial, rfl⟩, rfl⟩, rfl⟩, rfl⟩, rfl⟩, rfl⟩, rfl⟩, rfl⟩, rfl⟩, rfl⟩, rfl⟩, rfl⟩, rfl⟩, rfl⟩, rfl⟩, rfl⟩, rfl⟩, rfl⟩, rfl⟩, rfl⟩, rfl⟩, rfl⟩, rfl⟩, rfl⟩, rfl⟩, rfl⟩, rfl⟩, rfl⟩) 0 [0] (fun _ => by kernel_rfl) ?_ ?_
              · refine ⟨rfl, ?_, rfl, ?_, rfl, ?_, rfl, ?_, rfl, ?_, rfl, ?_, rfl, ?_, rfl, ?_, rfl, ?_, rfl, ?_, rfl, ?_, rfl, ?_, rfl, ?_, rfl, ?_, rfl, ?_, rfl, ?_, rfl, ?_, rfl, ?_, rfl, ?_, rfl, ?_, rfl, ?_, rfl, ?_, rfl, ?_, rfl, ?_, rfl, ?_, rfl, ?_, rfl, ?_, rfl, ?_, trivial⟩
                · intro b1_ b2_ b3_ b4_ b5_ b6_ b7_ b8_ g4
                  refine TL.asL [box b_3 38 [.arr 6 (enf u8v (sub (sub a_3 (x1.toNat * 36)) (x2.toNat * 6)))]] (by kernel_rfl) ?_
                  refine TL.loadM 0 1 (Src.box 0 rfl) Try.isAgg38 Try.sizeOf38 (mid := [.arr 6 (enf u8v (sub (sub a_3 (x1.toNat * 36)) (x2.toNat * 6)))]) rfl rfl rfl rfl rfl rfl ?_
                  refine TL.done ?_
                  exact TC.nrm () [] ⟨rfl, trivial⟩ [0] (by kernel_rfl)
                · intro b0_ b5_ b6_ b7_ b8_ g4
                  refine TL.move rfl rfl (v := bp b_1 0) rfl ?_
                  refine TL.done ?_
                  exact TC.nrm () [] ⟨rfl, trivial⟩ [0] (by kernel_rfl)
                · intro b0_ b5_ b6_ b7_ b8_ g4
                  refine TL.nilCheck rfl rfl rfl ?_
                  refine TL.done ?_
                  exact TC.nrm () [] ⟨rfl, trivial⟩ [0] (by kernel_rfl)
                · intro b0_ b5_ b6_ b7_ b8_ g4
                  refine TL.asL [box b_3 38 [.arr 6 (enf u8v (sub (sub a_3 (x1.toNat * 36)) (x2.toNat * 6)))]] (by kernel_rfl) ?_
                  refine TL.fa Try.underlying43 rfl Try.sizeOf2 rfl 1 rfl rfl rfl rfl ?_
                  refine TL.done ?_
                  exact TC.nrm () [] ⟨rfl, trivial⟩ [0] (by kernel_rfl)
                · intro b0_ b5_ b6_ b7_ b8_ g4
                  refine TL.asL [box b_3 38 [.arr 6 (enf u8v (sub (sub a_3 (x1.toNat * 36)) (x2.toNat * 6)))]] (by kernel_rfl) ?_
                  refine TL.load1 1 (Src.at h1) Try.isAgg2 rfl rfl rfl rfl rfl ?_
                  refine TL.done ?_
                  exact TC.nrm () [] ⟨rfl, trivial⟩ [0] (by kernel_rfl)
                · intro b0_ b1_ b2_ b3_ b4_ g4
                  refine TL.move rfl rfl (v := bp b_1 0) rfl ?_
                  refine TL.done ?_
                  exact TC.nrm () [] ⟨rfl, trivial⟩ [0] (by kernel_rfl)
                · intro b0_ b1_ b2_ b3_ b4_ g4
                  refine TL.nilCheck rfl rfl rfl ?_
                  refine TL.done ?_
                  exact TC.nrm () [] ⟨rfl, trivial⟩ [0] (by kernel_rfl)
                · intro b0_ b1_ b2_ b3_ b4_ g4
                  refine TL.asL [box b_3 38 [.arr 6 (enf u8v (sub (sub a_3 (x1.toNat * 36)) (x2.toNat * 6)))]] (by kernel_rfl) ?_
                  refine TL.fa Try.underlying43 rfl Try.sizeOf2 rfl 0 rfl rfl rfl rfl ?_
                  refine TL.done ?_
                  exact TC.nrm () [] ⟨rfl, trivial⟩ [0] (by kernel_rfl)
                · intro b0_ b1_ b2_ b3_ b4_ g4
                  refine TL.asL [box b_3 38 [.arr 6 (enf u8v (sub (sub a_3 (x1.toNat * 36)) (x2.toNat * 6)))]] (by kernel_rfl) ?_
                  refine TL.load1 0 (Src.at h1) Try.isAgg2 rfl rfl rfl rfl rfl ?_
                  refine TL.done ?_
                  exact TC.nrm () [] ⟨rfl, trivial⟩ [0] (by kernel_rfl)
                · intro g4
                  refine TL.asL [box b_3 38 [.arr 6 (enf u8v (sub (sub a_3 (x1.toNat * 36)) (x2.toNat * 6)))]] (by kernel_rfl) ?_
                  refine TL.callH (R := G.impl_isVector.R) hr1 Try.call158 rfl rfl rfl (fun w hS => G.impl_isVector.calls w (sub (sub a_3 (x1.toNat * 36)) (x2.toNat * 6)) a_2 a_1) ?_
                  rintro _ _ ⟨rfl, rfl⟩
                  refine TL.done ?_
                  exact TC.nrm () [] ⟨rfl, trivial⟩ [0] (by kernel_rfl)
                · intro g4
                  refine TL.not r_1 rfl rfl rfl ?_
                  refine TL.done ?_
                  exact TC.nrm () [] ⟨(by rw [c5]; rfl), trivial⟩ [0] (by kernel_rfl)
                · intro g4
                  refine TL.move rfl rfl (v := .bool false) rfl ?_
                  refine TL.done ?_
                  exact TC.nrm () [] ⟨rfl, trivial⟩ [0] (by kernel_rfl)
                · intro b13_ b14_ g4
                  refine TL.move rfl rfl (v := .int .i64 x1) rfl ?_
                  refine TL.done ?_
                  exact TC.nrm () [] ⟨rfl, trivial⟩ [0] (by kernel_rfl)
                · intro b12_ g4
                  refine TL.move rfl rfl (v := bp b_1 0) rfl ?_
                  refine TL.done ?_
                  exact TC.nrm () [] ⟨rfl, trivial⟩ [0] (by kernel_rfl)
                · intro b12_ g4
                  refine TL.asL [box b_3 38 [.arr 6 (enf u8v (sub (sub a_3 (x1.toNat * 36)) (x2.toNat * 6)))]] (by kernel_rfl) ?_
                  refine TL.callH (R := G.impl_Algebra_n.R) hr2 Try.call159 rfl rfl rfl (fun w hS => G.impl_Algebra_n.calls w b_1 a_1 a_2 a_3 a_4 ((Src.at h1) w hS)) ?_
                  rintro _ _ ⟨rfl, rfl⟩
                  refine TL.done ?_
                  exact TC.nrm () [] ⟨rfl, trivial⟩ [0] (by kernel_rfl)
                · intro g4
                  refine TL.bin .i64 x1 r_4 rfl rfl rfl rfl (v := .bool (decide (x1 ≥ r_4))) rfl ?_
                  refine TL.done ?_
                  exact TC.nrm () [] ⟨(by rw [c6]; rfl), trivial⟩ [0] (by kernel_rfl)
                · intro g4
                  refine TL.move rfl rfl (v := .bool true) rfl ?_
                  refine TL.done ?_
                  exact TC.nrm () [] ⟨rfl, trivial⟩ [0] (by kernel_rfl)
                · intro b18_ b19_ g4
                  refine TL.skip rfl rfl (by decide) ?_
                  refine TL.done ?_
                  exact TC.nrm () [] ⟨rfl, trivial⟩ [0] (by kernel_rfl)
                · intro b17_ g4
                  refine TL.skip rfl rfl (by decide) ?_
                  refine TL.done ?_
                  exact TC.nrm () [] ⟨rfl, trivial⟩ [0] (by kernel_rfl)
                · intro b17_ g4
                  refine TL.asL [box b_3 38 [.arr 6 (enf u8v (sub (sub a_3 (x1.toNat * 36)) (x2.toNat * 6)))]] (by kernel_rfl) ?_
                  refine TL.skip rfl rfl (by decide) ?_
                  refine TL.done ?_
                  exact TC.nrm () [] ⟨rfl, trivial⟩ [0] (by kernel_rfl)
                · intro g4
                  refine TL.skip rfl rfl (by decide) ?_
                  refine TL.done ?_
                  exact TC.nrm () [] ⟨rfl, trivial⟩ [0] (by kernel_rfl)
                · intro g4
                  refine TL.pick rfl rfl (b := true) rfl (r := .bool true) rfl ?_
                  refine TL.done ?_
                  exact TC.nrm () [] ⟨rfl, trivial⟩ [0] (by kernel_rfl)
                · intro g4
                  refine TL.move rfl rfl (v := .bool true) rfl ?_
                  refine TL.done ?_
                  exact TC.nrm () [] ⟨rfl, trivial⟩ [0] (by kernel_rfl)
                · intro b24_ g4
                  refine TL.asL [box b_3 38 [.arr 6 (enf u8v (sub (sub a_3 (x1.toNat * 36)) (x2.toNat * 6)))]] (by kernel_rfl) ?_
                  refine TL.loadM 0 1 (Src.box 0 rfl) Try.isAgg38 Try.sizeOf38 (mid := [.arr 6 (enf u8v (sub (sub a_3 (x1.toNat * 36)) (x2.toNat * 6)))]) rfl rfl rfl rfl rfl rfl ?_
                  refine TL.done ?_
                  exact TC.nrm () [] ⟨rfl, trivial⟩ [0] (by kernel_rfl)
                · intro b23_ g4
                  refine TL.asL [box b_3 38 [.arr 6 (enf u8v (sub (sub a_3 (x1.toNat * 36)) (x2.toNat * 6)))]] (by kernel_rfl) ?_
                  refine TL.buildA (segs0 := [.arr 6 (enf u8v (fun _ => (0 : UInt8)))]) (segs := [.arr 6 (enf u8v (fun _ => (0 : UInt8)))]) Try.underlying38 Try.sizeOf5 Try.zeroValue38 rfl [] rfl rfl rfl rfl ?_
                  refine TL.done ?_
                  exact TC.nrm () [] ⟨rfl, trivial⟩ [0] (by kernel_rfl)
                · intro g4
                  refine TL.neAu (sub (sub a_3 (x1.toNat * 36)) (x2.toNat * 6)) (fun _ => (0 : UInt8)) Try.underlying38 (info_of Try.type5) (by kernel_rfl) Try.underlying5 Try.isAgg5 (by kernel_rfl) rfl rfl rfl rfl ?_
                  refine TL.done ?_
                  exact TC.nrm () [] ⟨rfl, trivial⟩ [0] (by kernel_rfl)
                · intro g4
                  refine TL.pick rfl rfl (b := true) rfl (r := .bool (!((List.range 6).all fun i_ => (((sub (sub a_3 (x1.toNat * 36)) (x2.toNat * 6)) i_).toNat : Int) == (((fun _ => (0 : UInt8)) i_).toNat : Int)))) rfl ?_
                  refine TL.done ?_
                  exact TC.nrm () [] ⟨rfl, trivial⟩ [0] (by kernel_rfl)
                · intro g4
                  refine TL.pick rfl rfl (b := false) rfl (r := .bool (!((List.range 6).all fun i_ => (((sub (sub a_3 (x1.toNat * 36)) (x2.toNat * 6)) i_).toNat : Int) == (((fun _ => (0 : UInt8)) i_).toNat : Int)))) rfl ?_
                  refine TL.done ?_
                  exact TC.nrm () [] ⟨rfl, trivial⟩ [0] (by kernel_rfl)
              · intro g4
                refine TC.asL [box b_3 38 [.arr 6 (enf u8v (sub (sub a_3 (x1.toNat * 36)) (x2.toNat * 6)))]] (by kernel_rfl) ?_
                refine TC.cond (b := (!((List.range 6).all fun i_ => (((sub (sub a_3 (x1.toNat * 36)) (x2.toNat * 6)) i_).toNat : Int) == (((fun _ => (0 : UInt8)) i_).toNat : Int)))) rfl (fun c7 => ?_) (fun c8 => ?_)
                · refine TC.seq ?_
                  refine TC.region ?_
                  refine TL.assign rfl rfl (v := .bool false) rfl ?_
                  refine TL.done ?_
                  exact TC.retF (Fin.loop Far.ret (Fin.loop Far.ret (Fin.body (fin1 (.inr rfl) rfl (.tmp rfl) [] rfl ⟨rfl, rfl⟩))))
                · refine TC.skip ?_
                  refine TC.region ?_
                  refine TL.bin .i64 x2 1 rfl rfl rfl rfl (v := .int .i64 (w64 (x2 + 1))) rfl ?_
                  refine TL.move rfl rfl (v := .int .i64 (w64 (x2 + 1))) rfl ?_
                  refine TL.done ?_
                  exact TC.next ((w64 (x2 + 1))) (()) ⟨rfl, rfl, rfl, rfl, rfl, rfl, trivial⟩ [] rfl
            · refine TC.ifB (decide (x2 ≥ r_4)) (fun c9 => ?_) (fun c9 => ?_)
              · refine TC.wk (Γ' := [(0, bp b_1 0), (3, .int .i64 x1), (10, sval [.arr 216 (enf u8v a_3)]), (11, .int .i64 x1), (15, sval [.arr 36 (enf u8v (sub a_3 (x1.toNat * 36)))]), (16, .int .i64 x2), (17, .bool (decide (x2 < 6))), (18, .int .i64 x2), (19, sval [.arr 6 (enf u8v (sub (sub a_3 (x1.toNat * 36)) (x2.toNat * 6)))]), (6, bp b_3 0), (5, .int .i64 x2)]) ⟨rfl, rfl, rfl, rfl, rfl, rfl, rfl, rfl, rfl, rfl, rfl, trivial⟩ ?_
                refine TC.drawG [(0, bp b_1 0), (3, .int .i64 x1), (10, sval [.arr 216 (enf u8v a_3)]), (11, .int .i64 x1), (15, sval [.arr 36 (enf u8v (sub a_3 (x1.toNat * 36)))]), (16, .int .i64 x2), (17, .bool (decide (x2 < 6))), (18, .int .i64 x2), (19, sval [.arr 6 (enf u8v (sub (sub a_3 (x1.toNat * 36)) (x2.toNat * 6)))]), (6, bp b_3 0), (5, .int .i64 x2)] [] ⟨rfl, rfl, rfl, rfl, rfl, rfl, rfl, rfl, rfl, rfl, rfl, trivial⟩ trivial (fun l_ g6 => [box b_3 38 [.arr 6 (enf u8v (sub (sub a_3 (x1.toNat * 36)) (x2.toNat * 6)))]]) (fun g6 => [sval [.arr 6 (enf u8v (sub (sub a_3 (x1.toNat * 36)) (x2.toNat * 6)))], bp b_1 0, bp b_1 0, bp b_1 1, .int .i64 a_2, bp b_1 0, bp b_1 0, bp b_1 0, .int .i64 a_1, .bool r_1, .bool false, .bool false, .int .i64 x1, bp b_1 0, .int .i64 r_4, .bool false, .bool false, .int .i64 x2, bp b_1 0, .int .i64 r_4, .bool true, .bool true, .bool true, sval [.arr 6 (enf u8v (sub (sub a_3 (x1.toNat * 36)) (x2.toNat * 6)))], sval [.arr 6 (enf u8v (fun _ => (0 : UInt8)))], .bool (!((List.range 6).all fun i_ => (((sub (sub a_3 (x1.toNat * 36)) (x2.toNat * 6)) i_).toNat : Int) == (((fun _ => (0 : UInt8)) i_).toNat : Int))), .bool (!((List.range 6).all fun i_ => (((sub (sub a_3 (x1.toNat * 36)) (x2.toNat * 6)) i_).toNat : Int) == (((fun _ => (0 : UInt8)) i_).toNat : Int))), .bool (!((List.range 6).all fun i_ => (((sub (sub a_3 (x1.toNat * 36)) (x2.toNat * 6)) i_).toNat : Int) == (((fun _ => (0 : UInt8)) i_).toNat : Int)))]) [[], [], [1], [1, 2], [1, 2, 3], [], [5], [5, 6], [5, 6, 7], [0, 1, 2, 3, 4, 5, 6, 7, 8], [0, 1, 2, 3, 4, 5, 6, 7, 8, 9], [0, 1, 2, 3, 4, 5, 6, 7, 8, 9, 10], [0, 1, 2, 3, 4, 5, 6, 7, 8, 9, 10, 11], [0, 1, 2, 3, 4, 5, 6, 7, 8, 9, 10, 11], [0, 1, 2, 3, 4, 5, 6, 7, 8, 9, 10, 11, 13], [0, 1, 2, 3, 4, 5, 6, 7, 8, 9, 10, 11, 12, 13, 14], [0, 1, 2, 3, 4, 5, 6, 7, 8, 9, 10, 11, 12, 13, 14, 15], [0, 1, 2, 3, 4, 5, 6, 7, 8, 9, 10, 11, 12, 13, 14, 15, 16], [0, 1, 2, 3, 4, 5, 6, 7, 8, 9, 10, 11, 12, 13, 14, 15, 16], [0, 1, 2, 3, 4, 5, 6, 7, 8, 9, 10, 11, 12, 13, 14, 15, 16, 18], [0, 1, 2, 3, 4, 5, 6, 7, 8, 9, 10, 11, 12, 13, 14, 15, 16, 17, 18, 19], [0, 1, 2, 3, 4, 5, 6, 7, 8, 9, 10, 11, 12, 13, 14, 15, 16, 17, 18, 19, 20], [0, 1, 2, 3, 4, 5, 6, 7, 8, 9, 10, 11, 12, 13, 14, 15, 16, 17, 18, 19, 20, 21], [0, 1, 2, 3, 4, 5, 6, 7, 8, 9, 10, 11, 12, 13, 14, 15, 16, 17, 18, 19, 20, 21, 22], [0, 1, 2, 3, 4, 5, 6, 7, 8, 9, 10, 11, 12, 13, 14, 15, 16, 17, 18, 19, 20, 21, 22], [0, 1, 2, 3, 4, 5, 6, 7, 8, 9, 10, 11, 12, 13, 14, 15, 16, 17, 18, 19, 20, 21, 22, 23, 24], [0, 1, 2, 3, 4, 5, 6, 7, 8, 9, 10, 11, 12, 13, 14, 15, 16, 17, 18, 19, 20, 21, 22, 23, 24, 25], [0, 1, 2, 3, 4, 5, 6, 7, 8, 9, 10, 11, 12, 13, 14, 15, 16, 17, 18, 19, 20, 21, 22, 23, 24, 25, 26]] [[some false, none, none, none, none, none, none, none, none, some false, some false, some false, some false, some false, some false, some false, some false, some false, some false, some false, some false, some false, some false, some false, some false, some false, some false, some false], [none, some false, some false, some false, some false, none, none, none, none, some false, some false, some false, some false, some false, some false, some false, some false, some false, some false, some false, some false, some false, some false, some false, some false, some false, some false, some false], [none, some true, some false, some false, some false, none, none, none, none, some false, some false, some false, some false, some false, some false, some false, some false, some false, some false, some false, some false, some false, some false, some false, some false, some false, some false, some false], [none, some true, some true, some false, some false, none, none, none, none, some false, some false, some false, some false, some false, some false, some false, some false, some false, some false, some false, some false, some false, some false, some false, some false, some false, some false, some false], [none, some true, some true, some true, some false, none, none, none, none, some false, some false, some false, some false, some false, some false, some false, some false, some false, some false, some false, some false, some false, some false, some false, some false, some false, some false, some false], [none, none, none, none, none, some false, some false, some false, some false, some false, some false, some false, some false, some false, some false, some false, some false, some false, some false, some false, some false, some false, some false, some false, some false, some false, some false, some false], [none, none, none, none, none, some true, some false, some false, some false, some false, some false, some false, some false, some false, some false, some false, some false, some false, some false, some false, some false, some false, some false, some false, some false, some false, some false, some false], [none, none, none, none, none, some true, some true, some false, some false, some false, some false, some false, some false, some false, some false, some false, some false, some false, some false, some false, some false, some false, some false, some false, some false, some false, some false, some false], [none, none, none, none, none, some true, some true, some true, some false, some false, some false, some false, some false, some false, some false, some false, some false, some false, some false, some false, some false, some false, some false, some false, some false, some false, some false, some false], [some true, some true, some true, some true, some true, some true, some true, some true, some true, some false, some false, some false, some false, some false, some false, some false, some false, some false, some false, some false, some false, some false, some false, some false, some false, some false, some false, some false], [some true, some true, some true, some true, some true, some true, some true, some true, some true, some true, some false, some false, some false, some false, some false, some false, some false, some false, some false, some false, some false, some false, some false, some false, some false, some false, some false, some false], [some true, some true, some true, some true, some true, some true, some true, some true, some true, some true, some true, some false, some false, some false, some false, some false, some false, some false, some false, some false, some false, some false, some false, some false, some false, some false, some false, some false], [some true, some true, some true, some true, some true, some true, some true, some true, some true, some true, some true, some true, some false, none, none, some false, some false, some false, some false, some false, some false, some false, some false, some false, some false, some false, some false, some false], [some true, some true, some true, some true, some true, some true, some true, some true, some true, some true, some true, some true, none, some false, some false, some false, some false, some false, some false, some false, some false, some false, some false, some false, some false, some false, some false, some false], [some true, some true, some true, some true, some true, some true, some true, some true, some true, some true, some true, some true, none, some true, some false, some false, some false, some false, some false, some false, some false, some false, some false, some false, some false, some false, some false, some false], [some true, some true, some true, some true, some true, some true, some true, some true, some true, some true, some true, some true, some true, some true, some true, some false, some false, some false, some false, some false, some false, some false, some false, some false, some false, some false, some false, some false], [some true, some true, some true, some true, some true, some true, some true, some true, some true, some true, some true, some true, some true, some true, some true, some true, some false, some false, some false, some false, some false, some false, some false, some false, some false, some false, some false, some false], [some true, some true, some true, some true, some true, some true, some true, some true, some true, some true, some true, some true, some true, some true, some true, some true, some true, some false, none, none, some false, some false, some false, some false, some false, some false, some false, some false], [some true, some true, some true, some true, some true, some true, some true, some true, some true, some true, some true, some true, some true, some true, some true, some true, some true, none, some false, some false, some false, some false, some false, some false, some false, some false, some false, some false], [some true, some true, some true, some true, some true, some true, some true, some true, some true, some true, some true, some true, some true, some true, some true, some true, some true, none, some true, some false, some false, some false, some false, some false, some false, some false, some false, some false], [some true, some true, some true, some true, some true, some true, some true, some true, some true, some true, some true, some true, some true, some true, some true, some true, some true, some true, some true, some true, some false, some false, some false, some false, some false, some false, some false, some false], [some true, some true, some true, some true, some true, some true, some true, some true, some true, some true, some true, some true, some true, some true, some true, some true, some true, some true, some true, some true, some true, some false, some false, some false, some false, some false, some false, some false], [some true, some true, some true, some true, some true, some true, some true, some true, some true, some true, some true, some true, some true, some true, some true, some true, some true, some true, some true, some true, some true, some true, some false, some false, some false, some false, some false, some false], [some true, some true, some true, some true, some true, some true, some true, some true, some true, some true, some true, some true, some true, some true, some true, some true, some true, some true, some true, some true, some true, some true, some true, some false, none, some false, some false, some false], [some true, some true, some true, some true, some true, some true, some true, some true, some true, some true, some true, some true, some true, some true, some true, some true, some true, some true, some true, some true, some true, some true, some true, none, some false, some false, some false, some false], [some true, some true, some true, some true, some true, some true, some true, some true, some true, some true, some true, some true, some true, some true, some true, some true, some true, some true, some true, some true, some true, some true, some true, some true, some true, some false, some false, some false], [some true, some true, some true, some true, some true, some true, some true, some true, some true, some true, some true, some true, some true, some true, some true, some true, some true, some true, some true, some true, some true, some true, some true, some true, some true, some true, some false, some false], [some true, some true, some true, some true, some true, some true, some true, some true, some true, some true, some true, some true, some true, some true, some true, some true, some true, some true, some true, some true, some true, some true, some true, some true, some true, some true, some true, some false]] (by kernel_rfl) (fun _ => rfl) rfl rfl rfl rfl rfl (fun _ _ => ⟨⟨⟨⟨⟨⟨⟨⟨⟨⟨⟨⟨⟨⟨⟨⟨⟨⟨⟨⟨⟨⟨⟨⟨⟨⟨⟨⟨trivial, rfl⟩, rfl⟩, rfl⟩, rfl⟩, rfl⟩, rfl⟩, rfl⟩, rfl⟩, rfl⟩, rfl⟩, rfl⟩, rfl⟩, rfl⟩, rfl⟩, rfl⟩, rfl⟩, rfl⟩, rfl⟩, rfl⟩, rfl⟩, rfl⟩, rfl⟩, rfl⟩, rfl⟩, rfl⟩, rfl⟩, rfl⟩, rfl⟩) 0 [0] (fun _ => by kernel_rfl) ?_ ?_
                · refine ⟨rfl, ?_, rfl, ?_, rfl, ?_, rfl, ?_, rfl, ?_, rfl, ?_, rfl, ?_, rfl, ?_, rfl, ?_, rfl, ?_, rfl, ?_, rfl, ?_, rfl, ?_, rfl, ?_, rfl, ?_, rfl, ?_, rfl, ?_, rfl, ?_, rfl, ?_, rfl, ?_, rfl, ?_, rfl, ?_, rfl, ?_, rfl, ?_, rfl, ?_, rfl, ?_, rfl, ?_, rfl, ?_, trivial⟩
                  · intro b1_ b2_ b3_ b4_ b5_ b6_ b7_ b8_ g6
                    refine TL.asL [box b_3 38 [.arr 6 (enf u8v (sub (sub a_3 (x1.toNat * 36)) (x2.toNat * 6)))]] (by kernel_rfl) ?_
                    refine TL.loadM 0 1 (Src.box 0 rfl) Try.isAgg38 Try.sizeOf38 (mid := [.arr 6 (enf u8v (sub (sub a_3 (x1.toNat * 36)) (x2.toNat * 6)))]) rfl rfl rfl rfl rfl rfl ?_
                    refine TL.done ?_
                    exact TC.nrm () [] ⟨rfl, trivial⟩ [0] (by kernel_rfl)
                  · intro b0_ b5_ b6_ b7_ b8_ g6
                    refine TL.move rfl rfl (v := bp b_1 0) rfl ?_
                    refine TL.done ?_
                    exact TC.nrm () [] ⟨rfl, trivial⟩ [0] (by kernel_rfl)
                  · intro b0_ b5_ b6_ b7_ b8_ g6
                    refine TL.nilCheck rfl rfl rfl ?_
                    refine TL.done ?_
                    exact TC.nrm () [] ⟨rfl, trivial⟩ [0] (by kernel_rfl)
                  · intro b0_ b5_ b6_ b7_ b8_ g6
                    refine TL.asL [box b_3 38 [.arr 6 (enf u8v (sub (sub a_3 (x1.toNat * 36)) (x2.toNat * 6)))]] (by kernel_rfl) ?_
                    refine TL.fa Try.underlying43 rfl Try.sizeOf2 rfl 1 rfl rfl rfl rfl ?_
                    refine TL.done ?_
                    exact TC.nrm () [] ⟨rfl, trivial⟩ [0] (by kernel_rfl)
                  · intro b0_ b5_ b6_ b7_ b8_ g6
                    refine TL.asL [box b_3 38 [.arr 6 (enf u8v (sub (sub a_3 (x1.toNat * 36)) (x2.toNat * 6)))]] (by kernel_rfl) ?_
                    refine TL.load1 1 (Src.at h1) Try.isAgg2 rfl rfl rfl rfl rfl ?_
                    refine TL.done ?_
                    exact TC.nrm () [] ⟨rfl, trivial⟩ [0] (by kernel_rfl)
                  · intro b0_ b1_ b2_ b3_ b4_ g6
                    refine TL.move rfl rfl (v := bp b_1 0) rfl ?_
                    refine TL.done ?_
                    exact TC.nrm () [] ⟨rfl, trivial⟩ [0] (by kernel_rfl)
                  · intro b0_ b1_ b2_ b3_ b4_ g6
                    refine TL.nilCheck rfl rfl rfl ?_
                    refine TL.done ?_
                    exact TC.nrm () [] ⟨rfl, trivial⟩ [0] (by kernel_rfl)
                  · intro b0_ b1_ b2_ b3_ b4_ g6
                    refine TL.asL [box b_3 38 [.arr 6 (enf u8v (sub (sub a_3 (x1.toNat * 36)) (x2.toNat * 6)))]] (by kernel_rfl) ?_
                    refine TL.fa Try.underlying43 rfl Try.sizeOf2 rfl 0 rfl rfl rfl rfl ?_
                    refine TL.done ?_
                    exact TC.nrm () [] ⟨rfl, trivial⟩ [0] (by kernel_rfl)
                  · intro b0_ b1_ b2_ b3_ b4_ g6
                    refine TL.asL [box b_3 38 [.arr 6 (enf u8v (sub (sub a_3 (x1.toNat * 36)) (x2.toNat * 6)))]] (by kernel_rfl) ?_
                    refine TL.load1 0 (Src.at h1) Try.isAgg2 rfl rfl rfl rfl rfl ?_
                    refine TL.done ?_
                    exact TC.nrm () [] ⟨rfl, trivial⟩ [0] (by kernel_rfl)
                  · intro g6
                    refine TL.asL [box b_3 38 [.arr 6 (enf u8v (sub (sub a_3 (x1.toNat * 36)) (x2.toNat * 6)))]] (by kernel_rfl) ?_
                    refine TL.callH (R := G.impl_isVector.R) hr1 Try.call158 rfl rfl rfl (fun w hS => G.impl_isVector.calls w (sub (sub a_3 (x1.toNat * 36)) (x2.toNat * 6)) a_2 a_1) ?_
                    rintro _ _ ⟨rfl, rfl⟩
                    refine TL.done ?_
                    exact TC.nrm () [] ⟨rfl, trivial⟩ [0] (by kernel_rfl)
                  · intro g6
                    refine TL.not r_1 rfl rfl rfl ?_
                    refine TL.done ?_
                    exact TC.nrm () [] ⟨(by rw [c5]; rfl), trivial⟩ [0] (by kernel_rfl)
                  · intro g6
                    refine TL.move rfl rfl (v := .bool false) rfl ?_
                    refine TL.done ?_
                    exact TC.nrm () [] ⟨rfl, trivial⟩ [0] (by kernel_rfl)
                  · intro b13_ b14_ g6
                    refine TL.move rfl rfl (v := .int .i64 x1) rfl ?_
                    refine TL.done ?_
                    exact TC.nrm () [] ⟨rfl, trivial⟩ [0] (by kernel_rfl)
                  · intro b12_ g6
                    refine TL.move rfl rfl (v := bp b_1 0) rfl ?_
                    refine TL.done ?_
                    exact TC.nrm () [] ⟨rfl, trivial⟩ [0] (by kernel_rfl)
                  · intro b12_ g6
                    refine TL.asL [box b_3 38 [.arr 6 (enf u8v (sub (sub a_3 (x1.toNat * 36)) (x2.toNat * 6)))]] (by kernel_rfl) ?_
                    refine TL.callH (R := G.impl_Algebra_n.R) hr2 Try.call159 rfl rfl rfl (fun w hS => G.impl_Algebra_n.calls w b_1 a_1 a_2 a_3 a_4 ((Src.at h1) w hS)) ?_
                    rintro _ _ ⟨rfl, rfl⟩
                    refine TL.done ?_
                    exact TC.nrm () [] ⟨rfl, trivial⟩ [0] (by kernel_rfl)
                  · intro g6
                    refine TL.bin .i64 x1 r_4 rfl rfl rfl rfl (v := .bool (decide (x1 ≥ r_4))) rfl ?_
                    refine TL.done ?_
                    exact TC.nrm () [] ⟨(by rw [c6]; rfl), trivial⟩ [0] (by kernel_rfl)
                  · intro g6
                    refine TL.move rfl rfl (v := .bool false) rfl ?_
                    refine TL.done ?_
                    exact TC.nrm () [] ⟨rfl, trivial⟩ [0] (by kernel_rfl)
                  · intro b18_ b19_ g6
                    refine TL.move rfl rfl (v := .int .i64 x2) rfl ?_
                    refine TL.done ?_
                    exact TC.nrm () [] ⟨rfl, trivial⟩ [0] (by kernel_rfl)
                  · intro b17_ g6
                    refine TL.move rfl rfl (v := bp b_1 0) rfl ?_
                    refine TL.done ?_
                    exact TC.nrm () [] ⟨rfl, trivial⟩ [0] (by kernel_rfl)
                  · intro b17_ g6
                    refine TL.asL [box b_3 38 [.arr 6 (enf u8v (sub (sub a_3 (x1.toNat * 36)) (x2.toNat * 6)))]] (by kernel_rfl) ?_
                    refine TL.callH (R := G.impl_Algebra_n.R) hr2 Try.call159 rfl rfl rfl (fun w hS => G.impl_Algebra_n.calls w b_1 a_1 a_2 a_3 a_4 ((Src.at h1) w hS)) ?_
                    rintro _ _ ⟨rfl, rfl⟩
                    refine TL.done ?_
                    exact TC.nrm () [] ⟨rfl, trivial⟩ [0] (by kernel_rfl)
                  · intro g6
                    refine TL.bin .i64 x2 r_4 rfl rfl rfl rfl (v := .bool (decide (x2 ≥ r_4))) rfl ?_
                    refine TL.done ?_
                    exact TC.nrm () [] ⟨(by rw [c9]; rfl), trivial⟩ [0] (by kernel_rfl)
                  · intro g6
                    refine TL.pick rfl rfl (b := false) rfl (r := .bool true) rfl ?_
                    refine TL.done ?_
                    exact TC.nrm () [] ⟨rfl, trivial⟩ [0] (by kernel_rfl)
                  · intro g6
                    refine TL.move rfl rfl (v := .bool true) rfl ?_
                    refine TL.done ?_
                    exact TC.nrm () [] ⟨rfl, trivial⟩ [0] (by kernel_rfl)
                  · intro b24_ g6
                    refine TL.asL [box b_3 38 [.arr 6 (enf u8v (sub (sub a_3 (x1.toNat * 36)) (x2.toNat * 6)))]] (by kernel_rfl) ?_
                    refine TL.loadM 0 1 (Src.box 0 rfl) Try.isAgg38 Try.sizeOf38 (mid := [.arr 6 (enf u8v (sub (sub a_3 (x1.toNat * 36)) (x2.toNat * 6)))]) rfl rfl rfl rfl rfl rfl ?_
                    refine TL.done ?_
                    exact TC.nrm () [] ⟨rfl, trivial⟩ [0] (by kernel_rfl)
                  · intro b23_ g6
                    refine TL.asL [box b_3 38 [.arr 6 (enf u8v (sub (sub a_3 (x1.toNat * 36)) (x2.toNat * 6)))]] (by kernel_rfl) ?_
                    refine TL.buildA (segs0 := [.arr 6 (enf u8v (fun _ => (0 : UInt8)))]) (segs := [.arr 6 (enf u8v (fun _ => (0 : UInt8)))]) Try.underlying38 Try.sizeOf5 Try.zeroValue38 rfl [] rfl rfl rfl rfl ?_
                    refine TL.done ?_
                    exact TC.nrm () [] ⟨rfl, trivial⟩ [0] (by kernel_rfl)
                  · intro g6
                    refine TL.neAu (sub (sub a_3 (x1.toNat * 36)) (x2.toNat * 6)) (fun _ => (0 : UInt8)) Try.underlying38 (info_of Try.type5) (by kernel_rfl) Try.underlying5 Try.isAgg5 (by kernel_rfl) rfl rfl rfl rfl ?_
                    refine TL.done ?_
                    exact TC.nrm () [] ⟨rfl, trivial⟩ [0] (by kernel_rfl)
                  · intro g6
                    refine TL.pick rfl rfl (b := true) rfl (r := .bool (!((List.range 6).all fun i_ => (((sub (sub a_3 (x1.toNat * 36)) (x2.toNat * 6)) i_).toNat : Int) == (((fun _ => (0 : UInt8)) i_).toNat : Int)))) rfl ?_
                    refine TL.done ?_
                    exact TC.nrm () [] ⟨rfl, trivial⟩ [0] (by kernel_rfl)
                  · intro g6
                    refine TL.pick rfl rfl (b := false) rfl (r := .bool (!((List.range 6).all fun i_ => (((sub (sub a_3 (x1.toNat * 36)) (x2.toNat * 6)) i_).toNat : Int) == (((fun _ => (0 : UInt8)) i_).toNat : Int)))) rfl ?_
                    refine TL.done ?_
                    exact TC.nrm () [] ⟨rfl, trivial⟩ [0] (by kernel_rfl)
                · intro g6
                  refine TC.asL [box b_3 38 [.arr 6 (enf u8v (sub (sub a_3 (x1.toNat * 36)) (x2.toNat * 6)))]] (by kernel_rfl) ?_
                  refine TC.cond (b := (!((List.range 6).all fun i_ => (((sub (sub a_3 (x1.toNat * 36)) (x2.toNat * 6)) i_).toNat : Int) == (((fun _ => (0 : UInt8)) i_).toNat : Int)))) rfl (fun c10 => ?_) (fun c11 => ?_)
                  · refine TC.seq ?_
                    refine TC.region ?_
                    refine TL.assign rfl rfl (v := .bool false) rfl ?_
                    refine TL.done ?_
                    exact TC.retF (Fin.loop Far.ret (Fin.loop Far.ret (Fin.body (fin1 (.inr rfl) rfl (.tmp rfl) [] rfl ⟨rfl, rfl⟩))))
                  · refine TC.skip ?_
                    refine TC.region ?_
                    refine TL.bin .i64 x2 1 rfl rfl rfl rfl (v := .int .i64 (w64 (x2 + 1))) rfl ?_
                    refine TL.move rfl rfl (v := .int .i64 (w64 (x2 + 1))) rfl ?_
                    refine TL.done ?_
                    exact TC.next ((w64 (x2 + 1))) (()) ⟨rfl, rfl, rfl, rfl, rfl, rfl, trivial⟩ [] rfl
              · refine TC.wk (Γ' := [(0, bp b_1 0), (3, .int .i64 x1), (10, sval [.arr 216 (enf u8v a_3)]), (11, .int .i64 x1), (15, sval [.arr 36 (enf u8v (sub a_3 (x1.toNat * 36)))]), (16, .int .i64 x2), (17, .bool (decide (x2 < 6))), (18, .int .i64 x2), (19, sval [.arr 6 (enf u8v (sub (sub a_3 (x1.toNat * 36)) (x2.toNat * 6)))]), (6, bp b_3 0), (5, .int .i64 x2)]) ⟨rfl, rfl, rfl, rfl, rfl, rfl, rfl, rfl, rfl, rfl, rfl, trivial⟩ ?_
                refine TC.drawG [(0, bp b_1 0), (3, .int .i64 x1), (10, sval [.arr 216 (enf u8v a_3)]), (11, .int .i64 x1), (15, sval [.arr 36 (enf u8v (sub a_3 (x1.toNat * 36)))]), (16, .int .i64 x2), (17, .bool (decide (x2 < 6))), (18, .int .i64 x2), (19, sval [.arr 6 (enf u8v (sub (sub a_3 (x1.toNat * 36)) (x2.toNat * 6)))]), (6, bp b_3 0), (5, .int .i64 x2)] [] ⟨rfl, rfl, rfl, rfl, rfl, rfl, rfl, rfl, rfl, rfl, rfl, trivial⟩ trivial (fun l_ g7 => [box b_3 38 [.arr 6 (enf u8v (sub (sub a_3 (x1.toNat * 36)) (x2.toNat * 6)))]]) (fun g7 => [sval [.arr 6 (enf u8v (sub (sub a_3 (x1.toNat * 36)) (x2.toNat * 6)))], bp b_1 0, bp b_1 0, bp b_1 1, .int .i64 a_2, bp b_1 0, bp b_1 0, bp b_1 0, .int .i64 a_1, .bool r_1, .bool false, .bool false, .int .i64 x1, bp b_1 0, .int .i64 r_4, .bool false, .bool false, .int .i64 x2, bp b_1 0, .int .i64 r_4, .bool false, .bool false, .bool false, undef, undef, undef, .bool false, .bool false]) [[], [], [1], [1, 2], [1, 2, 3], [], [5], [5, 6], [5, 6, 7], [0, 1, 2, 3, 4, 5, 6, 7, 8], [0, 1, 2, 3, 4, 5, 6, 7, 8, 9], [0, 1, 2, 3, 4, 5, 6, 7, 8, 9, 10], [0, 1, 2, 3, 4, 5, 6, 7, 8, 9, 10, 11], [0, 1, 2, 3, 4, 5, 6, 7, 8, 9, 10, 11], [0, 1, 2, 3, 4, 5, 6, 7, 8, 9, 10, 11, 13], [0, 1, 2, 3, 4, 5, 6, 7, 8, 9, 10, 11, 12, 13, 14], [0, 1, 2, 3, 4, 5, 6, 7, 8, 9, 10, 11, 12, 13, 14, 15], [0, 1, 2, 3, 4, 5, 6, 7, 8, 9, 10, 11, 12, 13, 14, 15, 16], [0, 1, 2, 3, 4, 5, 6, 7, 8, 9, 10, 11, 12, 13, 14, 15, 16], [0, 1, 2, 3, 4, 5, 6, 7, 8, 9, 10, 11, 12, 13, 14, 15, 16, 18], [0, 1, 2, 3, 4, 5, 6, 7, 8, 9, 10, 11, 12, 13, 14, 15, 16, 17, 18, 19], [0, 1, 2, 3, 4, 5, 6, 7, 8, 9, 10, 11, 12, 13, 14, 15, 16, 17, 18, 19, 20], [0, 1, 2, 3, 4, 5, 6, 7, 8, 9, 10, 11, 12, 13, 14, 15, 16, 17, 18, 19, 20, 21], [0, 1, 2, 3, 4, 5, 6, 7, 8, 9, 10, 11, 12, 13, 14, 15, 16, 17, 18, 19, 20, 21, 22], [0, 1, 2, 3, 4, 5, 6, 7, 8, 9, 10, 11, 12, 13, 14, 15, 16, 17, 18, 19, 20, 21, 22], [0, 1, 2, 3, 4, 5, 6, 7, 8, 9, 10, 11, 12, 13, 14, 15, 16, 17, 18, 19, 20, 21, 22, 23, 24], [0, 1, 2, 3, 4, 5, 6, 7, 8, 9, 10, 11, 12, 13, 14, 15, 16, 17, 18, 19, 20, 21, 22, 23, 24, 25], [0, 1, 2, 3, 4, 5, 6, 7, 8, 9, 10, 11, 12, 13, 14, 15, 16, 17, 18, 19, 20, 21, 22, 23, 24, 25, 26]] [[some false, none, none, none, none, none, none, none, none, some false, some false, some false, some false, some false, some false, some false, some false, some false, some false, some false, some false, some false, some false, some false, some false, some false, some false, some false], [none, some false, some false, some false, some false, none, none, none, none, some false, some false, some false, some false, some false, some false, some false, some false, some false, some false, some false, some false, some false, some false, some false, some false, some false, some false, some false], [none, some true, some false, some false, some false, none, none, none, none, some false, some false, some false, some false, some false, some false, some false, some false, some false, some false, some false, some false, some false, some false, some false, some false, some false, some false, some false], [none, some true, some true, some false, some false, none, none, none, none, some false, some false, some false, some false, some false, some false, some false, some false, some false, some false, some false, some false, some false, some false, some false, some false, some false, some false, some false], [none, some true, some true, some true, some false, none, none, none, none, some false, some false, some false, some false, some false, some false, some false, some false, some false, some false, some false, some false, some false, some false, some false, some false, some false, some false, some false], [none, none, none, none, none, some false, some false, some false, some false, some false, some false, some false, some false, some false, some false, some false, some false, some false, some false, some false, some false, some false, some false, some false, some false, some false, some false, some false], [none, none, none, none, none, some true, some false, some false, some false, some false, some false, some false, some false, some false, some false, some false, some false, some false, some false, some false, some false, some false, some false, some false, some false, some false, some false, some false], [none, none, none, none, none, some true, some true, some false, some false, some false, some false, some false, some false, some false, some false, some false, some false, some false, some false, some false, some false, some false, some false, some false, some false, some false, some false, some false], [none, none, none, none, none, some true, some true, some true, some false, some false, some false, some false, some false, some false, some false, some false, some false, some false, some false, some false, some false, some false, some false, some false, some false, some false, some false, some false], [some true, some true, some true, some true, some true, some true, some true, some true, some true, some false, some false, some false, some false, some false, some false, some false, some false, some false, some false, some false, some false, some false, some false, some false, some false, some false, some false, some false], [some true, some true, some true, some true, some true, some true, some true, some true, some true, some true, some false, some false, some false, some false, some false, some false, some false, some false, some false, some false, some false, some false, some false, some false, some false, some false, some false, some false], [some true, some true, some true, some true, some true, some true, some true, some true, some true, some true, some true, some false, some false, some false, some false, some false, some false, some false, some false, some false, some false, some false, some false, some false, some false, some false, some false, some false], [some true, some true, some true, some true, some true, some true, some true, some true, some true, some true, some true, some true, some false, none, none, some false, some false, some false, some false, some false, some false, some false, some false, some false, some false, some false, some false, some false], [some true, some true, some true, some true, some true, some true, some true, some true, some true, some true, some true, some true, none, some false, some false, some false, some false, some false, some false, some false, some false, some false, some false, some false, some false, some false, some false, some false], [some true, some true, some true, some true, some true, some true, some true, some true, some true, some true, some true, some true, none, some true, some false, some false, some false, some false, some false, some false, some false, some false, some false, some false, some false, some false, some false, some false], [some true, some true, some true, some true, some true, some true, some true, some true, some true, some true, some true, some true, some true, some true, some true, some false, some false, some false, some false, some false, some false, some false, some false, some false, some false, some false, some false, some false], [some true, some true, some true, some true, some true, some true, some true, some true, some true, some true, some true, some true, some true, some true, some true, some true, some false, some false, some false, some false, some false, some false, some false, some false, some false, some false, some false, some false], [some true, some true, some true, some true, some true, some true, some true, some true, some true, some true, some true, some true, some true, some true, some true, some true, some true, some false, none, none, some false, some false, some false, some false, some false, some false, some false, some false], [some true, some true, some true, some true, some true, some true, some true, some true, some true, some true, some true, some true, some true, some true, some true, some true, some true, none, some false, some false, some false, some false, some false, some false, some false, some false, some false, some false], [some true, some true, some true, some true, some true, some true, some true, some true, some true, some true, some true, some true, some true, some true, some true, some true, some true, none, some true, some false, some false, some false, some false, some false, some false, some false, some false, some false], [some true, some true, some true, some true, some true, some true, some true, some true, some true, some true, some true, some true, some true, some true, some true, some true, some true, some true, some true, some true, some false, some false, some false, some false, some false, some false, some false, some false], [some true, some true, some true, some true, some true, some true, some true, some true, some true, some true, some true, some true, some true, some true, some true, some true, some true, some true, some true, some true, some true, some false, some false, some false, some false, some false, some false, some false], [some true, some true, some true, some true, some true, some true, some true, some true, some true, some true, some true, some true, some true, some true, some true, some true, some true, some true, some true, some true, some true, some true, some false, some false, some false, some false, some false, some false], [some true, some true, some true, some true, some true, some true, some true, some true, some true, some true, some true, some true, some true, some true, some true, some true, some true, some true, some true, some true, some true, some true, some true, some false, none, some false, some false, some false], [some true, some true, some true, some true, some true, some true, some true, some true, some true, some true, some true, some true, some true, some true, some true, some true, some true, some true, some true, some true, some true, some true, some true, none, some false, some false, some false, some false], [some true, some true, some true, some true, some true, some true, some true, some true, some true, some true, some true, some true, some true, some true, some true, some true, some true, some true, some true, some true, some true, some true, some true, some true, some true, some false, some false, some false], [some true, some true, some true, some true, some true, some true, some true, some true, some true, some true, some true, some true, some true, some true, some true, some true, some true, some true, some true, some true, some true, some true, some true, some true, some true, some true, some false, some false], [some true, some true, some true, some true, some true, some true, some true, some true, some true, some true, some true, some true, some true, some true, some true, some true, some true, some true, some true, some true, some true, some true, some true, some true, some true, some true, some true, some false]] (by kernel_rfl) (fun _ => rfl) rfl rfl rfl rfl rfl (fun _ _ => ⟨⟨⟨⟨⟨⟨⟨⟨⟨⟨⟨⟨⟨⟨⟨⟨⟨⟨⟨⟨⟨⟨⟨⟨⟨⟨⟨⟨trivial, rfl⟩, rfl⟩, rfl⟩, rfl⟩, rfl⟩, rfl⟩, rfl⟩, rfl⟩, rfl⟩, rfl⟩, rfl⟩, rfl⟩, rfl⟩, rfl⟩, rfl⟩, rfl⟩, rfl⟩, rfl⟩, rfl⟩, rfl⟩, rfl⟩, rfl⟩, rfl⟩, rfl⟩, rfl⟩, rfl⟩, rfl⟩, rfl⟩) 0 [0] (fun _ => by kernel_rfl) ?_ ?_
                · refine ⟨rfl, ?_, rfl, ?_, rfl, ?_, rfl, ?_, rfl, ?_, rfl, ?_, rfl, ?_, rfl, ?_, rfl, ?_, rfl, ?_, rfl, ?_, rfl, ?_, rfl, ?_, rfl, ?_, rfl, ?_, rfl, ?_, rfl, ?_, rfl, ?_, rfl, ?_, rfl, ?_, rfl, ?_, rfl, ?_, rfl, ?_, rfl, ?_, rfl, ?_, rfl, ?_, rfl, ?_, rfl, ?_, trivial⟩
                  · intro b1_ b2_ b3_ b4_ b5_ b6_ b7_ b8_ g7
                    refine TL.asL [box b_3 38 [.arr 6 (enf u8v (sub (sub a_3 (x1.toNat * 36)) (x2.toNat * 6)))]] (by kernel_rfl) ?_
                    refine TL.loadM 0 1 (Src.box 0 rfl) Try.isAgg38 Try.sizeOf38 (mid := [.arr 6 (enf u8v (sub (sub a_3 (x1.toNat * 36)) (x2.toNat * 6)))]) rfl rfl rfl rfl rfl rfl ?_
                    refine TL.done ?_
                    exact TC.nrm () [] ⟨rfl, trivial⟩ [0] (by kernel_rfl)
                  · intro b0_ b5_ b6_ b7_ b8_ g7
                    refine TL.move rfl rfl (v := bp b_1 0) rfl ?_
                    refine TL.done ?_
                    exact TC.nrm () [] ⟨rfl, trivial⟩ [0] (by kernel_rfl)
                  · intro b0_ b5_ b6_ b7_ b8_ g7
                    refine TL.nilCheck rfl rfl rfl ?_
                    refine TL.done ?_
                    exact TC.nrm () [] ⟨rfl, trivial⟩ [0] (by kernel_rfl)
                  · intro b0_ b5_ b6_ b7_ b8_ g7
                    refine TL.asL [box b_3 38 [.arr 6 (enf u8v (sub (sub a_3 (x1.toNat * 36)) (x2.toNat * 6)))]] (by kernel_rfl) ?_
                    refine TL.fa Try.underlying43 rfl Try.sizeOf2 rfl 1 rfl rfl rfl rfl ?_
                    refine TL.done ?_
                    exact TC.nrm () [] ⟨rfl, trivial⟩ [0] (by kernel_rfl)
                  · intro b0_ b5_ b6_ b7_ b8_ g7
                    refine TL.asL [box b_3 38 [.arr 6 (enf u8v (sub (sub a_3 (x1.toNat * 36)) (x2.toNat * 6)))]] (by kernel_rfl) ?_
                    refine TL.load1 1 (Src.at h1) Try.isAgg2 rfl rfl rfl rfl rfl ?_
                    refine TL.done ?_
                    exact TC.nrm () [] ⟨rfl, trivial⟩ [0] (by kernel_rfl)
                  · intro b0_ b1_ b2_ b3_ b4_ g7
                    refine TL.move rfl rfl (v := bp b_1 0) rfl ?_
                    refine TL.done ?_
                    exact TC.nrm () [] ⟨rfl, trivial⟩ [0] (by kernel_rfl)
                  · intro b0_ b1_ b2_ b3_ b4_ g7
                    refine TL.nilCheck rfl rfl rfl ?_
                    refine TL.done ?_
                    exact TC.nrm () [] ⟨rfl, trivial⟩ [0] (by kernel_rfl)
                  · intro b0_ b1_ b2_ b3_ b4_ g7
                    refine TL.asL [box b_3 38 [.arr 6 (enf u8v (sub (sub a_3 (x1.toNat * 36)) (x2.toNat * 6)))]] (by kernel_rfl) ?_
                    refine TL.fa Try.underlying43 rfl Try.sizeOf2 rfl 0 rfl rfl rfl rfl ?_
                    refine TL.done ?_
                    exact TC.nrm () [] ⟨rfl, trivial⟩ [0] (by kernel_rfl)
                  · intro b0_ b1_ b2_ b3_ b4_ g7
                    refine TL.asL [box b_3 38 [.arr 6 (enf u8v (sub (sub a_3 (x1.toNat * 36)) (x2.toNat * 6)))]] (by kernel_rfl) ?_
                    refine TL.load1 0 (Src.at h1) Try.isAgg2 rfl rfl rfl rfl rfl ?_
                    refine TL.done ?_
                    exact TC.nrm () [] ⟨rfl, trivial⟩ [0] (by kernel_rfl)
                  · intro g7
                    refine TL.asL [box b_3 38 [.arr 6 (enf u8v (sub (sub a_3 (x1.toNat * 36)) (x2.toNat * 6)))]] (by kernel_rfl) ?_
                    refine TL.callH (R := G.impl_isVector.R) hr1 Try.call158 rfl rfl rfl (fun w hS => G.impl_isVector.calls w (sub (sub a_3 (x1.toNat * 36)) (x2.toNat * 6)) a_2 a_1) ?_
                    rintro _ _ ⟨rfl, rfl⟩
                    refine TL.done ?_
                    exact TC.nrm () [] ⟨rfl, trivial⟩ [0] (by kernel_rfl)
                  · intro g7
                    refine TL.not r_1 rfl rfl rfl ?_
                    refine TL.done ?_
                    exact TC.nrm () [] ⟨(by rw [c5]; rfl), trivial⟩ [0] (by kernel_rfl)
                  · intro g7
                    refine TL.move rfl rfl (v := .bool false) rfl ?_
                    refine TL.done ?_
                    exact TC.nrm () [] ⟨rfl, trivial⟩ [0] (by kernel_rfl)
                  · intro b13_ b14_ g7
                    refine TL.move rfl rfl (v := .int .i64 x1) rfl ?_
                    refine TL.done ?_
                    exact TC.nrm () [] ⟨rfl, trivial⟩ [0] (by kernel_rfl)
                  · intro b12_ g7
                    refine TL.move rfl rfl (v := bp b_1 0) rfl ?_
                    refine TL.done ?_
                    exact TC.nrm () [] ⟨rfl, trivial⟩ [0] (by kernel_rfl)
                  · intro b12_ g7
                    refine TL.asL [box b_3 38 [.arr 6 (enf u8v (sub (sub a_3 (x1.toNat * 36)) (x2.toNat * 6)))]] (by kernel_rfl) ?_
                    refine TL.callH (R := G.impl_Algebra_n.R) hr2 Try.call159 rfl rfl rfl (fun w hS => G.impl_Algebra_n.calls w b_1 a_1 a_2 a_3 a_4 ((Src.at h1) w hS)) ?_
                    rintro _ _ ⟨rfl, rfl⟩
                    refine TL.done ?_
                    exact TC.nrm () [] ⟨rfl, trivial⟩ [0] (by kernel_rfl)
                  · intro g7
                    refine TL.bin .i64 x1 r_4 rfl rfl rfl rfl (v := .bool (decide (x1 ≥ r_4))) rfl ?_
                    refine TL.done ?_
                    exact TC.nrm () [] ⟨(by rw [c6]; rfl), trivial⟩ [0] (by kernel_rfl)
                  · intro g7
                    refine TL.move rfl rfl (v := .bool false) rfl ?_
                    refine TL.done ?_
                    exact TC.nrm () [] ⟨rfl, trivial⟩ [0] (by kernel_rfl)
                  · intro b18_ b19_ g7
                    refine TL.move rfl rfl (v := .int .i64 x2) rfl ?_
                    refine TL.done ?_
                    exact TC.nrm () [] ⟨rfl, trivial⟩ [0] (by kernel_rfl)
                  · intro b17_ g7
                    refine TL.move rfl rfl (v := bp b_1 0) rfl ?_
                    refine TL.done ?_
                    exact TC.nrm () [] ⟨rfl, trivial⟩ [0] (by kernel_rfl)
                  · intro b17_ g7
                    refine TL.asL [box b_3 38 [.arr 6 (enf u8v (sub (sub a_3 (x1.toNat * 36)) (x2.toNat * 6)))]] (by kernel_rfl) ?_
                    refine TL.callH (R := G.impl_Algebra_n.R) hr2 Try.call159 rfl rfl rfl (fun w hS => G.impl_Algebra_n.calls w b_1 a_1 a_2 a_3 a_4 ((Src.at h1) w hS)) ?_
                    rintro _ _ ⟨rfl, rfl⟩
                    refine TL.done ?_
                    exact TC.nrm () [] ⟨rfl, trivial⟩ [0] (by kernel_rfl)
                  · intro g7
                    refine TL.bin .i64 x2 r_4 rfl rfl rfl rfl (v := .bool (decide (x2 ≥ r_4))) rfl ?_
                    refine TL.done ?_
                    exact TC.nrm () [] ⟨(by rw [c9]; rfl), trivial⟩ [0] (by kernel_rfl)
                  · intro g7
                    refine TL.pick rfl rfl (b := false) rfl (r := .bool false) rfl ?_
                    refine TL.done ?_
                    exact TC.nrm () [] ⟨rfl, trivial⟩ [0] (by kernel_rfl)
                  · intro g7
                    refine TL.move rfl rfl (v := .bool false) rfl ?_
                    refine TL.done ?_
                    exact TC.nrm () [] ⟨rfl, trivial⟩ [0] (by kernel_rfl)
                  · intro b24_ g7
                    refine TL.asL [box b_3 38 [.arr 6 (enf u8v (sub (sub a_3 (x1.toNat * 36)) (x2.toNat * 6)))]] (by kernel_rfl) ?_
                    refine TL.skip rfl rfl (by decide) ?_
                    refine TL.done ?_
                    exact TC.nrm () [] ⟨rfl, trivial⟩ [0] (by kernel_rfl)
                  · intro b23_ g7
                    refine TL.asL [box b_3 38 [.arr 6 (enf u8v (sub (sub a_3 (x1.toNat * 36)) (x2.toNat * 6)))]] (by kernel_rfl) ?_
                    refine TL.skip rfl rfl (by decide) ?_
                    refine TL.done ?_
                    exact TC.nrm () [] ⟨rfl, trivial⟩ [0] (by kernel_rfl)
                  · intro g7
                    refine TL.skip rfl rfl (by decide) ?_
                    refine TL.done ?_
                    exact TC.nrm () [] ⟨rfl, trivial⟩ [0] (by kernel_rfl)
                  · intro g7
                    refine TL.pick rfl rfl (b := false) rfl (r := .bool false) rfl ?_
                    refine TL.done ?_
                    exact TC.nrm () [] ⟨rfl, trivial⟩ [0] (by kernel_rfl)
                  · intro g7
                    refine TL.pick rfl rfl (b := false) rfl (r := .bool false) rfl ?_
                    refine TL.done ?_
                    exact TC.nrm () [] ⟨rfl, trivial⟩ [0] (by kernel_rfl)
                · intro g7
                  refine TC.asL [box b_3 38 [.arr 6 (enf u8v (sub (sub a_3 (x1.toNat * 36)) (x2.toNat * 6)))]] (by kernel_rfl) ?_
                  refine TC.cond_false rfl ?_
                  refine TC.skip ?_
                  refine TC.region ?_
                  refine TL.bin .i64 x2 1 rfl rfl rfl rfl (v := .int .i64 (w64 (x2 + 1))) rfl ?_
                  refine TL.move rfl rfl (v := .int .i64 (w64 (x2 + 1))) rfl ?_
                  refine TL.done ?_
                  exact TC.next ((w64 (x2 + 1))) (()) ⟨rfl, rfl, rfl, rfl, rfl, rfl, trivial⟩ [] rfl
        · exact TC.brk (x2) (()) ⟨rfl, rfl, rfl, rfl, rfl, rfl, trivial⟩ [] rfl
      · rintro x2 _
        refine TC.region ?_
        refine TL.bin .i64 x1 1 rfl rfl rfl rfl (v := .int .i64 (w64 (x1 + 1))) rfl ?_
        refine TL.move rfl rfl (v := .int .i64 (w64 (x1 + 1))) rfl ?_
        refine TL.done ?_
        exact TC.next ((w64 (x1 + 1))) (()) ⟨rfl, rfl, rfl, trivial⟩ [] rfl
    · exact TC.brk (x1) (()) ⟨rfl, rfl, rfl, trivial⟩ [] rfl
  · rintro x1 _
    refine TC.seq ?_
    refine TC.wk (Γ' := [(0, bp b_1 0), (10, sval [.arr 216 (enf u8v a_3)]), (11, .int .i64 x1)]) ⟨rfl, rfl, rfl, trivial⟩ ?_
    refine TC.bindE fun r_16 hr3 => ?_
    refine TC.draw [bp b_1 0, bp b_1 0, bp b_1 218, sval [.arr 6 (enf u8v a_4)], bp b_1 0, bp b_1 0, bp b_1 1, .int .i64 a_2, bp b_1 0, bp b_1 0, bp b_1 0, .int .i64 a_1, .bool r_16, .bool r_16] 14 [] (by kernel_rfl) rfl rfl rfl rfl ?_ ?_
    · refine ⟨?_, ?_, ?_, ?_, ?_, ?_, ?_, ?_, ?_, ?_, ?_, ?_, ?_, ?_, trivial⟩
      · refine TL.move rfl rfl (v := bp b_1 0) rfl ?_
        refine TL.done ?_
        exact TC.nrm () () ⟨rfl, trivial⟩ [] (by kernel_rfl)
      · refine TL.nilCheck rfl rfl rfl ?_
        refine TL.done ?_
        exact TC.nrm () () ⟨rfl, trivial⟩ [] (by kernel_rfl)
      · refine TL.fa Try.underlying43 rfl Try.sizeOf41 rfl 218 rfl rfl rfl rfl ?_
        refine TL.done ?_
        exact TC.nrm () () ⟨rfl, trivial⟩ [] (by kernel_rfl)
      · refine TL.loadM 3 1 (Src.at h1) Try.isAgg41 Try.sizeOf41 (mid := [.arr 6 (enf u8v a_4)]) rfl rfl rfl rfl rfl rfl ?_
        refine TL.done ?_
        exact TC.nrm () () ⟨rfl, trivial⟩ [] (by kernel_rfl)
      · refine TL.move rfl rfl (v := bp b_1 0) rfl ?_
        refine TL.done ?_
        exact TC.nrm () () ⟨rfl, trivial⟩ [] (by kernel_rfl)
      · refine TL.nilCheck rfl rfl rfl ?_
        refine TL.done ?_
        exact TC.nrm () () ⟨rfl, trivial⟩ [] (by kernel_rfl)
      · refine TL.fa Try.underlying43 rfl Try.sizeOf2 rfl 1 rfl rfl rfl rfl ?_
        refine TL.done ?_
        exact TC.nrm () () ⟨rfl, trivial⟩ [] (by kernel_rfl)
      · refine TL.load1 1 (Src.at h1) Try.isAgg2 rfl rfl rfl rfl rfl ?_
        refine TL.done ?_
        exact TC.nrm () () ⟨rfl, trivial⟩ [] (by kernel_rfl)
      · refine TL.move rfl rfl (v := bp b_1 0) rfl ?_
        refine TL.done ?_
        exact TC.nrm () () ⟨rfl, trivial⟩ [] (by kernel_rfl)
      · refine TL.nilCheck rfl rfl rfl ?_
        refine TL.done ?_
        exact TC.nrm () () ⟨rfl, trivial⟩ [] (by kernel_rfl)
      · refine TL.fa Try.underlying43 rfl Try.sizeOf2 rfl 0 rfl rfl rfl rfl ?_
        refine TL.done ?_
        exact TC.nrm () () ⟨rfl, trivial⟩ [] (by kernel_rfl)
      · refine TL.load1 0 (Src.at h1) Try.isAgg2 rfl rfl rfl rfl rfl ?_
        refine TL.done ?_
        exact TC.nrm () () ⟨rfl, trivial⟩ [] (by kernel_rfl)
      · refine TL.callH (R := G.impl_isVector.R) hr3 Try.call158 rfl rfl rfl (fun w hS => G.impl_isVector.calls w a_4 a_2 a_1) ?_
        rintro _ _ ⟨rfl, rfl⟩
        refine TL.done ?_
        exact TC.nrm () () ⟨rfl, trivial⟩ [] (by kernel_rfl)
      · refine TL.assign rfl rfl (v := .bool r_16) rfl ?_
        refine TL.done ?_
        exact TC.nrm () () ⟨rfl, trivial⟩ [] (by kernel_rfl)
    · exact TC.retF (Fin.body (fin1 (.inr rfl) rfl (.tmp rfl) [] rfl ⟨rfl, rfl⟩))

end Go.Proofs.Ytiiljfpbcanphaa.G

/- impl.basis, as a pure function. -/
set_option linter.unusedVariables false
namespace Go.Proofs.Ytiiljfpbcanphaa.G
open Go Go.Sx Go.Proofs

def impl_basis.f (i1 : Int) : Option (Nat → UInt8) := chk i1 6 (some (upd (fun _ => (0 : UInt8)) i1.toNat (1 : UInt8)))

def impl_basis.R (r : Nat → UInt8) (v : Value) (L : List Asn) : Prop := v = sval [.arr 6 (enf u8v r)] ∧ L = []

set_option maxRecDepth 100000 in
set_option maxHeartbeats 4000000 in
theorem impl_basis.calls (w : World) (i1 : Int) :
    ∀ r, impl_basis.f i1 = some r → Calls Try.prog 87 #[.int .i64 i1] w (Ret w (impl_basis.R r)) := by

  refine calls_T (n := 8) (Γ := [(0, .int .i64 i1)]) (R := impl_basis.R) Try.func87 rfl rfl (Nat.le_of_ble_eq_true rfl) ⟨rfl, trivial⟩ ?_
  unfold impl_basis.f
  refine TC.seq ?_
  refine TC.region ?_
  refine TL.alloc [.arr 6 (enf u8v (fun _ => (0 : UInt8)))] rfl rfl Try.zeroValue41 rfl fun b_1 => ?_
  refine TL.done ?_
  refine TC.seq ?_
  refine TC.region ?_
  refine TL.buildA (segs0 := [.arr 6 (enf u8v (fun _ => (0 : UInt8)))]) (segs := [.arr 6 (enf u8v (fun _ => (0 : UInt8)))]) Try.underlying41 Try.sizeOf5 Try.zeroValue41 rfl [] rfl rfl rfl rfl ?_
  refine TL.alloc [.arr 6 (enf u8v (fun _ => (0 : UInt8)))] rfl rfl Try.zeroValue41 rfl fun b_2 => ?_
  refine TL.stM (news := [.arr 6 (enf u8v (fun _ => (0 : UInt8)))]) 0 0 1 rfl Try.sizeOf41 (ones_arr (fun _ => rfl) ones_nil) rfl rfl rfl rfl rfl rfl ?_
  refine TL.done ?_
  refine TC.seq ?_
  refine TC.region ?_
  refine TL.move rfl rfl (v := .int .i64 i1) rfl ?_
  refine TL.chk fun h1 => ?_
  refine TL.ixa i1 i1.toNat h1 Try.underlying41 Try.sizeOf5 rfl rfl rfl rfl (by omega) ?_
  refine TL.stA (e := u8v) (z := (1 : UInt8)) 0 0 i1.toNat rfl Try.sizeOf5 rfl (by omega) (s := 0) rfl (by omega) rfl rfl rfl rfl rfl ?_
  refine TL.done ?_
  refine TC.seq ?_
  refine TC.region ?_
  refine TL.loadM 0 1 (Src.box 0 rfl) Try.isAgg41 Try.sizeOf41 (mid := [.arr 6 (enf u8v (upd (fun _ => (0 : UInt8)) i1.toNat (1 : UInt8)))]) rfl rfl rfl rfl rfl rfl ?_
  refine TL.stM (news := [.arr 6 (enf u8v (upd (fun _ => (0 : UInt8)) i1.toNat (1 : UInt8)))]) 1 0 1 rfl Try.sizeOf41 (ones_arr (fun _ => rfl) ones_nil) rfl rfl rfl rfl rfl rfl ?_
  refine TL.done ?_
  exact TC.retF (Fin.body (fin1 (.inr rfl) rfl (.cellN rfl (Src.box 1 rfl) Try.isAgg41 Try.sizeOf41 rfl) [] rfl ⟨rfl, rfl⟩))

end Go.Proofs.Ytiiljfpbcanphaa.G
