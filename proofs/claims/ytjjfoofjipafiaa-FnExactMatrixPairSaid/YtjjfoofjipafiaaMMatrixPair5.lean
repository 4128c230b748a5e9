/- Functions of the program, as pure functions. -/
import Derived.Test.YtjjfoofjipafiaaMMatrixPair4
import Derived.Test.YtjjfoofjipafiaaProg
/- impl.NamedAlgebra$3, as a pure function. -/
set_option linter.unusedVariables false
namespace Go.Proofs.Ytjjfoofjipafiaa.G
open Go Go.Sx Go.Proofs

def impl_NamedAlgebra_3.f (i1 : Int) (j1 : Int) : Option Int := (bif (i1 != j1) then some (-1) else some i1)

def impl_NamedAlgebra_3.R (r : Int) (v : Value) (L : List Asn) : Prop := v = .int .i64 r ∧ L = []

set_option maxRecDepth 100000 in
set_option maxHeartbeats 4000000 in
theorem impl_NamedAlgebra_3.calls (w : World) (i1 : Int) (j1 : Int) :
    ∀ r, impl_NamedAlgebra_3.f i1 j1 = some r → Calls Try.prog 101 #[.int .i64 i1, .int .i64 j1] w (Ret w (impl_NamedAlgebra_3.R r)) := by

  refine calls_T (n := 9) (Γ := [(0, .int .i64 i1), (1, .int .i64 j1)]) (R := impl_NamedAlgebra_3.R) Try.func101 rfl rfl (Nat.le_of_ble_eq_true rfl) ⟨rfl, rfl, trivial⟩ ?_
  unfold impl_NamedAlgebra_3.f
  refine TC.seq ?_
  refine TC.region ?_
  refine TL.assign rfl rfl (v := .int .i64 0) rfl ?_
  refine TL.done ?_
  refine TC.seq ?_
  refine TC.seq ?_
  refine TC.region ?_
  refine TL.move rfl rfl (v := .int .i64 i1) rfl ?_
  refine TL.move rfl rfl (v := .int .i64 j1) rfl ?_
  refine TL.bin .i64 i1 j1 rfl rfl rfl rfl (v := .bool (i1 != j1)) rfl ?_
  refine TL.done ?_
  refine TC.cond (b := (i1 != j1)) rfl (fun c1 => ?_) (fun c2 => ?_)
  · refine TC.seq ?_
    refine TC.region ?_
    refine TL.assign rfl rfl (v := .int .i64 (-1)) rfl ?_
    refine TL.done ?_
    exact TC.retF (Fin.body (fin1 (.inr rfl) rfl (.tmp rfl) [] rfl ⟨rfl, rfl⟩))
  · refine TC.skip ?_
    refine TC.seq ?_
    refine TC.region ?_
    refine TL.move rfl rfl (v := .int .i64 i1) rfl ?_
    refine TL.assign rfl rfl (v := .int .i64 i1) rfl ?_
    refine TL.done ?_
    exact TC.retF (Fin.body (fin1 (.inr rfl) rfl (.tmp rfl) [] rfl ⟨rfl, rfl⟩))

end Go.Proofs.Ytjjfoofjipafiaa.G

/- impl.NamedAlgebra$4, as a pure function. -/
set_option linter.unusedVariables false
namespace Go.Proofs.Ytjjfoofjipafiaa.G
open Go Go.Sx Go.Proofs

def impl_NamedAlgebra_4.f (i1 : Int) (j1 : Int) : Option Int := some (Int.tmod (w64 (i1 + j1)) 3)

def impl_NamedAlgebra_4.R (r : Int) (v : Value) (L : List Asn) : Prop := v = .int .i64 r ∧ L = []

set_option maxRecDepth 100000 in
set_option maxHeartbeats 4000000 in
theorem impl_NamedAlgebra_4.calls (w : World) (i1 : Int) (j1 : Int) :
    ∀ r, impl_NamedAlgebra_4.f i1 j1 = some r → Calls Try.prog 102 #[.int .i64 i1, .int .i64 j1] w (Ret w (impl_NamedAlgebra_4.R r)) := by

  refine calls_T (n := 9) (Γ := [(0, .int .i64 i1), (1, .int .i64 j1)]) (R := impl_NamedAlgebra_4.R) Try.func102 rfl rfl (Nat.le_of_ble_eq_true rfl) ⟨rfl, rfl, trivial⟩ ?_
  unfold impl_NamedAlgebra_4.f
  refine TC.seq ?_
  refine TC.region ?_
  refine TL.assign rfl rfl (v := .int .i64 0) rfl ?_
  refine TL.done ?_
  refine TC.seq ?_
  refine TC.region ?_
  refine TL.move rfl rfl (v := .int .i64 i1) rfl ?_
  refine TL.move rfl rfl (v := .int .i64 j1) rfl ?_
  refine TL.bin .i64 i1 j1 rfl rfl rfl rfl (v := .int .i64 (w64 (i1 + j1))) rfl ?_
  refine TL.rem .i64 (w64 (i1 + j1)) 3 (by decide) rfl rfl rfl rfl ?_
  refine TL.assign rfl rfl (v := .int .i64 (Int.tmod (w64 (i1 + j1)) 3)) rfl ?_
  refine TL.done ?_
  exact TC.retF (Fin.body (fin1 (.inr rfl) rfl (.tmp rfl) [] rfl ⟨rfl, rfl⟩))

end Go.Proofs.Ytjjfoofjipafiaa.G

/- impl.permutations, as a pure function. -/
set_option linter.unusedVariables false
namespace Go.Proofs.Ytjjfoofjipafiaa.G
open Go Go.Sx Go.Proofs

def impl_permutations.f : Option (List (Nat → Int)) := some ([(upd (upd (upd (fun _ => (0 : Int)) 0 0) 1 1) 2 2), (upd (upd (upd (fun _ => (0 : Int)) 0 0) 1 2) 2 1), (upd (upd (upd (fun _ => (0 : Int)) 0 1) 1 0) 2 2), (upd (upd (upd (fun _ => (0 : Int)) 0 1) 1 2) 2 0), (upd (upd (upd (fun _ => (0 : Int)) 0 2) 1 0) 2 1), (upd (upd (upd (fun _ => (0 : Int)) 0 2) 1 1) 2 0)] : List (Nat → Int))

def impl_permutations.R (r : List (Nat → Int)) (v : Value) (L : List Asn) : Prop := ∃ (s0 : SV), v = SV.v s0 ∧ L = [row (Evi 3) 117 s0 r]

set_option maxRecDepth 100000 in
set_option maxHeartbeats 4000000 in
theorem impl_permutations.calls (w : World) :
    ∀ r, impl_permutations.f = some r → Calls Try.prog 113 #[] w (Ret w (impl_permutations.R r)) := by

  refine calls_T (n := 8) (Γ := []) (R := impl_permutations.R) Try.func113 rfl rfl (Nat.le_of_ble_eq_true rfl) trivial ?_
  unfold impl_permutations.f
  refine TC.seq ?_
  refine TC.region ?_
  refine TL.assign rfl rfl (v := SV.v ⟨none, 0, 0⟩) rfl ?_
  refine TL.done ?_
  refine TC.seq ?_
  refine TC.region ?_
  refine TL.buildA (segs0 := [.arr 3 (enf i64v (fun _ => (0 : Int)))]) (segs := [.arr 3 (enf i64v (upd (upd (upd (fun _ => (0 : Int)) 0 0) 1 1) 2 2))]) Try.underlying117 Try.sizeOf3 Try.zeroValue117 rfl [(0, .int .i64 0), (1, .int .i64 1), (2, .int .i64 2)] rfl (fill_arr (e := i64v) (z := 0) (q := 0) (s := 0) 0 rfl rfl rfl rfl rfl rfl (fill_arr (e := i64v) (z := 1) (q := 1) (s := 0) 0 rfl rfl rfl rfl rfl rfl (fill_arr (e := i64v) (z := 2) (q := 2) (s := 0) 0 rfl rfl rfl rfl rfl rfl (rfl)))) rfl rfl ?_
  refine TL.buildA (segs0 := [.arr 3 (enf i64v (fun _ => (0 : Int)))]) (segs := [.arr 3 (enf i64v (upd (upd (upd (fun _ => (0 : Int)) 0 0) 1 2) 2 1))]) Try.underlying117 Try.sizeOf3 Try.zeroValue117 rfl [(0, .int .i64 0), (1, .int .i64 2), (2, .int .i64 1)] rfl (fill_arr (e := i64v) (z := 0) (q := 0) (s := 0) 0 rfl rfl rfl rfl rfl rfl (fill_arr (e := i64v) (z := 2) (q := 1) (s := 0) 0 rfl rfl rfl rfl rfl rfl (fill_arr (e := i64v) (z := 1) (q := 2) (s := 0) 0 rfl rfl rfl rfl rfl rfl (rfl)))) rfl rfl ?_
  refine TL.buildA (segs0 := [.arr 3 (enf i64v (fun _ => (0 : Int)))]) (segs := [.arr 3 (enf i64v (upd (upd (upd (fun _ => (0 : Int)) 0 1) 1 0) 2 2))]) Try.underlying117 Try.sizeOf3 Try.zeroValue117 rfl [(0, .int .i64 1), (1, .int .i64 0), (2, .int .i64 2)] rfl (fill_arr (e := i64v) (z := 1) (q := 0) (s := 0) 0 rfl rfl rfl rfl rfl rfl (fill_arr (e := i64v) (z := 0) (q := 1) (s := 0) 0 rfl rfl rfl rfl rfl rfl (fill_arr (e := i64v) (z := 2) (q := 2) (s := 0) 0 rfl rfl rfl rfl rfl rfl (rfl)))) rfl rfl ?_
  refine TL.buildA (segs0 := [.arr 3 (enf i64v (fun _ => (0 : Int)))]) (segs := [.arr 3 (enf i64v (upd (upd (upd (fun _ => (0 : Int)) 0 1) 1 2) 2 0))]) Try.underlying117 Try.sizeOf3 Try.zeroValue117 rfl [(0, .int .i64 1), (1, .int .i64 2), (2, .int .i64 0)] rfl (fill_arr (e := i64v) (z := 1) (q := 0) (s := 0) 0 rfl rfl rfl rfl rfl rfl (fill_arr (e := i64v) (z := 2) (q := 1) (s := 0) 0 rfl rfl rfl rfl rfl rfl (fill_arr (e := i64v) (z := 0) (q := 2) (s := 0) 0 rfl rfl rfl rfl rfl rfl (rfl)))) rfl rfl ?_
  refine TL.buildA (segs0 := [.arr 3 (enf i64v (fun _ => (0 : Int)))]) (segs := [.arr 3 (enf i64v (upd (upd (upd (fun _ => (0 : Int)) 0 2) 1 0) 2 1))]) Try.underlying117 Try.sizeOf3 Try.zeroValue117 rfl [(0, .int .i64 2), (1, .int .i64 0), (2, .int .i64 1)] rfl (fill_arr (e := i64v) (z := 2) (q := 0) (s := 0) 0 rfl rfl rfl rfl rfl rfl (fill_arr (e := i64v) (z := 0) (q := 1) (s := 0) 0 rfl rfl rfl rfl rfl rfl (fill_arr (e := i64v) (z := 1) (q := 2) (s := 0) 0 rfl rfl rfl rfl rfl rfl (rfl)))) rfl rfl ?_
  refine TL.buildA (segs0 := [.arr 3 (enf i64v (fun _ => (0 : Int)))]) (segs := [.arr 3 (enf i64v (upd (upd (upd (fun _ => (0 : Int)) 0 2) 1 1) 2 0))]) Try.underlying117 Try.sizeOf3 Try.zeroValue117 rfl [(0, .int .i64 2), (1, .int .i64 1), (2, .int .i64 0)] rfl (fill_arr (e := i64v) (z := 2) (q := 0) (s := 0) 0 rfl rfl rfl rfl rfl rfl (fill_arr (e := i64v) (z := 1) (q := 1) (s := 0) 0 rfl rfl rfl rfl rfl rfl (fill_arr (e := i64v) (z := 0) (q := 2) (s := 0) 0 rfl rfl rfl rfl rfl rfl (rfl)))) rfl rfl ?_
  refine TL.blit (Evi 3) ([(upd (upd (upd (fun _ => (0 : Int)) 0 0) 1 1) 2 2), (upd (upd (upd (fun _ => (0 : Int)) 0 0) 1 2) 2 1), (upd (upd (upd (fun _ => (0 : Int)) 0 1) 1 0) 2 2), (upd (upd (upd (fun _ => (0 : Int)) 0 1) 1 2) 2 0), (upd (upd (upd (fun _ => (0 : Int)) 0 2) 1 0) 2 1), (upd (upd (upd (fun _ => (0 : Int)) 0 2) 1 1) 2 0)] : List (Nat → Int)) Try.underlying115 Try.sizeOf117 Try.zeroValue117 rfl rfl rfl [(0, sval [.arr 3 (enf i64v (upd (upd (upd (fun _ => (0 : Int)) 0 0) 1 1) 2 2))]), (1, sval [.arr 3 (enf i64v (upd (upd (upd (fun _ => (0 : Int)) 0 0) 1 2) 2 1))]), (2, sval [.arr 3 (enf i64v (upd (upd (upd (fun _ => (0 : Int)) 0 1) 1 0) 2 2))]), (3, sval [.arr 3 (enf i64v (upd (upd (upd (fun _ => (0 : Int)) 0 1) 1 2) 2 0))]), (4, sval [.arr 3 (enf i64v (upd (upd (upd (fun _ => (0 : Int)) 0 2) 1 0) 2 1))]), (5, sval [.arr 3 (enf i64v (upd (upd (upd (fun _ => (0 : Int)) 0 2) 1 1) 2 0))])] rfl ⟨rfl, rfl, rfl, rfl, rfl, rfl, rfl, rfl, rfl, rfl, rfl, rfl, trivial⟩ rfl rfl fun s1 => ?_
  refine TL.assign rfl rfl (v := SV.v s1) rfl ?_
  refine TL.done ?_
  exact TC.retF (Fin.body (fin1 (.inr rfl) rfl (.tmp rfl) [0] rfl ⟨s1, rfl, rfl⟩))

end Go.Proofs.Ytjjfoofjipafiaa.G

/- slices.Index[[][3]int,[3]int], as a pure function. -/
set_option linter.unusedVariables false
namespace Go.Proofs.Ytjjfoofjipafiaa.G
open Go Go.Sx Go.Proofs

def slices_Index_3_int_3_int.b0 (s1 : List (Nat → Int)) (v_1 : Nat → Int) : Int → Option (LR Int Int) := fun x1 => (bif (decide (x1 < (s1.length : Int))) then chk x1 s1.length ((bif ((List.range 3).all fun i_ => v_1 i_ == (gt s1 x1) i_) then some (.ret (x1)) else some (.next (w64 (x1 + 1))))) else some (.brk x1))

def slices_Index_3_int_3_int.f (s1 : List (Nat → Int)) (v_1 : Nat → Int) : Option Int := (loop (slices_Index_3_int_3_int.b0 s1 v_1) 0).bind (ln (fun x1 => some (-1)))

def slices_Index_3_int_3_int.R (r : Int) (v : Value) (L : List Asn) : Prop := v = .int .i64 r ∧ L = []

set_option maxRecDepth 100000 in
set_option maxHeartbeats 4000000 in
theorem slices_Index_3_int_3_int.calls (w : World) (s2 : SV) (s1 : List (Nat → Int)) (v_1 : Nat → Int) (h1 : Reads (Evi 3) (hp w) s2 s1) :
    ∀ r, slices_Index_3_int_3_int.f s1 v_1 = some r → Calls Try.prog 114 #[SV.v s2, sval [.arr 3 (enf i64v v_1)]] w (Ret w (slices_Index_3_int_3_int.R r)) := by

  refine calls_T (n := 19) (Γ := [(0, SV.v s2), (1, sval [.arr 3 (enf i64v v_1)])]) (R := slices_Index_3_int_3_int.R) Try.func114 rfl rfl (Nat.le_of_ble_eq_true rfl) ⟨rfl, rfl, trivial⟩ ?_
  unfold slices_Index_3_int_3_int.f
  refine TC.seq ?_
  refine TC.region ?_
  refine TL.box [.arr 3 (enf i64v v_1)] rfl rfl rfl rfl fun b_1 => ?_
  refine TL.assign rfl rfl (v := .int .i64 0) rfl ?_
  refine TL.done ?_
  refine TC.seq ?_
  refine TC.seq ?_
  refine TC.region ?_
  refine TL.move rfl rfl (v := SV.v s2) rfl ?_
  refine TL.len (Rd.old h1) Try.underlying115 rfl rfl rfl ?_
  refine TL.move rfl rfl (v := .int .i64 0) rfl ?_
  refine TL.done ?_
  refine TC.loopK (σ := Int) (γ := Unit) (Γ' := (fun x1 _ => [(0, SV.v s2), (3, bp b_1 0), (7, .int .i64 (s1.length : Int)), (8, .int .i64 x1)])) (L' := (fun x1 _ => [box b_1 117 [.arr 3 (enf i64v v_1)]])) (Γb := (fun x1 _ => [(0, SV.v s2), (3, bp b_1 0), (7, .int .i64 (s1.length : Int)), (8, .int .i64 x1)])) (Lb := (fun x1 _ => [box b_1 117 [.arr 3 (enf i64v v_1)]])) (0) (()) ⟨rfl, rfl, rfl, rfl, trivial⟩ [0] rfl ?_ ?_
  · rintro x1 _
    refine TC.seq ?_
    refine TC.region ?_
    refine TL.bin .i64 x1 (s1.length : Int) rfl rfl rfl rfl (v := .bool (decide (x1 < (s1.length : Int)))) rfl ?_
    refine TL.done ?_
    refine TC.seq ?_
    refine TC.cond (b := (decide (x1 < (s1.length : Int)))) rfl (fun c1 => ?_) (fun c2 => ?_)
    · refine TC.skip ?_
      refine TC.seq ?_
      refine TC.block (NoEx.loop rfl NoEx.body) ?_
      refine TC.seq ?_
      refine TC.region ?_
      refine TL.move rfl rfl (v := .int .i64 x1) rfl ?_
      refine TL.assign rfl rfl (v := .int .i64 x1) rfl ?_
      refine TL.done ?_
      refine TC.seq ?_
      refine TC.wk (Γ' := [(0, SV.v s2), (3, bp b_1 0), (7, .int .i64 (s1.length : Int)), (8, .int .i64 x1), (9, .bool (decide (x1 < (s1.length : Int)))), (10, .int .i64 x1), (5, .int .i64 x1)]) ⟨rfl, rfl, rfl, rfl, rfl, rfl, rfl, trivial⟩ ?_
      refine TC.chk fun h2 => ?_
      refine TC.draw [sval [.arr 3 (enf i64v v_1)], SV.v s2, .int .i64 x1, ep s2 (x1.toNat * 3), sval [.arr 3 (enf i64v (gt s1 x1))], .bool ((List.range 3).all fun i_ => v_1 i_ == (gt s1 x1) i_)] 6 [box b_1 117 [.arr 3 (enf i64v v_1)]] (by kernel_rfl) rfl rfl rfl rfl ?_ ?_
      · refine ⟨?_, ?_, ?_, ?_, ?_, ?_, trivial⟩
        · refine TL.loadM 0 1 (Src.box 0 rfl) Try.isAgg117 Try.sizeOf117 (mid := [.arr 3 (enf i64v v_1)]) rfl rfl rfl rfl rfl rfl ?_
          refine TL.done ?_
          exact TC.nrm () () ⟨rfl, trivial⟩ [0] (by kernel_rfl)
        · refine TL.move rfl rfl (v := SV.v s2) rfl ?_
          refine TL.done ?_
          exact TC.nrm () () ⟨rfl, trivial⟩ [0] (by kernel_rfl)
        · refine TL.move rfl rfl (v := .int .i64 x1) rfl ?_
          refine TL.done ?_
          exact TC.nrm () () ⟨rfl, trivial⟩ [0] (by kernel_rfl)
        · refine TL.ixs x1 (x1.toNat * 3) (Rd.old h1) h2 Try.underlying115 Try.sizeOf117 rfl rfl rfl rfl (by omega) ?_
          refine TL.done ?_
          exact TC.nrm () () ⟨rfl, trivial⟩ [0] (by kernel_rfl)
        · refine TL.loadEA (Rd.old h1) Try.isAgg117 Try.sizeOf117 x1.toNat (gt_spec h2) (v := sval [.arr 3 (enf i64v (gt s1 x1))]) rfl (by simp only [show (Evi 3).sz = 3 from rfl] <;> omega) rfl rfl rfl ?_
          refine TL.done ?_
          exact TC.nrm () () ⟨rfl, trivial⟩ [0] (by kernel_rfl)
        · refine TL.eqA v_1 (gt s1 x1) Try.underlying117 (info_of Try.type3) (by kernel_rfl) Try.underlying3 Try.isAgg3 (by kernel_rfl) rfl rfl rfl rfl ?_
          refine TL.done ?_
          exact TC.nrm () () ⟨rfl, trivial⟩ [0] (by kernel_rfl)
      · refine TC.cond (b := ((List.range 3).all fun i_ => v_1 i_ == (gt s1 x1) i_)) rfl (fun c3 => ?_) (fun c4 => ?_)
        · refine TC.seq ?_
          refine TC.region ?_
          refine TL.move rfl rfl (v := .int .i64 x1) rfl ?_
          refine TL.assign rfl rfl (v := .int .i64 x1) rfl ?_
          refine TL.done ?_
          exact TC.retF (Fin.loop Far.ret (Fin.body (fin1 (.inr rfl) rfl (.tmp rfl) [] rfl ⟨rfl, rfl⟩)))
        · refine TC.skip ?_
          refine TC.region ?_
          refine TL.bin .i64 x1 1 rfl rfl rfl rfl (v := .int .i64 (w64 (x1 + 1))) rfl ?_
          refine TL.move rfl rfl (v := .int .i64 (w64 (x1 + 1))) rfl ?_
          refine TL.done ?_
          exact TC.next ((w64 (x1 + 1))) (()) ⟨rfl, rfl, rfl, rfl, trivial⟩ [0] rfl
    · exact TC.brk (x1) (()) ⟨rfl, rfl, rfl, rfl, trivial⟩ [0] rfl
  · rintro x1 _
    refine TC.seq ?_
    refine TC.region ?_
    refine TL.assign rfl rfl (v := .int .i64 (-1)) rfl ?_
    refine TL.done ?_
    exact TC.retF (Fin.body (fin1 (.inr rfl) rfl (.tmp rfl) [] rfl ⟨rfl, rfl⟩))

end Go.Proofs.Ytjjfoofjipafiaa.G

/- impl.composed, as a pure function. -/
set_option linter.unusedVariables false
namespace Go.Proofs.Ytjjfoofjipafiaa.G
open Go Go.Sx Go.Proofs

def impl_composed.b0 (j1 : Int) (r_1 : List (Nat → Int)) (i1 : Int) : (Nat → Int) × Int → Option (LB ((Nat → Int) × Int)) := fun p => match p with | (out1, x1) => (bif (decide (x1 < 3)) then chk j1 r_1.length (chk x1 3 (chk i1 r_1.length (chk ((gt r_1 j1) x1.toNat) 3 (some (.next ((upd out1 x1.toNat ((gt r_1 i1) (((gt r_1 j1) x1.toNat).toNat))), (w64 (x1 + 1)))))))) else some (.brk (out1, x1)))

def impl_composed.f (i1 : Int) (j1 : Int) : Option Int := (G.impl_permutations.f).bind (fun r_1 => (loop1 (impl_composed.b0 j1 r_1 i1) ((fun _ => (0 : Int)), 0)).bind (fun p => match p with | (out1, x1) => (G.slices_Index_3_int_3_int.f r_1 out1).bind (fun r_2 => some r_2)))

def impl_composed.R (r : Int) (v : Value) (L : List Asn) : Prop := v = .int .i64 r ∧ L = []

set_option maxRecDepth 100000 in
set_option maxHeartbeats 4000000 in
theorem impl_composed.calls (w : World) (i1 : Int) (j1 : Int) :
    ∀ r, impl_composed.f i1 j1 = some r → Calls Try.prog 103 #[.int .i64 i1, .int .i64 j1] w (Ret w (impl_composed.R r)) := by

  refine calls_T (n := 30) (Γ := [(0, .int .i64 i1), (1, .int .i64 j1)]) (R := impl_composed.R) Try.func103 rfl rfl (Nat.le_of_ble_eq_true rfl) ⟨rfl, rfl, trivial⟩ ?_
  unfold impl_composed.f
  refine TC.seq ?_
  refine TC.region ?_
  refine TL.assign rfl rfl (v := .int .i64 0) rfl ?_
  refine TL.done ?_
  refine TC.seq ?_
  refine TC.region ?_
  refine TL.call (R := G.impl_permutations.R) Try.call113 rfl rfl rfl (fun w hS => G.impl_permutations.calls w) ?_
  rintro r_1 _ _ ⟨s1, rfl, rfl⟩
  refine TL.assign rfl rfl (v := SV.v s1) rfl ?_
  refine TL.done ?_
  refine TC.seq ?_
  refine TC.region ?_
  refine TL.buildA (segs0 := [.arr 3 (enf i64v (fun _ => (0 : Int)))]) (segs := [.arr 3 (enf i64v (fun _ => (0 : Int)))]) Try.underlying117 Try.sizeOf3 Try.zeroValue117 rfl [] rfl rfl rfl rfl ?_
  refine TL.alloc [.arr 3 (enf i64v (fun _ => (0 : Int)))] rfl rfl Try.zeroValue117 rfl fun b_1 => ?_
  refine TL.stM (news := [.arr 3 (enf i64v (fun _ => (0 : Int)))]) 0 0 1 rfl Try.sizeOf117 (ones_arr (fun _ => rfl) ones_nil) rfl rfl rfl rfl rfl rfl ?_
  refine TL.done ?_
  refine TC.seq ?_
  refine TC.seq ?_
  refine TC.region ?_
  refine TL.move rfl rfl (v := .int .i64 0) rfl ?_
  refine TL.done ?_
  refine TC.loop1 (σ := (Nat → Int) × Int) (γ := Unit) (Γ' := (fun p q => match p, q with | (out1, x1), _ => [(0, .int .i64 i1), (1, .int .i64 j1), (5, SV.v s1), (6, bp b_1 0), (10, .int .i64 x1)])) (L' := (fun p q => match p, q with | (out1, x1), _ => [row (Evi 3) 117 s1 r_1, box b_1 117 [.arr 3 (enf i64v out1)]])) (Γb := (fun p q => match p, q with | (out1, x1), _ => [(0, .int .i64 i1), (1, .int .i64 j1), (5, SV.v s1), (6, bp b_1 0), (10, .int .i64 x1)])) (Lb := (fun p q => match p, q with | (out1, x1), _ => [row (Evi 3) 117 s1 r_1, box b_1 117 [.arr 3 (enf i64v out1)]])) (((fun _ => (0 : Int)), 0)) (()) ⟨rfl, rfl, rfl, rfl, rfl, trivial⟩ [1, 0] rfl ?_ ?_
  · rintro ⟨out1, x1⟩ _
    refine TC.seq ?_
    refine TC.region ?_
    refine TL.bin .i64 x1 3 rfl rfl rfl rfl (v := .bool (decide (x1 < 3))) rfl ?_
    refine TL.done ?_
    refine TC.seq ?_
    refine TC.cond (b := (decide (x1 < 3))) rfl (fun c1 => ?_) (fun c2 => ?_)
    · refine TC.skip ?_
      refine TC.seq ?_
      refine TC.block (NoEx.loop1 rfl) ?_
      refine TC.seq ?_
      refine TC.region ?_
      refine TL.move rfl rfl (v := .int .i64 x1) rfl ?_
      refine TL.assign rfl rfl (v := .int .i64 x1) rfl ?_
      refine TL.done ?_
      refine TC.wk (Γ' := [(0, .int .i64 i1), (1, .int .i64 j1), (5, SV.v s1), (6, bp b_1 0), (10, .int .i64 x1), (11, .bool (decide (x1 < 3))), (12, .int .i64 x1), (7, .int .i64 x1)]) ⟨rfl, rfl, rfl, rfl, rfl, rfl, rfl, rfl, trivial⟩ ?_
      refine TC.chk fun h1 => ?_
      refine TC.chk fun h2 => ?_
      refine TC.chk fun h3 => ?_
      refine TC.chk fun h4 => ?_
      refine TC.draw [.int .i64 x1, SV.v s1, .int .i64 i1, SV.v s1, .int .i64 j1, .int .i64 x1, ep s1 (j1.toNat * 3), ep s1 (j1.toNat * 3 + x1.toNat), .int .i64 ((gt r_1 j1) x1.toNat), ep s1 (i1.toNat * 3), ep s1 (i1.toNat * 3 + ((gt r_1 j1) x1.toNat).toNat), .int .i64 ((gt r_1 i1) (((gt r_1 j1) x1.toNat).toNat)), bp b_1 x1.toNat, undef] 13 [row (Evi 3) 117 s1 r_1, box b_1 117 [.arr 3 (enf i64v (upd out1 x1.toNat ((gt r_1 i1) (((gt r_1 j1) x1.toNat).toNat))))]] (by kernel_rfl) rfl rfl rfl rfl ?_ ?_
      · refine ⟨?_, ?_, ?_, ?_, ?_, ?_, ?_, ?_, ?_, ?_, ?_, ?_, ?_, ?_, trivial⟩
        · refine TL.move rfl rfl (v := .int .i64 x1) rfl ?_
          refine TL.done ?_
          exact TC.nrm () () ⟨rfl, trivial⟩ [0, 0] (by kernel_rfl)
        · refine TL.move rfl rfl (v := SV.v s1) rfl ?_
          refine TL.done ?_
          exact TC.nrm () () ⟨rfl, trivial⟩ [0, 0] (by kernel_rfl)
        · refine TL.move rfl rfl (v := .int .i64 i1) rfl ?_
          refine TL.done ?_
          exact TC.nrm () () ⟨rfl, trivial⟩ [0, 0] (by kernel_rfl)
        · refine TL.move rfl rfl (v := SV.v s1) rfl ?_
          refine TL.done ?_
          exact TC.nrm () () ⟨rfl, trivial⟩ [0, 0] (by kernel_rfl)
        · refine TL.move rfl rfl (v := .int .i64 j1) rfl ?_
          refine TL.done ?_
          exact TC.nrm () () ⟨rfl, trivial⟩ [0, 0] (by kernel_rfl)
        · refine TL.move rfl rfl (v := .int .i64 x1) rfl ?_
          refine TL.done ?_
          exact TC.nrm () () ⟨rfl, trivial⟩ [0, 0] (by kernel_rfl)
        · refine TL.ixs j1 (j1.toNat * 3) (Rd.row 0 rfl) h1 Try.underlying115 Try.sizeOf117 rfl rfl rfl rfl (by omega) ?_
          refine TL.done ?_
          exact TC.nrm () () ⟨rfl, trivial⟩ [0, 0] (by kernel_rfl)
        · refine TL.ixe x1 (j1.toNat * 3 + x1.toNat) (Rd.row 0 rfl) (by have h_ := h1; omega) h2 Try.underlying117 Try.sizeOf3 rfl rfl rfl rfl (by omega) ?_
          refine TL.done ?_
          exact TC.nrm () () ⟨rfl, trivial⟩ [0, 0] (by kernel_rfl)
        · refine TL.loadE (Rd.row 0 rfl) Try.isAgg3 j1.toNat x1.toNat (gt_spec h1) (v := .int .i64 ((gt r_1 j1) x1.toNat)) (Evi_at _ (by have h_ := h2; omega)) (by simp only [show (Evi 3).sz = 3 from rfl] <;> omega) rfl rfl rfl ?_
          refine TL.done ?_
          exact TC.nrm () () ⟨rfl, trivial⟩ [0, 0] (by kernel_rfl)
        · refine TL.ixs i1 (i1.toNat * 3) (Rd.row 0 rfl) h3 Try.underlying115 Try.sizeOf117 rfl rfl rfl rfl (by omega) ?_
          refine TL.done ?_
          exact TC.nrm () () ⟨rfl, trivial⟩ [0, 0] (by kernel_rfl)
        · refine TL.ixe ((gt r_1 j1) x1.toNat) (i1.toNat * 3 + ((gt r_1 j1) x1.toNat).toNat) (Rd.row 0 rfl) (by have h_ := h3; omega) h4 Try.underlying117 Try.sizeOf3 rfl rfl rfl rfl (by omega) ?_
          refine TL.done ?_
          exact TC.nrm () () ⟨rfl, trivial⟩ [0, 0] (by kernel_rfl)
        · refine TL.loadE (Rd.row 0 rfl) Try.isAgg3 i1.toNat (((gt r_1 j1) x1.toNat).toNat) (gt_spec h3) (v := .int .i64 ((gt r_1 i1) (((gt r_1 j1) x1.toNat).toNat))) (Evi_at _ (by have h_ := h4; omega)) (by simp only [show (Evi 3).sz = 3 from rfl] <;> omega) rfl rfl rfl ?_
          refine TL.done ?_
          exact TC.nrm () () ⟨rfl, trivial⟩ [0, 0] (by kernel_rfl)
        · refine TL.ixa x1 x1.toNat h2 Try.underlying117 Try.sizeOf3 rfl rfl rfl rfl (by omega) ?_
          refine TL.done ?_
          exact TC.nrm () () ⟨rfl, trivial⟩ [0, 0] (by kernel_rfl)
        · refine TL.stA (e := i64v) (z := ((gt r_1 i1) (((gt r_1 j1) x1.toNat).toNat))) 1 0 x1.toNat rfl Try.sizeOf3 rfl (by omega) (s := 0) rfl (by omega) rfl rfl rfl rfl rfl ?_
          refine TL.done ?_
          exact TC.nrm () () trivial [0, 0] (by kernel_rfl)
      · refine TC.region ?_
        refine TL.bin .i64 x1 1 rfl rfl rfl rfl (v := .int .i64 (w64 (x1 + 1))) rfl ?_
        refine TL.move rfl rfl (v := .int .i64 (w64 (x1 + 1))) rfl ?_
        refine TL.done ?_
        exact TC.next1 (((upd out1 x1.toNat ((gt r_1 i1) (((gt r_1 j1) x1.toNat).toNat))), (w64 (x1 + 1)))) (()) ⟨rfl, rfl, rfl, rfl, rfl, trivial⟩ [0, 0] rfl
    · exact TC.brk1 ((out1, x1)) (()) ⟨rfl, rfl, rfl, rfl, rfl, trivial⟩ [0, 0] rfl
  · rintro ⟨out1, x1⟩ _
    refine TC.seq ?_
    refine TC.region ?_
    refine TL.move rfl rfl (v := SV.v s1) rfl ?_
    refine TL.loadM 0 1 (Src.box 1 rfl) Try.isAgg117 Try.sizeOf117 (mid := [.arr 3 (enf i64v out1)]) rfl rfl rfl rfl rfl rfl ?_
    refine TL.call (R := G.slices_Index_3_int_3_int.R) Try.call114 rfl rfl rfl (fun w hS => G.slices_Index_3_int_3_int.calls w s1 r_1 out1 ((Rd.row 0 rfl) w hS)) ?_
    rintro r_2 _ _ ⟨rfl, rfl⟩
    refine TL.assign rfl rfl (v := .int .i64 r_2) rfl ?_
    refine TL.done ?_
    exact TC.retF (Fin.body (fin1 (.inr rfl) rfl (.tmp rfl) [] rfl ⟨rfl, rfl⟩))

end Go.Proofs.Ytjjfoofjipafiaa.G

/- impl.NamedAlgebra$5, as a pure function. -/
set_option linter.unusedVariables false
namespace Go.Proofs.Ytjjfoofjipafiaa.G
open Go Go.Sx Go.Proofs

def impl_NamedAlgebra_5.f (i1 : Int) (j1 : Int) : Option Int := (bif ((Int.tmod i1 2) != (w64 (Int.tdiv j1 2))) then some (-1) else some (w64 ((w64 ((w64 (Int.tdiv i1 2)) * 2)) + (Int.tmod j1 2))))

def impl_NamedAlgebra_5.R (r : Int) (v : Value) (L : List Asn) : Prop := v = .int .i64 r ∧ L = []

set_option maxRecDepth 100000 in
set_option maxHeartbeats 4000000 in
theorem impl_NamedAlgebra_5.calls (w : World) (i1 : Int) (j1 : Int) :
    ∀ r, impl_NamedAlgebra_5.f i1 j1 = some r → Calls Try.prog 104 #[.int .i64 i1, .int .i64 j1] w (Ret w (impl_NamedAlgebra_5.R r)) := by

  refine calls_T (n := 16) (Γ := [(0, .int .i64 i1), (1, .int .i64 j1)]) (R := impl_NamedAlgebra_5.R) Try.func104 rfl rfl (Nat.le_of_ble_eq_true rfl) ⟨rfl, rfl, trivial⟩ ?_
  unfold impl_NamedAlgebra_5.f
  refine TC.seq ?_
  refine TC.region ?_
  refine TL.assign rfl rfl (v := .int .i64 0) rfl ?_
  refine TL.done ?_
  refine TC.seq ?_
  refine TC.seq ?_
  refine TC.region ?_
  refine TL.move rfl rfl (v := .int .i64 i1) rfl ?_
  refine TL.rem .i64 i1 2 (by decide) rfl rfl rfl rfl ?_
  refine TL.move rfl rfl (v := .int .i64 j1) rfl ?_
  refine TL.quo .i64 j1 2 (by decide) rfl rfl rfl rfl ?_
  refine TL.bin .i64 (Int.tmod i1 2) (w64 (Int.tdiv j1 2)) rfl rfl rfl rfl (v := .bool ((Int.tmod i1 2) != (w64 (Int.tdiv j1 2)))) rfl ?_
  refine TL.done ?_
  refine TC.cond (b := ((Int.tmod i1 2) != (w64 (Int.tdiv j1 2)))) rfl (fun c1 => ?_) (fun c2 => ?_)
  · refine TC.seq ?_
    refine TC.region ?_
    refine TL.assign rfl rfl (v := .int .i64 (-1)) rfl ?_
    refine TL.done ?_
    exact TC.retF (Fin.body (fin1 (.inr rfl) rfl (.tmp rfl) [] rfl ⟨rfl, rfl⟩))
  · refine TC.skip ?_
    refine TC.seq ?_
    refine TC.region ?_
    refine TL.move rfl rfl (v := .int .i64 i1) rfl ?_
    refine TL.quo .i64 i1 2 (by decide) rfl rfl rfl rfl ?_
    refine TL.bin .i64 (w64 (Int.tdiv i1 2)) 2 rfl rfl rfl rfl (v := .int .i64 (w64 ((w64 (Int.tdiv i1 2)) * 2))) rfl ?_
    refine TL.move rfl rfl (v := .int .i64 j1) rfl ?_
    refine TL.rem .i64 j1 2 (by decide) rfl rfl rfl rfl ?_
    refine TL.bin .i64 (w64 ((w64 (Int.tdiv i1 2)) * 2)) (Int.tmod j1 2) rfl rfl rfl rfl (v := .int .i64 (w64 ((w64 ((w64 (Int.tdiv i1 2)) * 2)) + (Int.tmod j1 2)))) rfl ?_
    refine TL.assign rfl rfl (v := .int .i64 (w64 ((w64 ((w64 (Int.tdiv i1 2)) * 2)) + (Int.tmod j1 2)))) rfl ?_
    refine TL.done ?_
    exact TC.retF (Fin.body (fin1 (.inr rfl) rfl (.tmp rfl) [] rfl ⟨rfl, rfl⟩))

end Go.Proofs.Ytjjfoofjipafiaa.G

/- impl.NamedAlgebra, as a pure function. -/
set_option linter.unusedVariables false
namespace Go.Proofs.Ytjjfoofjipafiaa.G
open Go Go.Sx Go.Proofs

def impl_NamedAlgebra.f (name1 : Str) (p1 : Int) : Option (Int × Int × (Nat → UInt8) × (Nat → UInt8) × Int) := (G.impl_isPrime.f p1).bind (fun r_1 => (bif (!r_1) then some (0, 0, (fun _ => (0 : UInt8)), (fun _ => (0 : UInt8)), 2) else (bif (name1 == ([102, 105, 101, 108, 100] : Str)) then (G.impl_built.f p1 1 (upd (fun _ => (0 : UInt8)) 0 (1 : UInt8)) G.impl_NamedAlgebra_1.f).bind (fun p => match p with | (r_2, r_3, r_4, r_5) => some (r_2, r_3, r_4, r_5, 0)) else (bif (name1 == ([100, 117, 97, 108] : Str)) then (G.impl_built.f p1 2 (upd (upd (fun _ => (0 : UInt8)) 0 (0 : UInt8)) 1 (1 : UInt8)) G.impl_NamedAlgebra_2.f).bind (fun p => match p with | (r_6, r_7, r_8, r_9) => some (r_6, r_7, r_8, r_9, 0)) else (bif (name1 == ([112, 97, 105, 114] : Str)) then (G.impl_built.f p1 2 (upd (upd (fun _ => (0 : UInt8)) 0 (1 : UInt8)) 1 (1 : UInt8)) G.impl_NamedAlgebra_3.f).bind (fun p => match p with | (r_10, r_11, r_12, r_13) => some (r_10, r_11, r_12, r_13, 0)) else (bif (name1 == ([99, 121, 99, 108, 105, 99, 51] : Str)) then (G.impl_built.f p1 3 (upd (fun _ => (0 : UInt8)) 0 (1 : UInt8)) G.impl_NamedAlgebra_4.f).bind (fun p => match p with | (r_14, r_15, r_16, r_17) => some (r_14, r_15, r_16, r_17, 0)) else (bif (name1 == ([115, 121, 109, 109, 101, 116, 114, 105, 99] : Str)) then (G.impl_built.f p1 6 (upd (fun _ => (0 : UInt8)) 0 (1 : UInt8)) G.impl_composed.f).bind (fun p => match p with | (r_18, r_19, r_20, r_21) => some (r_18, r_19, r_20, r_21, 0)) else (bif (name1 == ([109, 97, 116, 114, 105, 120] : Str)) then (G.impl_built.f p1 4 (upd (upd (upd (upd (fun _ => (0 : UInt8)) 0 (1 : UInt8)) 1 (0 : UInt8)) 2 (0 : UInt8)) 3 (1 : UInt8)) G.impl_NamedAlgebra_5.f).bind (fun p => match p with | (r_22, r_23, r_24, r_25) => some (r_22, r_23, r_24, r_25, 0)) else some (0, 0, (fun _ => (0 : UInt8)), (fun _ => (0 : UInt8)), 4)))))))))

def impl_NamedAlgebra.R (r : Int × Int × (Nat → UInt8) × (Nat → UInt8) × Int) (v : Value) (L : List Asn) : Prop := v = .tuple #[sval [.one (.int .i64 r.1), .one (.int .i64 r.2.1), .arr 216 (enf u8v r.2.2.1), .arr 6 (enf u8v r.2.2.2.1)], .int .i64 r.2.2.2.2] ∧ L = []

set_option maxRecDepth 100000 in
set_option maxHeartbeats 4000000 in
theorem impl_NamedAlgebra.calls (w : World) (name1 : Str) (p1 : Int) :
    ∀ r, impl_NamedAlgebra.f name1 p1 = some r → Calls Try.prog 85 #[strv name1, .int .i64 p1] w (Ret w (impl_NamedAlgebra.R r)) := by

  refine calls_T (n := 42) (Γ := [(0, strv name1), (1, .int .i64 p1)]) (R := impl_NamedAlgebra.R) Try.func85 rfl rfl (Nat.le_of_ble_eq_true rfl) ⟨rfl, rfl, trivial⟩ ?_
  unfold impl_NamedAlgebra.f
  refine TC.seq ?_
  refine TC.region ?_
  refine TL.alloc [.one (.int .i64 0), .one (.int .i64 0), .arr 216 (enf u8v (fun _ => (0 : UInt8))), .arr 6 (enf u8v (fun _ => (0 : UInt8)))] rfl rfl Try.zeroValue60 rfl fun b_1 => ?_
  refine TL.assign rfl rfl (v := .int .i64 0) rfl ?_
  refine TL.done ?_
  refine TC.seq ?_
  refine TC.seq ?_
  refine TC.region ?_
  refine TL.move rfl rfl (v := .int .i64 p1) rfl ?_
  refine TL.call (R := G.impl_isPrime.R) Try.call84 rfl rfl rfl (fun w hS => G.impl_isPrime.calls w p1) ?_
  rintro r_1 _ _ ⟨rfl, rfl⟩
  refine TL.not r_1 rfl rfl rfl ?_
  refine TL.done ?_
  refine TC.cond (b := (!r_1)) rfl (fun c1 => ?_) (fun c2 => ?_)
  · refine TC.seq ?_
    refine TC.region ?_
    refine TL.buildS (segs0 := [.one (.int .i64 0), .one (.int .i64 0), .arr 216 (enf u8v (fun _ => (0 : UInt8))), .arr 6 (enf u8v (fun _ => (0 : UInt8)))]) (segs := [.one (.int .i64 0), .one (.int .i64 0), .arr 216 (enf u8v (fun _ => (0 : UInt8))), .arr 6 (enf u8v (fun _ => (0 : UInt8)))]) [1, 1, 216, 6] Try.underlying60 ⟨Try.sizeOf2, Try.sizeOf2, Try.sizeOf57, Try.sizeOf58, trivial⟩ Try.zeroValue60 rfl [] rfl (fun pl hpl => by subst hpl; exact rfl) rfl rfl ?_
    refine TL.stM (news := [.one (.int .i64 0), .one (.int .i64 0), .arr 216 (enf u8v (fun _ => (0 : UInt8))), .arr 6 (enf u8v (fun _ => (0 : UInt8)))]) 0 0 4 rfl Try.sizeOf60 (ones_one rfl (ones_one rfl (ones_arr (fun _ => rfl) (ones_arr (fun _ => rfl) ones_nil)))) rfl rfl rfl rfl rfl rfl ?_
    refine TL.assign rfl rfl (v := .int .i64 2) rfl ?_
    refine TL.done ?_
    exact TC.retF (Fin.body (fin2 (.inr rfl) rfl (.cellN rfl (Src.box 0 rfl) Try.isAgg60 Try.sizeOf60 rfl) (.tmp rfl) [] rfl ⟨rfl, rfl⟩))
  · refine TC.skip ?_
    refine TC.seq ?_
    refine TC.seq ?_
    refine TC.region ?_
    refine TL.move rfl rfl (v := strv name1) rfl ?_
    refine TL.done ?_
    refine TC.block NoEx.body ?_
    refine TC.seq ?_
    refine TC.region ?_
    refine TL.strEq name1 ([102, 105, 101, 108, 100] : Str) rfl rfl rfl rfl ?_
    refine TL.assign rfl rfl (v := .bool (name1 == ([102, 105, 101, 108, 100] : Str))) rfl ?_
    refine TL.done ?_
    refine TC.cond (b := (name1 == ([102, 105, 101, 108, 100] : Str))) rfl (fun c3 => ?_) (fun c4 => ?_)
    · refine TC.seq ?_
      refine TC.region ?_
      refine TL.move rfl rfl (v := .int .i64 p1) rfl ?_
      refine TL.buildA (segs0 := [.arr 6 (enf u8v (fun _ => (0 : UInt8)))]) (segs := [.arr 6 (enf u8v (upd (fun _ => (0 : UInt8)) 0 (1 : UInt8)))]) Try.underlying58 Try.sizeOf5 Try.zeroValue58 rfl [(0, u8v (1 : UInt8))] rfl (fill_arr (e := u8v) (z := (1 : UInt8)) (q := 0) (s := 0) 0 rfl rfl rfl rfl rfl rfl (rfl)) rfl rfl ?_
      refine TL.call (R := G.impl_built.R) Try.call98 rfl rfl rfl (fun w hS => G.impl_built.calls w p1 1 (upd (fun _ => (0 : UInt8)) 0 (1 : UInt8)) 99 [] [] G.impl_NamedAlgebra_1.f Try.call99 (fun w_ hle_ x0_ x1_ r_ hr_ => G.impl_NamedAlgebra_1.calls w_ x0_ x1_ r_ hr_)) ?_
      rintro ⟨r_2, r_3, r_4, r_5⟩ _ _ ⟨rfl, rfl⟩
      refine TL.stM (news := [.one (.int .i64 r_2), .one (.int .i64 r_3), .arr 216 (enf u8v r_4), .arr 6 (enf u8v r_5)]) 0 0 4 rfl Try.sizeOf60 (ones_one rfl (ones_one rfl (ones_arr (fun _ => rfl) (ones_arr (fun _ => rfl) ones_nil)))) rfl rfl rfl rfl rfl rfl ?_
      refine TL.assign rfl rfl (v := .int .i64 0) rfl ?_
      refine TL.done ?_
      exact TC.retF (Fin.body (fin2 (.inr rfl) rfl (.cellN rfl (Src.box 0 rfl) Try.isAgg60 Try.sizeOf60 rfl) (.tmp rfl) [] rfl ⟨rfl, rfl⟩))
    · refine TC.seq ?_
      refine TC.region ?_
      refine TL.strEq name1 ([100, 117, 97, 108] : Str) rfl rfl rfl rfl ?_
      refine TL.assign rfl rfl (v := .bool (name1 == ([100, 117, 97, 108] : Str))) rfl ?_
      refine TL.done ?_
      refine TC.cond (b := (name1 == ([100, 117, 97, 108] : Str))) rfl (fun c5 => ?_) (fun c6 => ?_)
      · refine TC.seq ?_
        refine TC.region ?_
        refine TL.move rfl rfl (v := .int .i64 p1) rfl ?_
        refine TL.buildA (segs0 := [.arr 6 (enf u8v (fun _ => (0 : UInt8)))]) (segs := [.arr 6 (enf u8v (upd (upd (fun _ => (0 : UInt8)) 0 (0 : UInt8)) 1 (1 : UInt8)))]) Try.underlying58 Try.sizeOf5 Try.zeroValue58 rfl [(0, u8v (0 : UInt8)), (1, u8v (1 : UInt8))] rfl (fill_arr (e := u8v) (z := (0 : UInt8)) (q := 0) (s := 0) 0 rfl rfl rfl rfl rfl rfl (fill_arr (e := u8v) (z := (1 : UInt8)) (q := 1) (s := 0) 0 rfl rfl rfl rfl rfl rfl (rfl))) rfl rfl ?_
        refine TL.call (R := G.impl_built.R) Try.call98 rfl rfl rfl (fun w hS => G.impl_built.calls w p1 2 (upd (upd (fun _ => (0 : UInt8)) 0 (0 : UInt8)) 1 (1 : UInt8)) 100 [] [] G.impl_NamedAlgebra_2.f Try.call100 (fun w_ hle_ x0_ x1_ r_ hr_ => G.impl_NamedAlgebra_2.calls w_ x0_ x1_ r_ hr_)) ?_
        rintro ⟨r_6, r_7, r_8, r_9⟩ _ _ ⟨rfl, rfl⟩
        refine TL.stM (news := [.one (.int .i64 r_6), .one (.int .i64 r_7), .arr 216 (enf u8v r_8), .arr 6 (enf u8v r_9)]) 0 0 4 rfl Try.sizeOf60 (ones_one rfl (ones_one rfl (ones_arr (fun _ => rfl) (ones_arr (fun _ => rfl) ones_nil)))) rfl rfl rfl rfl rfl rfl ?_
        refine TL.assign rfl rfl (v := .int .i64 0) rfl ?_
        refine TL.done ?_
        exact TC.retF (Fin.body (fin2 (.inr rfl) rfl (.cellN rfl (Src.box 0 rfl) Try.isAgg60 Try.sizeOf60 rfl) (.tmp rfl) [] rfl ⟨rfl, rfl⟩))
      · refine TC.seq ?_
        refine TC.region ?_
        refine TL.strEq name1 ([112, 97, 105, 114] : Str) rfl rfl rfl rfl ?_
        refine TL.assign rfl rfl (v := .bool (name1 == ([112, 97, 105, 114] : Str))) rfl ?_
        refine TL.done ?_
        refine TC.cond (b := (name1 == ([112, 97, 105, 114] : Str))) rfl (fun c7 => ?_) (fun c8 => ?_)
        · refine TC.seq ?_
          refine TC.region ?_
          refine TL.move rfl rfl (v := .int .i64 p1) rfl ?_
          refine TL.buildA (segs0 := [.arr 6 (enf u8v (fun _ => (0 : UInt8)))]) (segs := [.arr 6 (enf u8v (upd (upd (fun _ => (0 : UInt8)) 0 (1 : UInt8)) 1 (1 : UInt8)))]) Try.underlying58 Try.sizeOf5 Try.zeroValue58 rfl [(0, u8v (1 : UInt8)), (1, u8v (1 : UInt8))] rfl (fill_arr (e := u8v) (z := (1 : UInt8)) (q := 0) (s := 0) 0 rfl rfl rfl rfl rfl rfl (fill_arr (e := u8v) (z := (1 : UInt8)) (q := 1) (s := 0) 0 rfl rfl rfl rfl rfl rfl (rfl))) rfl rfl ?_
          refine TL.call (R := G.impl_built.R) Try.call98 rfl rfl rfl (fun w hS => G.impl_built.calls w p1 2 (upd (upd (fun _ => (0 : UInt8)) 0 (1 : UInt8)) 1 (1 : UInt8)) 101 [] [] G.impl_NamedAlgebra_3.f Try.call101 (fun w_ hle_ x0_ x1_ r_ hr_ => G.impl_NamedAlgebra_3.calls w_ x0_ x1_ r_ hr_)) ?_
          rintro ⟨r_10, r_11, r_12, r_13⟩ _ _ ⟨rfl, rfl⟩
          refine TL.stM (news := [.one (.int .i64 r_10), .one (.int .i64 r_11), .arr 216 (enf u8v r_12), .arr 6 (enf u8v r_13)]) 0 0 4 rfl Try.sizeOf60 (ones_one rfl (ones_one rfl (ones_arr (fun _ => rfl) (ones_arr (fun _ => rfl) ones_nil)))) rfl rfl rfl rfl rfl rfl ?_
          refine TL.assign rfl rfl (v := .int .i64 0) rfl ?_
          refine TL.done ?_
          exact TC.retF (Fin.body (fin2 (.inr rfl) rfl (.cellN rfl (Src.box 0 rfl) Try.isAgg60 Try.sizeOf60 rfl) (.tmp rfl) [] rfl ⟨rfl, rfl⟩))
        · refine TC.seq ?_
          refine TC.region ?_
          refine TL.strEq name1 ([99, 121, 99, 108, 105, 99, 51] : Str) rfl rfl rfl rfl ?_
          refine TL.assign rfl rfl (v := .bool (name1 == ([99, 121, 99, 108, 105, 99, 51] : Str))) rfl ?_
          refine TL.done ?_
          refine TC.cond (b := (name1 == ([99, 121, 99, 108, 105, 99, 51] : Str))) rfl (fun c9 => ?_) (fun c10 => ?_)
          · refine TC.seq ?_
            refine TC.region ?_
            refine TL.move rfl rfl (v := .int .i64 p1) rfl ?_
            refine TL.buildA (segs0 := [.arr 6 (enf u8v (fun _ => (0 : UInt8)))]) (segs := [.arr 6 (enf u8v (upd (fun _ => (0 : UInt8)) 0 (1 : UInt8)))]) Try.underlying58 Try.sizeOf5 Try.zeroValue58 rfl [(0, u8v (1 : UInt8))] rfl (fill_arr (e := u8v) (z := (1 : UInt8)) (q := 0) (s := 0) 0 rfl rfl rfl rfl rfl rfl (rfl)) rfl rfl ?_
            refine TL.call (R := G.impl_built.R) Try.call98 rfl rfl rfl (fun w hS => G.impl_built.calls w p1 3 (upd (fun _ => (0 : UInt8)) 0 (1 : UInt8)) 102 [] [] G.impl_NamedAlgebra_4.f Try.call102 (fun w_ hle_ x0_ x1_ r_ hr_ => G.impl_NamedAlgebra_4.calls w_ x0_ x1_ r_ hr_)) ?_
            rintro ⟨r_14, r_15, r_16, r_17⟩ _ _ ⟨rfl, rfl⟩
            refine TL.stM (news := [.one (.int .i64 r_14), .one (.int .i64 r_15), .arr 216 (enf u8v r_16), .arr 6 (enf u8v r_17)]) 0 0 4 rfl Try.sizeOf60 (ones_one rfl (ones_one rfl (ones_arr (fun _ => rfl) (ones_arr (fun _ => rfl) ones_nil)))) rfl rfl rfl rfl rfl rfl ?_
            refine TL.assign rfl rfl (v := .int .i64 0) rfl ?_
            refine TL.done ?_
            exact TC.retF (Fin.body (fin2 (.inr rfl) rfl (.cellN rfl (Src.box 0 rfl) Try.isAgg60 Try.sizeOf60 rfl) (.tmp rfl) [] rfl ⟨rfl, rfl⟩))
          · refine TC.seq ?_
            refine TC.region ?_
            refine TL.strEq name1 ([115, 121, 109, 109, 101, 116, 114, 105, 99] : Str) rfl rfl rfl rfl ?_
            refine TL.assign rfl rfl (v := .bool (name1 == ([115, 121, 109, 109, 101, 116, 114, 105, 99] : Str))) rfl ?_
            refine TL.done ?_
            refine TC.cond (b := (name1 == ([115, 121, 109, 109, 101, 116, 114, 105, 99] : Str))) rfl (fun c11 => ?_) (fun c12 => ?_)
            · refine TC.seq ?_
              refine TC.region ?_
              refine TL.move rfl rfl (v := .int .i64 p1) rfl ?_
              refine TL.buildA (segs0 := [.arr 6 (enf u8v (fun _ => (0 : UInt8)))]) (segs := [.arr 6 (enf u8v (upd (fun _ => (0 : UInt8)) 0 (1 : UInt8)))]) Try.underlying58 Try.sizeOf5 Try.zeroValue58 rfl [(0, u8v (1 : UInt8))] rfl (fill_arr (e := u8v) (z := (1 : UInt8)) (q := 0) (s := 0) 0 rfl rfl rfl rfl rfl rfl (rfl)) rfl rfl ?_
              refine TL.call (R := G.impl_built.R) Try.call98 rfl rfl rfl (fun w hS => G.impl_built.calls w p1 6 (upd (fun _ => (0 : UInt8)) 0 (1 : UInt8)) 103 [] [] G.impl_composed.f Try.call103 (fun w_ hle_ x0_ x1_ r_ hr_ => G.impl_composed.calls w_ x0_ x1_ r_ hr_)) ?_
              rintro ⟨r_18, r_19, r_20, r_21⟩ _ _ ⟨rfl, rfl⟩
              refine TL.stM (news := [.one (.int .i64 r_18), .one (.int .i64 r_19), .arr 216 (enf u8v r_20), .arr 6 (enf u8v r_21)]) 0 0 4 rfl Try.sizeOf60 (ones_one rfl (ones_one rfl (ones_arr (fun _ => rfl) (ones_arr (fun _ => rfl) ones_nil)))) rfl rfl rfl rfl rfl rfl ?_
              refine TL.assign rfl rfl (v := .int .i64 0) rfl ?_
              refine TL.done ?_
              exact TC.retF (Fin.body (fin2 (.inr rfl) rfl (.cellN rfl (Src.box 0 rfl) Try.isAgg60 Try.sizeOf60 rfl) (.tmp rfl) [] rfl ⟨rfl, rfl⟩))
            · refine TC.seq ?_
              refine TC.region ?_
              refine TL.strEq name1 ([109, 97, 116, 114, 105, 120] : Str) rfl rfl rfl rfl ?_
              refine TL.assign rfl rfl (v := .bool (name1 == ([109, 97, 116, 114, 105, 120] : Str))) rfl ?_
              refine TL.done ?_
              refine TC.cond (b := (name1 == ([109, 97, 116, 114, 105, 120] : Str))) rfl (fun c13 => ?_) (fun c14 => ?_)
              · refine TC.seq ?_
                refine TC.region ?_
                refine TL.move rfl rfl (v := .int .i64 p1) rfl ?_
                refine TL.buildA (segs0 := [.arr 6 (enf u8v (fun _ => (0 : UInt8)))]) (segs := [.arr 6 (enf u8v (upd (upd (upd (upd (fun _ => (0 : UInt8)) 0 (1 : UInt8)) 1 (0 : UInt8)) 2 (0 : UInt8)) 3 (1 : UInt8)))]) Try.underlying58 Try.sizeOf5 Try.zeroValue58 rfl [(0, u8v (1 : UInt8)), (1, u8v (0 : UInt8)), (2, u8v (0 : UInt8)), (3, u8v (1 : UInt8))] rfl (fill_arr (e := u8v) (z := (1 : UInt8)) (q := 0) (s := 0) 0 rfl rfl rfl rfl rfl rfl (fill_arr (e := u8v) (z := (0 : UInt8)) (q := 1) (s := 0) 0 rfl rfl rfl rfl rfl rfl (fill_arr (e := u8v) (z := (0 : UInt8)) (q := 2) (s := 0) 0 rfl rfl rfl rfl rfl rfl (fill_arr (e := u8v) (z := (1 : UInt8)) (q := 3) (s := 0) 0 rfl rfl rfl rfl rfl rfl (rfl))))) rfl rfl ?_
                refine TL.call (R := G.impl_built.R) Try.call98 rfl rfl rfl (fun w hS => G.impl_built.calls w p1 4 (upd (upd (upd (upd (fun _ => (0 : UInt8)) 0 (1 : UInt8)) 1 (0 : UInt8)) 2 (0 : UInt8)) 3 (1 : UInt8)) 104 [] [] G.impl_NamedAlgebra_5.f Try.call104 (fun w_ hle_ x0_ x1_ r_ hr_ => G.impl_NamedAlgebra_5.calls w_ x0_ x1_ r_ hr_)) ?_
                rintro ⟨r_22, r_23, r_24, r_25⟩ _ _ ⟨rfl, rfl⟩
                refine TL.stM (news := [.one (.int .i64 r_22), .one (.int .i64 r_23), .arr 216 (enf u8v r_24), .arr 6 (enf u8v r_25)]) 0 0 4 rfl Try.sizeOf60 (ones_one rfl (ones_one rfl (ones_arr (fun _ => rfl) (ones_arr (fun _ => rfl) ones_nil)))) rfl rfl rfl rfl rfl rfl ?_
                refine TL.assign rfl rfl (v := .int .i64 0) rfl ?_
                refine TL.done ?_
                exact TC.retF (Fin.body (fin2 (.inr rfl) rfl (.cellN rfl (Src.box 0 rfl) Try.isAgg60 Try.sizeOf60 rfl) (.tmp rfl) [] rfl ⟨rfl, rfl⟩))
              · refine TC.skip ?_
                refine TC.seq ?_
                refine TC.region ?_
                refine TL.buildS (segs0 := [.one (.int .i64 0), .one (.int .i64 0), .arr 216 (enf u8v (fun _ => (0 : UInt8))), .arr 6 (enf u8v (fun _ => (0 : UInt8)))]) (segs := [.one (.int .i64 0), .one (.int .i64 0), .arr 216 (enf u8v (fun _ => (0 : UInt8))), .arr 6 (enf u8v (fun _ => (0 : UInt8)))]) [1, 1, 216, 6] Try.underlying60 ⟨Try.sizeOf2, Try.sizeOf2, Try.sizeOf57, Try.sizeOf58, trivial⟩ Try.zeroValue60 rfl [] rfl (fun pl hpl => by subst hpl; exact rfl) rfl rfl ?_
                refine TL.stM (news := [.one (.int .i64 0), .one (.int .i64 0), .arr 216 (enf u8v (fun _ => (0 : UInt8))), .arr 6 (enf u8v (fun _ => (0 : UInt8)))]) 0 0 4 rfl Try.sizeOf60 (ones_one rfl (ones_one rfl (ones_arr (fun _ => rfl) (ones_arr (fun _ => rfl) ones_nil)))) rfl rfl rfl rfl rfl rfl ?_
                refine TL.assign rfl rfl (v := .int .i64 4) rfl ?_
                refine TL.done ?_
                exact TC.retF (Fin.body (fin2 (.inr rfl) rfl (.cellN rfl (Src.box 0 rfl) Try.isAgg60 Try.sizeOf60 rfl) (.tmp rfl) [] rfl ⟨rfl, rfl⟩))

end Go.Proofs.Ytjjfoofjipafiaa.G

/- impl.MatrixPair, as a pure function. -/
set_option linter.unusedVariables false
namespace Go.Proofs.Ytjjfoofjipafiaa.G
open Go Go.Sx Go.Proofs

def impl_MatrixPair.f (p1 : Int) (s1 : Int) : Option (Int × Int × (Nat → UInt8) × (Nat → UInt8) × Int × Int × (Nat → UInt8) × (Nat → UInt8) × (Nat → UInt8) × Int) := (G.impl_isPrime.f p1).bind (fun r_1 => (bif (!r_1) then some true else (G.impl_in.f s1 1 (w64 (p1 - 1))).bind (fun r_2 => some (!r_2))).bind (fun b_2 => (bif b_2 then some (0, 0, (fun _ => (0 : UInt8)), (fun _ => (0 : UInt8)), 0, 0, (fun _ => (0 : UInt8)), (fun _ => (0 : UInt8)), (fun _ => (0 : UInt8)), 2) else (G.impl_NamedAlgebra.f ([102, 105, 101, 108, 100] : Str) p1).bind (fun p => match p with | (r_3, r_4, r_5, r_6, r_7) => nz p1 ((G.impl_NamedAlgebra.f ([109, 97, 116, 114, 105, 120] : Str) p1).bind (fun p => match p with | (r_8, r_9, r_10, r_11, r_12) => some (r_3, r_4, r_5, (upd r_6 0 (UInt8.ofInt (Int.tmod (w64 (s1 * s1)) p1))), r_8, r_9, r_10, (upd (upd (upd (upd (fun _ => (0 : UInt8)) 0 (UInt8.ofInt s1)) 1 (0 : UInt8)) 2 (0 : UInt8)) 3 (UInt8.ofInt s1)), (updN (fun _ => (0 : UInt8)) 0 6 (upd (upd (upd (upd (fun _ => (0 : UInt8)) 0 (1 : UInt8)) 1 (0 : UInt8)) 2 (0 : UInt8)) 3 (1 : UInt8))), 0)))))))

def impl_MatrixPair.R (r : Int × Int × (Nat → UInt8) × (Nat → UInt8) × Int × Int × (Nat → UInt8) × (Nat → UInt8) × (Nat → UInt8) × Int) (v : Value) (L : List Asn) : Prop := v = .tuple #[sval [.one (.int .i64 r.1), .one (.int .i64 r.2.1), .arr 216 (enf u8v r.2.2.1), .arr 6 (enf u8v r.2.2.2.1), .one (.int .i64 r.2.2.2.2.1), .one (.int .i64 r.2.2.2.2.2.1), .arr 216 (enf u8v r.2.2.2.2.2.2.1), .arr 6 (enf u8v r.2.2.2.2.2.2.2.1), .arr 36 (enf u8v r.2.2.2.2.2.2.2.2.1)], .int .i64 r.2.2.2.2.2.2.2.2.2] ∧ L = []

set_option maxRecDepth 100000 in
set_option maxHeartbeats 4000000 in
theorem impl_MatrixPair.calls (w : World) (p1 : Int) (s1 : Int) :
    ∀ r, impl_MatrixPair.f p1 s1 = some r → Calls Try.prog 42 #[.int .i64 p1, .int .i64 s1] w (Ret w (impl_MatrixPair.R r)) := by

  refine calls_T (n := 51) (Γ := [(0, .int .i64 p1), (1, .int .i64 s1)]) (R := impl_MatrixPair.R) Try.func42 rfl rfl (Nat.le_of_ble_eq_true rfl) ⟨rfl, rfl, trivial⟩ ?_
  unfold impl_MatrixPair.f
  refine TC.seq ?_
  refine TC.region ?_
  refine TL.alloc [.one (.int .i64 0), .one (.int .i64 0), .arr 216 (enf u8v (fun _ => (0 : UInt8))), .arr 6 (enf u8v (fun _ => (0 : UInt8))), .one (.int .i64 0), .one (.int .i64 0), .arr 216 (enf u8v (fun _ => (0 : UInt8))), .arr 6 (enf u8v (fun _ => (0 : UInt8))), .arr 36 (enf u8v (fun _ => (0 : UInt8)))] rfl rfl Try.zeroValue63 rfl fun b_1 => ?_
  refine TL.assign rfl rfl (v := .int .i64 0) rfl ?_
  refine TL.done ?_
  refine TC.seq ?_
  refine TC.seq ?_
  refine TC.region ?_
  refine TL.move rfl rfl (v := .int .i64 p1) rfl ?_
  refine TL.call (R := G.impl_isPrime.R) Try.call84 rfl rfl rfl (fun w hS => G.impl_isPrime.calls w p1) ?_
  rintro r_1 _ _ ⟨rfl, rfl⟩
  refine TL.not r_1 rfl rfl rfl ?_
  refine TL.move rfl rfl (v := .bool (!r_1)) rfl ?_
  refine TL.cutJ (σ := Bool) (γ := Unit) (Γ' := fun b_2 _ => [(16, .bool b_2), (0, .int .i64 p1), (1, .int .i64 s1), (4, bp b_1 0), (5, .int .i64 0), (7, .int .i64 p1), (8, .bool r_1), (9, .bool (!r_1)), (10, .bool (!r_1))]) (L' := fun _ _ => [box b_1 63 [.one (.int .i64 0), .one (.int .i64 0), .arr 216 (enf u8v (fun _ => (0 : UInt8))), .arr 6 (enf u8v (fun _ => (0 : UInt8))), .one (.int .i64 0), .one (.int .i64 0), .arr 216 (enf u8v (fun _ => (0 : UInt8))), .arr 6 (enf u8v (fun _ => (0 : UInt8))), .arr 36 (enf u8v (fun _ => (0 : UInt8)))]]) 6 ?_ ?_
  · refine TL.ifb (t := 10) (b := (!r_1)) rfl (fun c1 => ?_) (fun c2 => ?_)
    · refine TL.skip rfl rfl (by decide) ?_
      refine TL.skip rfl rfl (by decide) ?_
      refine TL.skip rfl rfl (by decide) ?_
      refine TL.skip rfl rfl (by decide) ?_
      refine TL.skip rfl rfl (by decide) ?_
      refine TL.pick rfl rfl (b := true) rfl (r := .bool true) rfl ?_
      refine TL.done ?_
      exact TC.nrm (true) () ⟨rfl, rfl, rfl, rfl, rfl, rfl, rfl, rfl, (by rw [c1]; rfl), trivial⟩ [0] (by kernel_rfl)
    · refine TL.move rfl rfl (v := .int .i64 s1) rfl ?_
      refine TL.move rfl rfl (v := .int .i64 p1) rfl ?_
      refine TL.bin .i64 p1 1 rfl rfl rfl rfl (v := .int .i64 (w64 (p1 - 1))) rfl ?_
      refine TL.call (R := G.impl_in.R) Try.call62 rfl rfl rfl (fun w hS => G.impl_in.calls w s1 1 (w64 (p1 - 1))) ?_
      rintro r_2 _ _ ⟨rfl, rfl⟩
      refine TL.not r_2 rfl rfl rfl ?_
      refine TL.pick rfl rfl (b := false) rfl (r := .bool (!r_2)) rfl ?_
      refine TL.done ?_
      exact TC.nrm ((!r_2)) () ⟨rfl, rfl, rfl, rfl, rfl, rfl, rfl, rfl, (by rw [c2]; rfl), trivial⟩ [0] (by kernel_rfl)
  · rintro b_2 _
    refine TL.done ?_
    refine TC.cond (b := b_2) rfl (fun c3 => ?_) (fun c4 => ?_)
    · refine TC.seq ?_
      refine TC.region ?_
      refine TL.buildS (segs0 := [.one (.int .i64 0), .one (.int .i64 0), .arr 216 (enf u8v (fun _ => (0 : UInt8))), .arr 6 (enf u8v (fun _ => (0 : UInt8))), .one (.int .i64 0), .one (.int .i64 0), .arr 216 (enf u8v (fun _ => (0 : UInt8))), .arr 6 (enf u8v (fun _ => (0 : UInt8))), .arr 36 (enf u8v (fun _ => (0 : UInt8)))]) (segs := [.one (.int .i64 0), .one (.int .i64 0), .arr 216 (enf u8v (fun _ => (0 : UInt8))), .arr 6 (enf u8v (fun _ => (0 : UInt8))), .one (.int .i64 0), .one (.int .i64 0), .arr 216 (enf u8v (fun _ => (0 : UInt8))), .arr 6 (enf u8v (fun _ => (0 : UInt8))), .arr 36 (enf u8v (fun _ => (0 : UInt8)))]) [224, 224, 36] Try.underlying63 ⟨Try.sizeOf60, Try.sizeOf60, Try.sizeOf61, trivial⟩ Try.zeroValue63 rfl [] rfl (fun pl hpl => by subst hpl; exact rfl) rfl rfl ?_
      refine TL.stM (news := [.one (.int .i64 0), .one (.int .i64 0), .arr 216 (enf u8v (fun _ => (0 : UInt8))), .arr 6 (enf u8v (fun _ => (0 : UInt8))), .one (.int .i64 0), .one (.int .i64 0), .arr 216 (enf u8v (fun _ => (0 : UInt8))), .arr 6 (enf u8v (fun _ => (0 : UInt8))), .arr 36 (enf u8v (fun _ => (0 : UInt8)))]) 0 0 9 rfl Try.sizeOf63 (ones_one rfl (ones_one rfl (ones_arr (fun _ => rfl) (ones_arr (fun _ => rfl) (ones_one rfl (ones_one rfl (ones_arr (fun _ => rfl) (ones_arr (fun _ => rfl) (ones_arr (fun _ => rfl) ones_nil))))))))) rfl rfl rfl rfl rfl rfl ?_
      refine TL.assign rfl rfl (v := .int .i64 2) rfl ?_
      refine TL.done ?_
      exact TC.retF (Fin.body (fin2 (.inr rfl) rfl (.cellN rfl (Src.box 0 rfl) Try.isAgg63 Try.sizeOf63 rfl) (.tmp rfl) [] rfl ⟨rfl, rfl⟩))
    · refine TC.skip ?_
      refine TC.seq ?_
      refine TC.region ?_
      refine TL.buildS (segs0 := [.one (.int .i64 0), .one (.int .i64 0), .arr 216 (enf u8v (fun _ => (0 : UInt8))), .arr 6 (enf u8v (fun _ => (0 : UInt8))), .one (.int .i64 0), .one (.int .i64 0), .arr 216 (enf u8v (fun _ => (0 : UInt8))), .arr 6 (enf u8v (fun _ => (0 : UInt8))), .arr 36 (enf u8v (fun _ => (0 : UInt8)))]) (segs := [.one (.int .i64 0), .one (.int .i64 0), .arr 216 (enf u8v (fun _ => (0 : UInt8))), .arr 6 (enf u8v (fun _ => (0 : UInt8))), .one (.int .i64 0), .one (.int .i64 0), .arr 216 (enf u8v (fun _ => (0 : UInt8))), .arr 6 (enf u8v (fun _ => (0 : UInt8))), .arr 36 (enf u8v (fun _ => (0 : UInt8)))]) [224, 224, 36] Try.underlying63 ⟨Try.sizeOf60, Try.sizeOf60, Try.sizeOf61, trivial⟩ Try.zeroValue63 rfl [] rfl (fun pl hpl => by subst hpl; exact rfl) rfl rfl ?_
      refine TL.alloc [.one (.int .i64 0), .one (.int .i64 0), .arr 216 (enf u8v (fun _ => (0 : UInt8))), .arr 6 (enf u8v (fun _ => (0 : UInt8))), .one (.int .i64 0), .one (.int .i64 0), .arr 216 (enf u8v (fun _ => (0 : UInt8))), .arr 6 (enf u8v (fun _ => (0 : UInt8))), .arr 36 (enf u8v (fun _ => (0 : UInt8)))] rfl rfl Try.zeroValue63 rfl fun b_3 => ?_
      refine TL.stM (news := [.one (.int .i64 0), .one (.int .i64 0), .arr 216 (enf u8v (fun _ => (0 : UInt8))), .arr 6 (enf u8v (fun _ => (0 : UInt8))), .one (.int .i64 0), .one (.int .i64 0), .arr 216 (enf u8v (fun _ => (0 : UInt8))), .arr 6 (enf u8v (fun _ => (0 : UInt8))), .arr 36 (enf u8v (fun _ => (0 : UInt8)))]) 0 0 9 rfl Try.sizeOf63 (ones_one rfl (ones_one rfl (ones_arr (fun _ => rfl) (ones_arr (fun _ => rfl) (ones_one rfl (ones_one rfl (ones_arr (fun _ => rfl) (ones_arr (fun _ => rfl) (ones_arr (fun _ => rfl) ones_nil))))))))) rfl rfl rfl rfl rfl rfl ?_
      refine TL.done ?_
      refine TC.seq ?_
      refine TC.region ?_
      refine TL.move rfl rfl (v := .int .i64 p1) rfl ?_
      refine TL.call (R := G.impl_NamedAlgebra.R) Try.call85 rfl rfl rfl (fun w hS => G.impl_NamedAlgebra.calls w ([102, 105, 101, 108, 100] : Str) p1) ?_
      rintro ⟨r_3, r_4, r_5, r_6, r_7⟩ _ _ ⟨rfl, rfl⟩
      refine TL.move rfl rfl (v := .tuple #[sval [.one (.int .i64 r_3), .one (.int .i64 r_4), .arr 216 (enf u8v r_5), .arr 6 (enf u8v r_6)], .int .i64 r_7]) rfl ?_
      refine TL.extract rfl rfl rfl (v := sval [.one (.int .i64 r_3), .one (.int .i64 r_4), .arr 216 (enf u8v r_5), .arr 6 (enf u8v r_6)]) rfl ?_
      refine TL.extract rfl rfl rfl (v := .int .i64 r_7) rfl ?_
      refine TL.fa Try.underlying63 rfl Try.sizeOf60 rfl 0 rfl rfl rfl rfl ?_
      refine TL.stM (news := [.one (.int .i64 r_3), .one (.int .i64 r_4), .arr 216 (enf u8v r_5), .arr 6 (enf u8v r_6)]) 0 0 4 rfl Try.sizeOf60 (ones_one rfl (ones_one rfl (ones_arr (fun _ => rfl) (ones_arr (fun _ => rfl) ones_nil)))) rfl rfl rfl rfl rfl rfl ?_
      refine TL.done ?_
      refine TC.seq ?_
      refine TC.region ?_
      refine TL.move rfl rfl (v := .int .i64 s1) rfl ?_
      refine TL.move rfl rfl (v := .int .i64 s1) rfl ?_
      refine TL.bin .i64 s1 s1 rfl rfl rfl rfl (v := .int .i64 (w64 (s1 * s1))) rfl ?_
      refine TL.move rfl rfl (v := .int .i64 p1) rfl ?_
      refine TL.nz fun z1 => ?_
      refine TL.rem .i64 (w64 (s1 * s1)) p1 z1 rfl rfl rfl rfl ?_
      refine TL.conv .i64 .u8 (Int.tmod (w64 (s1 * s1)) p1) _ rfl rfl rfl Try.underlying2 Try.underlying5 (v := u8v (UInt8.ofInt (Int.tmod (w64 (s1 * s1)) p1))) (conv_i64_u8 _) ?_
      refine TL.fa Try.underlying63 rfl Try.sizeOf60 rfl 0 rfl rfl rfl rfl ?_
      refine TL.fa Try.underlying60 rfl Try.sizeOf58 rfl 218 rfl rfl rfl rfl ?_
      refine TL.ixa 0 218 (by decide) Try.underlying58 Try.sizeOf5 rfl rfl rfl rfl rfl ?_
      refine TL.stA (e := u8v) (z := (UInt8.ofInt (Int.tmod (w64 (s1 * s1)) p1))) 0 3 0 rfl Try.sizeOf5 rfl (by omega) (s := 218) rfl rfl rfl rfl rfl rfl rfl ?_
      refine TL.done ?_
      refine TC.seq ?_
      refine TC.region ?_
      refine TL.move rfl rfl (v := .int .i64 p1) rfl ?_
      refine TL.call (R := G.impl_NamedAlgebra.R) Try.call85 rfl rfl rfl (fun w hS => G.impl_NamedAlgebra.calls w ([109, 97, 116, 114, 105, 120] : Str) p1) ?_
      rintro ⟨r_8, r_9, r_10, r_11, r_12⟩ _ _ ⟨rfl, rfl⟩
      refine TL.move rfl rfl (v := .tuple #[sval [.one (.int .i64 r_8), .one (.int .i64 r_9), .arr 216 (enf u8v r_10), .arr 6 (enf u8v r_11)], .int .i64 r_12]) rfl ?_
      refine TL.extract rfl rfl rfl (v := sval [.one (.int .i64 r_8), .one (.int .i64 r_9), .arr 216 (enf u8v r_10), .arr 6 (enf u8v r_11)]) rfl ?_
      refine TL.extract rfl rfl rfl (v := .int .i64 r_12) rfl ?_
      refine TL.fa Try.underlying63 rfl Try.sizeOf60 rfl 224 rfl rfl rfl rfl ?_
      refine TL.stM (news := [.one (.int .i64 r_8), .one (.int .i64 r_9), .arr 216 (enf u8v r_10), .arr 6 (enf u8v r_11)]) 0 4 4 rfl Try.sizeOf60 (ones_one rfl (ones_one rfl (ones_arr (fun _ => rfl) (ones_arr (fun _ => rfl) ones_nil)))) rfl rfl rfl rfl rfl rfl ?_
      refine TL.done ?_
      refine TC.seq ?_
      refine TC.region ?_
      refine TL.move rfl rfl (v := .int .i64 s1) rfl ?_
      refine TL.conv .i64 .u8 s1 _ rfl rfl rfl Try.underlying2 Try.underlying5 (v := u8v (UInt8.ofInt s1)) (conv_i64_u8 _) ?_
      refine TL.move rfl rfl (v := .int .i64 s1) rfl ?_
      refine TL.conv .i64 .u8 s1 _ rfl rfl rfl Try.underlying2 Try.underlying5 (v := u8v (UInt8.ofInt s1)) (conv_i64_u8 _) ?_
      refine TL.buildA (segs0 := [.arr 6 (enf u8v (fun _ => (0 : UInt8)))]) (segs := [.arr 6 (enf u8v (upd (upd (upd (upd (fun _ => (0 : UInt8)) 0 (UInt8.ofInt s1)) 1 (0 : UInt8)) 2 (0 : UInt8)) 3 (UInt8.ofInt s1)))]) Try.underlying58 Try.sizeOf5 Try.zeroValue58 rfl [(0, u8v (UInt8.ofInt s1)), (1, u8v (0 : UInt8)), (2, u8v (0 : UInt8)), (3, u8v (UInt8.ofInt s1))] rfl (fill_arr (e := u8v) (z := (UInt8.ofInt s1)) (q := 0) (s := 0) 0 rfl rfl rfl rfl rfl rfl (fill_arr (e := u8v) (z := (0 : UInt8)) (q := 1) (s := 0) 0 rfl rfl rfl rfl rfl rfl (fill_arr (e := u8v) (z := (0 : UInt8)) (q := 2) (s := 0) 0 rfl rfl rfl rfl rfl rfl (fill_arr (e := u8v) (z := (UInt8.ofInt s1)) (q := 3) (s := 0) 0 rfl rfl rfl rfl rfl rfl (rfl))))) rfl rfl ?_
      refine TL.fa Try.underlying63 rfl Try.sizeOf60 rfl 224 rfl rfl rfl rfl ?_
      refine TL.fa Try.underlying60 rfl Try.sizeOf58 rfl 442 rfl rfl rfl rfl ?_
      refine TL.stM (news := [.arr 6 (enf u8v (upd (upd (upd (upd (fun _ => (0 : UInt8)) 0 (UInt8.ofInt s1)) 1 (0 : UInt8)) 2 (0 : UInt8)) 3 (UInt8.ofInt s1)))]) 0 7 1 rfl Try.sizeOf58 (ones_arr (fun _ => rfl) ones_nil) rfl rfl rfl rfl rfl rfl ?_
      refine TL.done ?_
      refine TC.seq ?_
      refine TC.region ?_
      refine TL.buildA (segs0 := [.arr 6 (enf u8v (fun _ => (0 : UInt8)))]) (segs := [.arr 6 (enf u8v (upd (upd (upd (upd (fun _ => (0 : UInt8)) 0 (1 : UInt8)) 1 (0 : UInt8)) 2 (0 : UInt8)) 3 (1 : UInt8)))]) Try.underlying58 Try.sizeOf5 Try.zeroValue58 rfl [(0, u8v (1 : UInt8)), (1, u8v (0 : UInt8)), (2, u8v (0 : UInt8)), (3, u8v (1 : UInt8))] rfl (fill_arr (e := u8v) (z := (1 : UInt8)) (q := 0) (s := 0) 0 rfl rfl rfl rfl rfl rfl (fill_arr (e := u8v) (z := (0 : UInt8)) (q := 1) (s := 0) 0 rfl rfl rfl rfl rfl rfl (fill_arr (e := u8v) (z := (0 : UInt8)) (q := 2) (s := 0) 0 rfl rfl rfl rfl rfl rfl (fill_arr (e := u8v) (z := (1 : UInt8)) (q := 3) (s := 0) 0 rfl rfl rfl rfl rfl rfl (rfl))))) rfl rfl ?_
      refine TL.fa Try.underlying63 rfl Try.sizeOf61 rfl 448 rfl rfl rfl rfl ?_
      refine TL.ixa 0 448 (by decide) Try.underlying61 Try.sizeOf58 rfl rfl rfl rfl rfl ?_
      refine TL.stS (e := u8v) 0 8 0 rfl Try.sizeOf58 (fun _ => rfl) rfl (by omega) (s := 448) rfl rfl rfl rfl rfl ?_
      refine TL.done ?_
      refine TC.seq ?_
      refine TC.region ?_
      refine TL.loadM 0 9 (Src.box 0 rfl) Try.isAgg63 Try.sizeOf63 (mid := [.one (.int .i64 r_3), .one (.int .i64 r_4), .arr 216 (enf u8v r_5), .arr 6 (enf u8v (upd r_6 0 (UInt8.ofInt (Int.tmod (w64 (s1 * s1)) p1)))), .one (.int .i64 r_8), .one (.int .i64 r_9), .arr 216 (enf u8v r_10), .arr 6 (enf u8v (upd (upd (upd (upd (fun _ => (0 : UInt8)) 0 (UInt8.ofInt s1)) 1 (0 : UInt8)) 2 (0 : UInt8)) 3 (UInt8.ofInt s1))), .arr 36 (enf u8v (updN (fun _ => (0 : UInt8)) 0 6 (upd (upd (upd (upd (fun _ => (0 : UInt8)) 0 (1 : UInt8)) 1 (0 : UInt8)) 2 (0 : UInt8)) 3 (1 : UInt8))))]) rfl rfl rfl rfl rfl rfl ?_
      refine TL.stM (news := [.one (.int .i64 r_3), .one (.int .i64 r_4), .arr 216 (enf u8v r_5), .arr 6 (enf u8v (upd r_6 0 (UInt8.ofInt (Int.tmod (w64 (s1 * s1)) p1)))), .one (.int .i64 r_8), .one (.int .i64 r_9), .arr 216 (enf u8v r_10), .arr 6 (enf u8v (upd (upd (upd (upd (fun _ => (0 : UInt8)) 0 (UInt8.ofInt s1)) 1 (0 : UInt8)) 2 (0 : UInt8)) 3 (UInt8.ofInt s1))), .arr 36 (enf u8v (updN (fun _ => (0 : UInt8)) 0 6 (upd (upd (upd (upd (fun _ => (0 : UInt8)) 0 (1 : UInt8)) 1 (0 : UInt8)) 2 (0 : UInt8)) 3 (1 : UInt8))))]) 1 0 9 rfl Try.sizeOf63 (ones_one rfl (ones_one rfl (ones_arr (fun _ => rfl) (ones_arr (fun _ => rfl) (ones_one rfl (ones_one rfl (ones_arr (fun _ => rfl) (ones_arr (fun _ => rfl) (ones_arr (fun _ => rfl) ones_nil))))))))) rfl rfl rfl rfl rfl rfl ?_
      refine TL.assign rfl rfl (v := .int .i64 0) rfl ?_
      refine TL.done ?_
      exact TC.retF (Fin.body (fin2 (.inr rfl) rfl (.cellN rfl (Src.box 1 rfl) Try.isAgg63 Try.sizeOf63 rfl) (.tmp rfl) [] rfl ⟨rfl, rfl⟩))

end Go.Proofs.Ytjjfoofjipafiaa.G

/- laws.eqVector, as a pure function. -/
set_option linter.unusedVariables false
namespace Go.Proofs.Ytjjfoofjipafiaa.G
open Go Go.Sx Go.Proofs

def laws_eqVector.b0 (a_1 : Nat → UInt8) (b_1 : Nat → UInt8) : Int → Option (LR Int Bool) := fun i1 => (bif (decide (i1 < 6)) then chk i1 6 ((bif (((a_1 i1.toNat).toNat : Int) != ((b_1 i1.toNat).toNat : Int)) then some (.ret (false)) else some (.next (w64 (i1 + 1))))) else some (.brk i1))

def laws_eqVector.f (a_1 : Nat → UInt8) (b_1 : Nat → UInt8) : Option Bool := (loop (laws_eqVector.b0 a_1 b_1) 0).bind (ln (fun i1 => some true))

def laws_eqVector.R (r : Bool) (v : Value) (L : List Asn) : Prop := v = .bool r ∧ L = []

set_option maxRecDepth 100000 in
set_option maxHeartbeats 4000000 in
theorem laws_eqVector.calls (w : World) (a_1 : Nat → UInt8) (b_1 : Nat → UInt8) :
    ∀ r, laws_eqVector.f a_1 b_1 = some r → Calls Try.prog 76 #[sval [.arr 6 (enf u8v a_1)], sval [.arr 6 (enf u8v b_1)]] w (Ret w (laws_eqVector.R r)) := by

  refine calls_T (n := 17) (Γ := [(0, sval [.arr 6 (enf u8v a_1)]), (1, sval [.arr 6 (enf u8v b_1)])]) (R := laws_eqVector.R) Try.func76 rfl rfl (Nat.le_of_ble_eq_true rfl) ⟨rfl, rfl, trivial⟩ ?_
  unfold laws_eqVector.f
  refine TC.seq ?_
  refine TC.region ?_
  refine TL.box [.arr 6 (enf u8v a_1)] rfl rfl rfl rfl fun b_2 => ?_
  refine TL.box [.arr 6 (enf u8v b_1)] rfl rfl rfl rfl fun b_3 => ?_
  refine TL.assign rfl rfl (v := .bool false) rfl ?_
  refine TL.done ?_
  refine TC.seq ?_
  refine TC.seq ?_
  refine TC.region ?_
  refine TL.assign rfl rfl (v := .int .i64 0) rfl ?_
  refine TL.done ?_
  refine TC.loopK (σ := Int) (γ := Unit) (Γ' := (fun i1 _ => [(2, bp b_2 0), (3, bp b_3 0), (5, .int .i64 i1)])) (L' := (fun i1 _ => [box b_2 58 [.arr 6 (enf u8v a_1)], box b_3 58 [.arr 6 (enf u8v b_1)]])) (Γb := (fun i1 _ => [(2, bp b_2 0), (3, bp b_3 0), (5, .int .i64 i1)])) (Lb := (fun i1 _ => [box b_2 58 [.arr 6 (enf u8v a_1)], box b_3 58 [.arr 6 (enf u8v b_1)]])) (0) (()) ⟨rfl, rfl, rfl, trivial⟩ [1, 0] rfl ?_ ?_
  · rintro i1 _
    refine TC.seq ?_
    refine TC.seq ?_
    refine TC.region ?_
    refine TL.move rfl rfl (v := .int .i64 i1) rfl ?_
    refine TL.bin .i64 i1 6 rfl rfl rfl rfl (v := .bool (decide (i1 < 6))) rfl ?_
    refine TL.done ?_
    refine TC.cond (b := (decide (i1 < 6))) rfl (fun c1 => ?_) (fun c2 => ?_)
    · refine TC.skip ?_
      refine TC.seq ?_
      refine TC.block (NoEx.loop rfl NoEx.body) ?_
      refine TC.seq ?_
      refine TC.wk (Γ' := [(2, bp b_2 0), (3, bp b_3 0), (5, .int .i64 i1), (6, .int .i64 i1), (7, .bool (decide (i1 < 6)))]) ⟨rfl, rfl, rfl, rfl, rfl, trivial⟩ ?_
      refine TC.chk fun h1 => ?_
      refine TC.draw [.int .i64 i1, bp b_2 i1.toNat, u8v (a_1 i1.toNat), .int .i64 i1, bp b_3 i1.toNat, u8v (b_1 i1.toNat), .bool (((a_1 i1.toNat).toNat : Int) != ((b_1 i1.toNat).toNat : Int))] 7 [box b_2 58 [.arr 6 (enf u8v a_1)], box b_3 58 [.arr 6 (enf u8v b_1)]] (by kernel_rfl) rfl rfl rfl rfl ?_ ?_
      · refine ⟨?_, ?_, ?_, ?_, ?_, ?_, ?_, trivial⟩
        · refine TL.move rfl rfl (v := .int .i64 i1) rfl ?_
          refine TL.done ?_
          exact TC.nrm () () ⟨rfl, trivial⟩ [0, 0] (by kernel_rfl)
        · refine TL.ixa i1 i1.toNat h1 Try.underlying58 Try.sizeOf5 rfl rfl rfl rfl (by omega) ?_
          refine TL.done ?_
          exact TC.nrm () () ⟨rfl, trivial⟩ [0, 0] (by kernel_rfl)
        · refine TL.loadA i1.toNat 0 (Src.box 0 rfl) Try.isAgg5 rfl (by omega) (v := u8v (a_1 i1.toNat)) rfl (st := 0) rfl (by omega) rfl rfl rfl ?_
          refine TL.done ?_
          exact TC.nrm () () ⟨rfl, trivial⟩ [0, 0] (by kernel_rfl)
        · refine TL.move rfl rfl (v := .int .i64 i1) rfl ?_
          refine TL.done ?_
          exact TC.nrm () () ⟨rfl, trivial⟩ [0, 0] (by kernel_rfl)
        · refine TL.ixa i1 i1.toNat h1 Try.underlying58 Try.sizeOf5 rfl rfl rfl rfl (by omega) ?_
          refine TL.done ?_
          exact TC.nrm () () ⟨rfl, trivial⟩ [0, 0] (by kernel_rfl)
        · refine TL.loadA i1.toNat 0 (Src.box 1 rfl) Try.isAgg5 rfl (by omega) (v := u8v (b_1 i1.toNat)) rfl (st := 0) rfl (by omega) rfl rfl rfl ?_
          refine TL.done ?_
          exact TC.nrm () () ⟨rfl, trivial⟩ [0, 0] (by kernel_rfl)
        · refine TL.bin .u8 ((a_1 i1.toNat).toNat : Int) ((b_1 i1.toNat).toNat : Int) rfl rfl rfl rfl (v := .bool (((a_1 i1.toNat).toNat : Int) != ((b_1 i1.toNat).toNat : Int))) rfl ?_
          refine TL.done ?_
          exact TC.nrm () () ⟨rfl, trivial⟩ [0, 0] (by kernel_rfl)
      · refine TC.cond (b := (((a_1 i1.toNat).toNat : Int) != ((b_1 i1.toNat).toNat : Int))) rfl (fun c3 => ?_) (fun c4 => ?_)
        · refine TC.seq ?_
          refine TC.region ?_
          refine TL.assign rfl rfl (v := .bool false) rfl ?_
          refine TL.done ?_
          exact TC.retF (Fin.loop Far.ret (Fin.body (fin1 (.inr rfl) rfl (.tmp rfl) [] rfl ⟨rfl, rfl⟩)))
        · refine TC.skip ?_
          refine TC.region ?_
          refine TL.move rfl rfl (v := .int .i64 i1) rfl ?_
          refine TL.bin .i64 i1 1 rfl rfl rfl rfl (v := .int .i64 (w64 (i1 + 1))) rfl ?_
          refine TL.assign rfl rfl (v := .int .i64 (w64 (i1 + 1))) rfl ?_
          refine TL.done ?_
          exact TC.next ((w64 (i1 + 1))) (()) ⟨rfl, rfl, rfl, trivial⟩ [0, 0] rfl
    · exact TC.brk (i1) (()) ⟨rfl, rfl, rfl, trivial⟩ [0, 0] rfl
  · rintro i1 _
    refine TC.seq ?_
    refine TC.region ?_
    refine TL.assign rfl rfl (v := .bool true) rfl ?_
    refine TL.done ?_
    exact TC.retF (Fin.body (fin1 (.inr rfl) rfl (.tmp rfl) [] rfl ⟨rfl, rfl⟩))

end Go.Proofs.Ytjjfoofjipafiaa.G

/- laws.eqByteA6, as a pure function. -/
set_option linter.unusedVariables false
namespace Go.Proofs.Ytjjfoofjipafiaa.G
open Go Go.Sx Go.Proofs

def laws_eqByteA6.b0 (a_1 : Nat → UInt8) (b_1 : Nat → UInt8) : Int → Option (LR Int Bool) := fun i1 => (bif (decide (i1 < 6)) then chk i1 6 ((bif (((a_1 i1.toNat).toNat : Int) != ((b_1 i1.toNat).toNat : Int)) then some (.ret (false)) else some (.next (w64 (i1 + 1))))) else some (.brk i1))

def laws_eqByteA6.f (a_1 : Nat → UInt8) (b_1 : Nat → UInt8) : Option Bool := (loop (laws_eqByteA6.b0 a_1 b_1) 0).bind (ln (fun i1 => some true))

def laws_eqByteA6.R (r : Bool) (v : Value) (L : List Asn) : Prop := v = .bool r ∧ L = []

set_option maxRecDepth 100000 in
set_option maxHeartbeats 4000000 in
theorem laws_eqByteA6.calls (w : World) (a_1 : Nat → UInt8) (b_1 : Nat → UInt8) :
    ∀ r, laws_eqByteA6.f a_1 b_1 = some r → Calls Try.prog 122 #[sval [.arr 6 (enf u8v a_1)], sval [.arr 6 (enf u8v b_1)]] w (Ret w (laws_eqByteA6.R r)) := by

  refine calls_T (n := 17) (Γ := [(0, sval [.arr 6 (enf u8v a_1)]), (1, sval [.arr 6 (enf u8v b_1)])]) (R := laws_eqByteA6.R) Try.func122 rfl rfl (Nat.le_of_ble_eq_true rfl) ⟨rfl, rfl, trivial⟩ ?_
  unfold laws_eqByteA6.f
  refine TC.seq ?_
  refine TC.region ?_
  refine TL.box [.arr 6 (enf u8v a_1)] rfl rfl rfl rfl fun b_2 => ?_
  refine TL.box [.arr 6 (enf u8v b_1)] rfl rfl rfl rfl fun b_3 => ?_
  refine TL.assign rfl rfl (v := .bool false) rfl ?_
  refine TL.done ?_
  refine TC.seq ?_
  refine TC.seq ?_
  refine TC.region ?_
  refine TL.assign rfl rfl (v := .int .i64 0) rfl ?_
  refine TL.done ?_
  refine TC.loopK (σ := Int) (γ := Unit) (Γ' := (fun i1 _ => [(2, bp b_2 0), (3, bp b_3 0), (5, .int .i64 i1)])) (L' := (fun i1 _ => [box b_2 55 [.arr 6 (enf u8v a_1)], box b_3 55 [.arr 6 (enf u8v b_1)]])) (Γb := (fun i1 _ => [(2, bp b_2 0), (3, bp b_3 0), (5, .int .i64 i1)])) (Lb := (fun i1 _ => [box b_2 55 [.arr 6 (enf u8v a_1)], box b_3 55 [.arr 6 (enf u8v b_1)]])) (0) (()) ⟨rfl, rfl, rfl, trivial⟩ [1, 0] rfl ?_ ?_
  · rintro i1 _
    refine TC.seq ?_
    refine TC.seq ?_
    refine TC.region ?_
    refine TL.move rfl rfl (v := .int .i64 i1) rfl ?_
    refine TL.bin .i64 i1 6 rfl rfl rfl rfl (v := .bool (decide (i1 < 6))) rfl ?_
    refine TL.done ?_
    refine TC.cond (b := (decide (i1 < 6))) rfl (fun c1 => ?_) (fun c2 => ?_)
    · refine TC.skip ?_
      refine TC.seq ?_
      refine TC.block (NoEx.loop rfl NoEx.body) ?_
      refine TC.seq ?_
      refine TC.wk (Γ' := [(2, bp b_2 0), (3, bp b_3 0), (5, .int .i64 i1), (6, .int .i64 i1), (7, .bool (decide (i1 < 6)))]) ⟨rfl, rfl, rfl, rfl, rfl, trivial⟩ ?_
      refine TC.chk fun h1 => ?_
      refine TC.draw [.int .i64 i1, bp b_2 i1.toNat, u8v (a_1 i1.toNat), .int .i64 i1, bp b_3 i1.toNat, u8v (b_1 i1.toNat), .bool (((a_1 i1.toNat).toNat : Int) != ((b_1 i1.toNat).toNat : Int))] 7 [box b_2 55 [.arr 6 (enf u8v a_1)], box b_3 55 [.arr 6 (enf u8v b_1)]] (by kernel_rfl) rfl rfl rfl rfl ?_ ?_
      · refine ⟨?_, ?_, ?_, ?_, ?_, ?_, ?_, trivial⟩
        · refine TL.move rfl rfl (v := .int .i64 i1) rfl ?_
          refine TL.done ?_
          exact TC.nrm () () ⟨rfl, trivial⟩ [0, 0] (by kernel_rfl)
        · refine TL.ixa i1 i1.toNat h1 Try.underlying55 Try.sizeOf5 rfl rfl rfl rfl (by omega) ?_
          refine TL.done ?_
          exact TC.nrm () () ⟨rfl, trivial⟩ [0, 0] (by kernel_rfl)
        · refine TL.loadA i1.toNat 0 (Src.box 0 rfl) Try.isAgg5 rfl (by omega) (v := u8v (a_1 i1.toNat)) rfl (st := 0) rfl (by omega) rfl rfl rfl ?_
          refine TL.done ?_
          exact TC.nrm () () ⟨rfl, trivial⟩ [0, 0] (by kernel_rfl)
        · refine TL.move rfl rfl (v := .int .i64 i1) rfl ?_
          refine TL.done ?_
          exact TC.nrm () () ⟨rfl, trivial⟩ [0, 0] (by kernel_rfl)
        · refine TL.ixa i1 i1.toNat h1 Try.underlying55 Try.sizeOf5 rfl rfl rfl rfl (by omega) ?_
          refine TL.done ?_
          exact TC.nrm () () ⟨rfl, trivial⟩ [0, 0] (by kernel_rfl)
        · refine TL.loadA i1.toNat 0 (Src.box 1 rfl) Try.isAgg5 rfl (by omega) (v := u8v (b_1 i1.toNat)) rfl (st := 0) rfl (by omega) rfl rfl rfl ?_
          refine TL.done ?_
          exact TC.nrm () () ⟨rfl, trivial⟩ [0, 0] (by kernel_rfl)
        · refine TL.bin .u8 ((a_1 i1.toNat).toNat : Int) ((b_1 i1.toNat).toNat : Int) rfl rfl rfl rfl (v := .bool (((a_1 i1.toNat).toNat : Int) != ((b_1 i1.toNat).toNat : Int))) rfl ?_
          refine TL.done ?_
          exact TC.nrm () () ⟨rfl, trivial⟩ [0, 0] (by kernel_rfl)
      · refine TC.cond (b := (((a_1 i1.toNat).toNat : Int) != ((b_1 i1.toNat).toNat : Int))) rfl (fun c3 => ?_) (fun c4 => ?_)
        · refine TC.seq ?_
          refine TC.region ?_
          refine TL.assign rfl rfl (v := .bool false) rfl ?_
          refine TL.done ?_
          exact TC.retF (Fin.loop Far.ret (Fin.body (fin1 (.inr rfl) rfl (.tmp rfl) [] rfl ⟨rfl, rfl⟩)))
        · refine TC.skip ?_
          refine TC.region ?_
          refine TL.move rfl rfl (v := .int .i64 i1) rfl ?_
          refine TL.bin .i64 i1 1 rfl rfl rfl rfl (v := .int .i64 (w64 (i1 + 1))) rfl ?_
          refine TL.assign rfl rfl (v := .int .i64 (w64 (i1 + 1))) rfl ?_
          refine TL.done ?_
          exact TC.next ((w64 (i1 + 1))) (()) ⟨rfl, rfl, rfl, trivial⟩ [0, 0] rfl
    · exact TC.brk (i1) (()) ⟨rfl, rfl, rfl, trivial⟩ [0, 0] rfl
  · rintro i1 _
    refine TC.seq ?_
    refine TC.region ?_
    refine TL.assign rfl rfl (v := .bool true) rfl ?_
    refine TL.done ?_
    exact TC.retF (Fin.body (fin1 (.inr rfl) rfl (.tmp rfl) [] rfl ⟨rfl, rfl⟩))

end Go.Proofs.Ytjjfoofjipafiaa.G

/- laws.eqByteA6A6, as a pure function. -/
set_option linter.unusedVariables false
namespace Go.Proofs.Ytjjfoofjipafiaa.G
open Go Go.Sx Go.Proofs

def laws_eqByteA6A6.b0 (a_1 : Nat → UInt8) (b_1 : Nat → UInt8) : Int → Option (LR Int Bool) := fun i1 => (bif (decide (i1 < 6)) then chk i1 6 ((G.laws_eqByteA6.f (sub a_1 (i1.toNat * 6)) (sub b_1 (i1.toNat * 6))).bind (fun r_1 => (bif (!r_1) then some (.ret (false)) else some (.next (w64 (i1 + 1)))))) else some (.brk i1))

def laws_eqByteA6A6.f (a_1 : Nat → UInt8) (b_1 : Nat → UInt8) : Option Bool := (loop (laws_eqByteA6A6.b0 a_1 b_1) 0).bind (ln (fun i1 => some true))

def laws_eqByteA6A6.R (r : Bool) (v : Value) (L : List Asn) : Prop := v = .bool r ∧ L = []

set_option maxRecDepth 100000 in
set_option maxHeartbeats 4000000 in
theorem laws_eqByteA6A6.calls (w : World) (a_1 : Nat → UInt8) (b_1 : Nat → UInt8) :
    ∀ r, laws_eqByteA6A6.f a_1 b_1 = some r → Calls Try.prog 115 #[sval [.arr 36 (enf u8v a_1)], sval [.arr 36 (enf u8v b_1)]] w (Ret w (laws_eqByteA6A6.R r)) := by

  refine calls_T (n := 18) (Γ := [(0, sval [.arr 36 (enf u8v a_1)]), (1, sval [.arr 36 (enf u8v b_1)])]) (R := laws_eqByteA6A6.R) Try.func115 rfl rfl (Nat.le_of_ble_eq_true rfl) ⟨rfl, rfl, trivial⟩ ?_
  unfold laws_eqByteA6A6.f
  refine TC.seq ?_
  refine TC.region ?_
  refine TL.box [.arr 36 (enf u8v a_1)] rfl rfl rfl rfl fun b_2 => ?_
  refine TL.box [.arr 36 (enf u8v b_1)] rfl rfl rfl rfl fun b_3 => ?_
  refine TL.assign rfl rfl (v := .bool false) rfl ?_
  refine TL.done ?_
  refine TC.seq ?_
  refine TC.seq ?_
  refine TC.region ?_
  refine TL.assign rfl rfl (v := .int .i64 0) rfl ?_
  refine TL.done ?_
  refine TC.loopK (σ := Int) (γ := Unit) (Γ' := (fun i1 _ => [(2, bp b_2 0), (3, bp b_3 0), (5, .int .i64 i1)])) (L' := (fun i1 _ => [box b_2 56 [.arr 36 (enf u8v a_1)], box b_3 56 [.arr 36 (enf u8v b_1)]])) (Γb := (fun i1 _ => [(2, bp b_2 0), (3, bp b_3 0), (5, .int .i64 i1)])) (Lb := (fun i1 _ => [box b_2 56 [.arr 36 (enf u8v a_1)], box b_3 56 [.arr 36 (enf u8v b_1)]])) (0) (()) ⟨rfl, rfl, rfl, trivial⟩ [1, 0] rfl ?_ ?_
  · rintro i1 _
    refine TC.seq ?_
    refine TC.seq ?_
    refine TC.region ?_
    refine TL.move rfl rfl (v := .int .i64 i1) rfl ?_
    refine TL.bin .i64 i1 6 rfl rfl rfl rfl (v := .bool (decide (i1 < 6))) rfl ?_
    refine TL.done ?_
    refine TC.cond (b := (decide (i1 < 6))) rfl (fun c1 => ?_) (fun c2 => ?_)
    · refine TC.skip ?_
      refine TC.seq ?_
      refine TC.block (NoEx.loop rfl NoEx.body) ?_
      refine TC.seq ?_
      refine TC.wk (Γ' := [(2, bp b_2 0), (3, bp b_3 0), (5, .int .i64 i1), (6, .int .i64 i1), (7, .bool (decide (i1 < 6)))]) ⟨rfl, rfl, rfl, rfl, rfl, trivial⟩ ?_
      refine TC.chk fun h1 => ?_
      refine TC.bindE fun r_1 hr1 => ?_
      refine TC.draw [.int .i64 i1, bp b_2 (i1.toNat * 6), sval [.arr 6 (enf u8v (sub a_1 (i1.toNat * 6)))], .int .i64 i1, bp b_3 (i1.toNat * 6), sval [.arr 6 (enf u8v (sub b_1 (i1.toNat * 6)))], .bool r_1, .bool (!r_1)] 8 [box b_2 56 [.arr 36 (enf u8v a_1)], box b_3 56 [.arr 36 (enf u8v b_1)]] (by kernel_rfl) rfl rfl rfl rfl ?_ ?_
      · refine ⟨?_, ?_, ?_, ?_, ?_, ?_, ?_, ?_, trivial⟩
        · refine TL.move rfl rfl (v := .int .i64 i1) rfl ?_
          refine TL.done ?_
          exact TC.nrm () () ⟨rfl, trivial⟩ [0, 0] (by kernel_rfl)
        · refine TL.ixa i1 (i1.toNat * 6) h1 Try.underlying56 Try.sizeOf55 rfl rfl rfl rfl (by omega) ?_
          refine TL.done ?_
          exact TC.nrm () () ⟨rfl, trivial⟩ [0, 0] (by kernel_rfl)
        · refine TL.loadS (i1.toNat * 6) 0 (Src.box 0 rfl) Try.isAgg55 Try.sizeOf55 rfl (by omega) (v := sval [.arr 6 (enf u8v (sub a_1 (i1.toNat * 6)))]) rfl (st := 0) rfl (by omega) rfl rfl rfl ?_
          refine TL.done ?_
          exact TC.nrm () () ⟨rfl, trivial⟩ [0, 0] (by kernel_rfl)
        · refine TL.move rfl rfl (v := .int .i64 i1) rfl ?_
          refine TL.done ?_
          exact TC.nrm () () ⟨rfl, trivial⟩ [0, 0] (by kernel_rfl)
        · refine TL.ixa i1 (i1.toNat * 6) h1 Try.underlying56 Try.sizeOf55 rfl rfl rfl rfl (by omega) ?_
          refine TL.done ?_
          exact TC.nrm () () ⟨rfl, trivial⟩ [0, 0] (by kernel_rfl)
        · refine TL.loadS (i1.toNat * 6) 0 (Src.box 1 rfl) Try.isAgg55 Try.sizeOf55 rfl (by omega) (v := sval [.arr 6 (enf u8v (sub b_1 (i1.toNat * 6)))]) rfl (st := 0) rfl (by omega) rfl rfl rfl ?_
          refine TL.done ?_
          exact TC.nrm () () ⟨rfl, trivial⟩ [0, 0] (by kernel_rfl)
        · refine TL.callH (R := G.laws_eqByteA6.R) hr1 Try.call122 rfl rfl rfl (fun w hS => G.laws_eqByteA6.calls w (sub a_1 (i1.toNat * 6)) (sub b_1 (i1.toNat * 6))) ?_
          rintro _ _ ⟨rfl, rfl⟩
          refine TL.done ?_
          exact TC.nrm () () ⟨rfl, trivial⟩ [0, 0] (by kernel_rfl)
        · refine TL.not r_1 rfl rfl rfl ?_
          refine TL.done ?_
          exact TC.nrm () () ⟨rfl, trivial⟩ [0, 0] (by kernel_rfl)
      · refine TC.cond (b := (!r_1)) rfl (fun c3 => ?_) (fun c4 => ?_)
        · refine TC.seq ?_
          refine TC.region ?_
          refine TL.assign rfl rfl (v := .bool false) rfl ?_
          refine TL.done ?_
          exact TC.retF (Fin.loop Far.ret (Fin.body (fin1 (.inr rfl) rfl (.tmp rfl) [] rfl ⟨rfl, rfl⟩)))
        · refine TC.skip ?_
          refine TC.region ?_
          refine TL.move rfl rfl (v := .int .i64 i1) rfl ?_
          refine TL.bin .i64 i1 1 rfl rfl rfl rfl (v := .int .i64 (w64 (i1 + 1))) rfl ?_
          refine TL.assign rfl rfl (v := .int .i64 (w64 (i1 + 1))) rfl ?_
          refine TL.done ?_
          exact TC.next ((w64 (i1 + 1))) (()) ⟨rfl, rfl, rfl, trivial⟩ [0, 0] rfl
    · exact TC.brk (i1) (()) ⟨rfl, rfl, rfl, trivial⟩ [0, 0] rfl
  · rintro i1 _
    refine TC.seq ?_
    refine TC.region ?_
    refine TL.assign rfl rfl (v := .bool true) rfl ?_
    refine TL.done ?_
    exact TC.retF (Fin.body (fin1 (.inr rfl) rfl (.tmp rfl) [] rfl ⟨rfl, rfl⟩))

end Go.Proofs.Ytjjfoofjipafiaa.G

/- laws.eqByteA6A6A6, as a pure function. -/
set_option linter.unusedVariables false
namespace Go.Proofs.Ytjjfoofjipafiaa.G
open Go Go.Sx Go.Proofs

def laws_eqByteA6A6A6.b0 (a_1 : Nat → UInt8) (b_1 : Nat → UInt8) : Int → Option (LR Int Bool) := fun i1 => (bif (decide (i1 < 6)) then chk i1 6 ((G.laws_eqByteA6A6.f (sub a_1 (i1.toNat * 36)) (sub b_1 (i1.toNat * 36))).bind (fun r_1 => (bif (!r_1) then some (.ret (false)) else some (.next (w64 (i1 + 1)))))) else some (.brk i1))

def laws_eqByteA6A6A6.f (a_1 : Nat → UInt8) (b_1 : Nat → UInt8) : Option Bool := (loop (laws_eqByteA6A6A6.b0 a_1 b_1) 0).bind (ln (fun i1 => some true))

def laws_eqByteA6A6A6.R (r : Bool) (v : Value) (L : List Asn) : Prop := v = .bool r ∧ L = []

set_option maxRecDepth 100000 in
set_option maxHeartbeats 4000000 in
theorem laws_eqByteA6A6A6.calls (w : World) (a_1 : Nat → UInt8) (b_1 : Nat → UInt8) :
    ∀ r, laws_eqByteA6A6A6.f a_1 b_1 = some r → Calls Try.prog 105 #[sval [.arr 216 (enf u8v a_1)], sval [.arr 216 (enf u8v b_1)]] w (Ret w (laws_eqByteA6A6A6.R r)) := by

  refine calls_T (n := 18) (Γ := [(0, sval [.arr 216 (enf u8v a_1)]), (1, sval [.arr 216 (enf u8v b_1)])]) (R := laws_eqByteA6A6A6.R) Try.func105 rfl rfl (Nat.le_of_ble_eq_true rfl) ⟨rfl, rfl, trivial⟩ ?_
  unfold laws_eqByteA6A6A6.f
  refine TC.seq ?_
  refine TC.region ?_
  refine TL.box [.arr 216 (enf u8v a_1)] rfl rfl rfl rfl fun b_2 => ?_
  refine TL.box [.arr 216 (enf u8v b_1)] rfl rfl rfl rfl fun b_3 => ?_
  refine TL.assign rfl rfl (v := .bool false) rfl ?_
  refine TL.done ?_
  refine TC.seq ?_
  refine TC.seq ?_
  refine TC.region ?_
  refine TL.assign rfl rfl (v := .int .i64 0) rfl ?_
  refine TL.done ?_
  refine TC.loopK (σ := Int) (γ := Unit) (Γ' := (fun i1 _ => [(2, bp b_2 0), (3, bp b_3 0), (5, .int .i64 i1)])) (L' := (fun i1 _ => [box b_2 57 [.arr 216 (enf u8v a_1)], box b_3 57 [.arr 216 (enf u8v b_1)]])) (Γb := (fun i1 _ => [(2, bp b_2 0), (3, bp b_3 0), (5, .int .i64 i1)])) (Lb := (fun i1 _ => [box b_2 57 [.arr 216 (enf u8v a_1)], box b_3 57 [.arr 216 (enf u8v b_1)]])) (0) (()) ⟨rfl, rfl, rfl, trivial⟩ [1, 0] rfl ?_ ?_
  · rintro i1 _
    refine TC.seq ?_
    refine TC.seq ?_
    refine TC.region ?_
    refine TL.move rfl rfl (v := .int .i64 i1) rfl ?_
    refine TL.bin .i64 i1 6 rfl rfl rfl rfl (v := .bool (decide (i1 < 6))) rfl ?_
    refine TL.done ?_
    refine TC.cond (b := (decide (i1 < 6))) rfl (fun c1 => ?_) (fun c2 => ?_)
    · refine TC.skip ?_
      refine TC.seq ?_
      refine TC.block (NoEx.loop rfl NoEx.body) ?_
      refine TC.seq ?_
      refine TC.wk (Γ' := [(2, bp b_2 0), (3, bp b_3 0), (5, .int .i64 i1), (6, .int .i64 i1), (7, .bool (decide (i1 < 6)))]) ⟨rfl, rfl, rfl, rfl, rfl, trivial⟩ ?_
      refine TC.chk fun h1 => ?_
      refine TC.bindE fun r_1 hr1 => ?_
      refine TC.draw [.int .i64 i1, bp b_2 (i1.toNat * 36), sval [.arr 36 (enf u8v (sub a_1 (i1.toNat * 36)))], .int .i64 i1, bp b_3 (i1.toNat * 36), sval [.arr 36 (enf u8v (sub b_1 (i1.toNat * 36)))], .bool r_1, .bool (!r_1)] 8 [box b_2 57 [.arr 216 (enf u8v a_1)], box b_3 57 [.arr 216 (enf u8v b_1)]] (by kernel_rfl) rfl rfl rfl rfl ?_ ?_
      · refine ⟨?_, ?_, ?_, ?_, ?_, ?_, ?_, ?_, trivial⟩
        · refine TL.move rfl rfl (v := .int .i64 i1) rfl ?_
          refine TL.done ?_
          exact TC.nrm () () ⟨rfl, trivial⟩ [0, 0] (by kernel_rfl)
        · refine TL.ixa i1 (i1.toNat * 36) h1 Try.underlying57 Try.sizeOf56 rfl rfl rfl rfl (by omega) ?_
          refine TL.done ?_
          exact TC.nrm () () ⟨rfl, trivial⟩ [0, 0] (by kernel_rfl)
        · refine TL.loadS (i1.toNat * 36) 0 (Src.box 0 rfl) Try.isAgg56 Try.sizeOf56 rfl (by omega) (v := sval [.arr 36 (enf u8v (sub a_1 (i1.toNat * 36)))]) rfl (st := 0) rfl (by omega) rfl rfl rfl ?_
          refine TL.done ?_
          exact TC.nrm () () ⟨rfl, trivial⟩ [0, 0] (by kernel_rfl)
        · refine TL.move rfl rfl (v := .int .i64 i1) rfl ?_
          refine TL.done ?_
          exact TC.nrm () () ⟨rfl, trivial⟩ [0, 0] (by kernel_rfl)
        · refine TL.ixa i1 (i1.toNat * 36) h1 Try.underlying57 Try.sizeOf56 rfl rfl rfl rfl (by omega) ?_
          refine TL.done ?_
          exact TC.nrm () () ⟨rfl, trivial⟩ [0, 0] (by kernel_rfl)
        · refine TL.loadS (i1.toNat * 36) 0 (Src.box 1 rfl) Try.isAgg56 Try.sizeOf56 rfl (by omega) (v := sval [.arr 36 (enf u8v (sub b_1 (i1.toNat * 36)))]) rfl (st := 0) rfl (by omega) rfl rfl rfl ?_
          refine TL.done ?_
          exact TC.nrm () () ⟨rfl, trivial⟩ [0, 0] (by kernel_rfl)
        · refine TL.callH (R := G.laws_eqByteA6A6.R) hr1 Try.call115 rfl rfl rfl (fun w hS => G.laws_eqByteA6A6.calls w (sub a_1 (i1.toNat * 36)) (sub b_1 (i1.toNat * 36))) ?_
          rintro _ _ ⟨rfl, rfl⟩
          refine TL.done ?_
          exact TC.nrm () () ⟨rfl, trivial⟩ [0, 0] (by kernel_rfl)
        · refine TL.not r_1 rfl rfl rfl ?_
          refine TL.done ?_
          exact TC.nrm () () ⟨rfl, trivial⟩ [0, 0] (by kernel_rfl)
      · refine TC.cond (b := (!r_1)) rfl (fun c3 => ?_) (fun c4 => ?_)
        · refine TC.seq ?_
          refine TC.region ?_
          refine TL.assign rfl rfl (v := .bool false) rfl ?_
          refine TL.done ?_
          exact TC.retF (Fin.loop Far.ret (Fin.body (fin1 (.inr rfl) rfl (.tmp rfl) [] rfl ⟨rfl, rfl⟩)))
        · refine TC.skip ?_
          refine TC.region ?_
          refine TL.move rfl rfl (v := .int .i64 i1) rfl ?_
          refine TL.bin .i64 i1 1 rfl rfl rfl rfl (v := .int .i64 (w64 (i1 + 1))) rfl ?_
          refine TL.assign rfl rfl (v := .int .i64 (w64 (i1 + 1))) rfl ?_
          refine TL.done ?_
          exact TC.next ((w64 (i1 + 1))) (()) ⟨rfl, rfl, rfl, trivial⟩ [0, 0] rfl
    · exact TC.brk (i1) (()) ⟨rfl, rfl, rfl, trivial⟩ [0, 0] rfl
  · rintro i1 _
    refine TC.seq ?_
    refine TC.region ?_
    refine TL.assign rfl rfl (v := .bool true) rfl ?_
    refine TL.done ?_
    exact TC.retF (Fin.body (fin1 (.inr rfl) rfl (.tmp rfl) [] rfl ⟨rfl, rfl⟩))

end Go.Proofs.Ytjjfoofjipafiaa.G

/- laws.eqAlgebra, as a pure function. -/
set_option linter.unusedVariables false
namespace Go.Proofs.Ytjjfoofjipafiaa.G
open Go Go.Sx Go.Proofs

def laws_eqAlgebra.f (a_1 : Int) (a_2 : Int) (a_3 : Nat → UInt8) (a_4 : Nat → UInt8) (b_1 : Int) (b_2 : Int) (b_3 : Nat → UInt8) (b_4 : Nat → UInt8) : Option Bool := (bif (a_1 != b_1) then some false else (bif (a_2 != b_2) then some false else (G.laws_eqByteA6A6A6.f a_3 b_3).bind (fun r_1 => (bif (!r_1) then some false else (G.laws_eqVector.f a_4 b_4).bind (fun r_2 => (bif (!r_2) then some false else some true))))))

def laws_eqAlgebra.R (r : Bool) (v : Value) (L : List Asn) : Prop := v = .bool r ∧ L = []

set_option maxRecDepth 100000 in
set_option maxHeartbeats 4000000 in
theorem laws_eqAlgebra.calls (w : World) (a_1 : Int) (a_2 : Int) (a_3 : Nat → UInt8) (a_4 : Nat → UInt8) (b_1 : Int) (b_2 : Int) (b_3 : Nat → UInt8) (b_4 : Nat → UInt8) :
    ∀ r, laws_eqAlgebra.f a_1 a_2 a_3 a_4 b_1 b_2 b_3 b_4 = some r → Calls Try.prog 86 #[sval [.one (.int .i64 a_1), .one (.int .i64 a_2), .arr 216 (enf u8v a_3), .arr 6 (enf u8v a_4)], sval [.one (.int .i64 b_1), .one (.int .i64 b_2), .arr 216 (enf u8v b_3), .arr 6 (enf u8v b_4)]] w (Ret w (laws_eqAlgebra.R r)) := by

  refine calls_T (n := 27) (Γ := [(0, sval [.one (.int .i64 a_1), .one (.int .i64 a_2), .arr 216 (enf u8v a_3), .arr 6 (enf u8v a_4)]), (1, sval [.one (.int .i64 b_1), .one (.int .i64 b_2), .arr 216 (enf u8v b_3), .arr 6 (enf u8v b_4)])]) (R := laws_eqAlgebra.R) Try.func86 rfl rfl (Nat.le_of_ble_eq_true rfl) ⟨rfl, rfl, trivial⟩ ?_
  unfold laws_eqAlgebra.f
  refine TC.seq ?_
  refine TC.region ?_
  refine TL.box [.one (.int .i64 a_1), .one (.int .i64 a_2), .arr 216 (enf u8v a_3), .arr 6 (enf u8v a_4)] rfl rfl rfl rfl fun b_5 => ?_
  refine TL.box [.one (.int .i64 b_1), .one (.int .i64 b_2), .arr 216 (enf u8v b_3), .arr 6 (enf u8v b_4)] rfl rfl rfl rfl fun b_6 => ?_
  refine TL.assign rfl rfl (v := .bool false) rfl ?_
  refine TL.done ?_
  refine TC.seq ?_
  refine TC.seq ?_
  refine TC.region ?_
  refine TL.fa Try.underlying60 rfl Try.sizeOf2 rfl 0 rfl rfl rfl rfl ?_
  refine TL.load1 0 (Src.box 1 rfl) Try.isAgg2 rfl rfl rfl rfl rfl ?_
  refine TL.fa Try.underlying60 rfl Try.sizeOf2 rfl 0 rfl rfl rfl rfl ?_
  refine TL.load1 0 (Src.box 0 rfl) Try.isAgg2 rfl rfl rfl rfl rfl ?_
  refine TL.bin .i64 a_1 b_1 rfl rfl rfl rfl (v := .bool (a_1 != b_1)) rfl ?_
  refine TL.done ?_
  refine TC.cond (b := (a_1 != b_1)) rfl (fun c1 => ?_) (fun c2 => ?_)
  · refine TC.seq ?_
    refine TC.region ?_
    refine TL.assign rfl rfl (v := .bool false) rfl ?_
    refine TL.done ?_
    exact TC.retF (Fin.body (fin1 (.inr rfl) rfl (.tmp rfl) [] rfl ⟨rfl, rfl⟩))
  · refine TC.skip ?_
    refine TC.seq ?_
    refine TC.seq ?_
    refine TC.region ?_
    refine TL.fa Try.underlying60 rfl Try.sizeOf2 rfl 1 rfl rfl rfl rfl ?_
    refine TL.load1 1 (Src.box 1 rfl) Try.isAgg2 rfl rfl rfl rfl rfl ?_
    refine TL.fa Try.underlying60 rfl Try.sizeOf2 rfl 1 rfl rfl rfl rfl ?_
    refine TL.load1 1 (Src.box 0 rfl) Try.isAgg2 rfl rfl rfl rfl rfl ?_
    refine TL.bin .i64 a_2 b_2 rfl rfl rfl rfl (v := .bool (a_2 != b_2)) rfl ?_
    refine TL.done ?_
    refine TC.cond (b := (a_2 != b_2)) rfl (fun c3 => ?_) (fun c4 => ?_)
    · refine TC.seq ?_
      refine TC.region ?_
      refine TL.assign rfl rfl (v := .bool false) rfl ?_
      refine TL.done ?_
      exact TC.retF (Fin.body (fin1 (.inr rfl) rfl (.tmp rfl) [] rfl ⟨rfl, rfl⟩))
    · refine TC.skip ?_
      refine TC.seq ?_
      refine TC.seq ?_
      refine TC.region ?_
      refine TL.fa Try.underlying60 rfl Try.sizeOf57 rfl 2 rfl rfl rfl rfl ?_
      refine TL.loadM 2 1 (Src.box 1 rfl) Try.isAgg57 Try.sizeOf57 (mid := [.arr 216 (enf u8v a_3)]) rfl rfl rfl rfl rfl rfl ?_
      refine TL.fa Try.underlying60 rfl Try.sizeOf57 rfl 2 rfl rfl rfl rfl ?_
      refine TL.loadM 2 1 (Src.box 0 rfl) Try.isAgg57 Try.sizeOf57 (mid := [.arr 216 (enf u8v b_3)]) rfl rfl rfl rfl rfl rfl ?_
      refine TL.call (R := G.laws_eqByteA6A6A6.R) Try.call105 rfl rfl rfl (fun w hS => G.laws_eqByteA6A6A6.calls w a_3 b_3) ?_
      rintro r_1 _ _ ⟨rfl, rfl⟩
      refine TL.not r_1 rfl rfl rfl ?_
      refine TL.done ?_
      refine TC.cond (b := (!r_1)) rfl (fun c5 => ?_) (fun c6 => ?_)
      · refine TC.seq ?_
        refine TC.region ?_
        refine TL.assign rfl rfl (v := .bool false) rfl ?_
        refine TL.done ?_
        exact TC.retF (Fin.body (fin1 (.inr rfl) rfl (.tmp rfl) [] rfl ⟨rfl, rfl⟩))
      · refine TC.skip ?_
        refine TC.seq ?_
        refine TC.seq ?_
        refine TC.region ?_
        refine TL.fa Try.underlying60 rfl Try.sizeOf58 rfl 218 rfl rfl rfl rfl ?_
        refine TL.loadM 3 1 (Src.box 1 rfl) Try.isAgg58 Try.sizeOf58 (mid := [.arr 6 (enf u8v a_4)]) rfl rfl rfl rfl rfl rfl ?_
        refine TL.fa Try.underlying60 rfl Try.sizeOf58 rfl 218 rfl rfl rfl rfl ?_
        refine TL.loadM 3 1 (Src.box 0 rfl) Try.isAgg58 Try.sizeOf58 (mid := [.arr 6 (enf u8v b_4)]) rfl rfl rfl rfl rfl rfl ?_
        refine TL.call (R := G.laws_eqVector.R) Try.call76 rfl rfl rfl (fun w hS => G.laws_eqVector.calls w a_4 b_4) ?_
        rintro r_2 _ _ ⟨rfl, rfl⟩
        refine TL.not r_2 rfl rfl rfl ?_
        refine TL.done ?_
        refine TC.cond (b := (!r_2)) rfl (fun c7 => ?_) (fun c8 => ?_)
        · refine TC.seq ?_
          refine TC.region ?_
          refine TL.assign rfl rfl (v := .bool false) rfl ?_
          refine TL.done ?_
          exact TC.retF (Fin.body (fin1 (.inr rfl) rfl (.tmp rfl) [] rfl ⟨rfl, rfl⟩))
        · refine TC.skip ?_
          refine TC.seq ?_
          refine TC.region ?_
          refine TL.assign rfl rfl (v := .bool true) rfl ?_
          refine TL.done ?_
          exact TC.retF (Fin.body (fin1 (.inr rfl) rfl (.tmp rfl) [] rfl ⟨rfl, rfl⟩))

end Go.Proofs.Ytjjfoofjipafiaa.G

/- laws.eqVectorA6, as a pure function. -/
set_option linter.unusedVariables false
namespace Go.Proofs.Ytjjfoofjipafiaa.G
open Go Go.Sx Go.Proofs

def laws_eqVectorA6.b0 (a_1 : Nat → UInt8) (b_1 : Nat → UInt8) : Int → Option (LR Int Bool) := fun i1 => (bif (decide (i1 < 6)) then chk i1 6 ((G.laws_eqVector.f (sub a_1 (i1.toNat * 6)) (sub b_1 (i1.toNat * 6))).bind (fun r_1 => (bif (!r_1) then some (.ret (false)) else some (.next (w64 (i1 + 1)))))) else some (.brk i1))

def laws_eqVectorA6.f (a_1 : Nat → UInt8) (b_1 : Nat → UInt8) : Option Bool := (loop (laws_eqVectorA6.b0 a_1 b_1) 0).bind (ln (fun i1 => some true))

def laws_eqVectorA6.R (r : Bool) (v : Value) (L : List Asn) : Prop := v = .bool r ∧ L = []

set_option maxRecDepth 100000 in
set_option maxHeartbeats 4000000 in
theorem laws_eqVectorA6.calls (w : World) (a_1 : Nat → UInt8) (b_1 : Nat → UInt8) :
    ∀ r, laws_eqVectorA6.f a_1 b_1 = some r → Calls Try.prog 87 #[sval [.arr 36 (enf u8v a_1)], sval [.arr 36 (enf u8v b_1)]] w (Ret w (laws_eqVectorA6.R r)) := by

  refine calls_T (n := 18) (Γ := [(0, sval [.arr 36 (enf u8v a_1)]), (1, sval [.arr 36 (enf u8v b_1)])]) (R := laws_eqVectorA6.R) Try.func87 rfl rfl (Nat.le_of_ble_eq_true rfl) ⟨rfl, rfl, trivial⟩ ?_
  unfold laws_eqVectorA6.f
  refine TC.seq ?_
  refine TC.region ?_
  refine TL.box [.arr 36 (enf u8v a_1)] rfl rfl rfl rfl fun b_2 => ?_
  refine TL.box [.arr 36 (enf u8v b_1)] rfl rfl rfl rfl fun b_3 => ?_
  refine TL.assign rfl rfl (v := .bool false) rfl ?_
  refine TL.done ?_
  refine TC.seq ?_
  refine TC.seq ?_
  refine TC.region ?_
  refine TL.assign rfl rfl (v := .int .i64 0) rfl ?_
  refine TL.done ?_
  refine TC.loopK (σ := Int) (γ := Unit) (Γ' := (fun i1 _ => [(2, bp b_2 0), (3, bp b_3 0), (5, .int .i64 i1)])) (L' := (fun i1 _ => [box b_2 61 [.arr 36 (enf u8v a_1)], box b_3 61 [.arr 36 (enf u8v b_1)]])) (Γb := (fun i1 _ => [(2, bp b_2 0), (3, bp b_3 0), (5, .int .i64 i1)])) (Lb := (fun i1 _ => [box b_2 61 [.arr 36 (enf u8v a_1)], box b_3 61 [.arr 36 (enf u8v b_1)]])) (0) (()) ⟨rfl, rfl, rfl, trivial⟩ [1, 0] rfl ?_ ?_
  · rintro i1 _
    refine TC.seq ?_
    refine TC.seq ?_
    refine TC.region ?_
    refine TL.move rfl rfl (v := .int .i64 i1) rfl ?_
    refine TL.bin .i64 i1 6 rfl rfl rfl rfl (v := .bool (decide (i1 < 6))) rfl ?_
    refine TL.done ?_
    refine TC.cond (b := (decide (i1 < 6))) rfl (fun c1 => ?_) (fun c2 => ?_)
    · refine TC.skip ?_
      refine TC.seq ?_
      refine TC.block (NoEx.loop rfl NoEx.body) ?_
      refine TC.seq ?_
      refine TC.wk (Γ' := [(2, bp b_2 0), (3, bp b_3 0), (5, .int .i64 i1), (6, .int .i64 i1), (7, .bool (decide (i1 < 6)))]) ⟨rfl, rfl, rfl, rfl, rfl, trivial⟩ ?_
      refine TC.chk fun h1 => ?_
      refine TC.bindE fun r_1 hr1 => ?_
      refine TC.draw [.int .i64 i1, bp b_2 (i1.toNat * 6), sval [.arr 6 (enf u8v (sub a_1 (i1.toNat * 6)))], .int .i64 i1, bp b_3 (i1.toNat * 6), sval [.arr 6 (enf u8v (sub b_1 (i1.toNat * 6)))], .bool r_1, .bool (!r_1)] 8 [box b_2 61 [.arr 36 (enf u8v a_1)], box b_3 61 [.arr 36 (enf u8v b_1)]] (by kernel_rfl) rfl rfl rfl rfl ?_ ?_
      · refine ⟨?_, ?_, ?_, ?_, ?_, ?_, ?_, ?_, trivial⟩
        · refine TL.move rfl rfl (v := .int .i64 i1) rfl ?_
          refine TL.done ?_
          exact TC.nrm () () ⟨rfl, trivial⟩ [0, 0] (by kernel_rfl)
        · refine TL.ixa i1 (i1.toNat * 6) h1 Try.underlying61 Try.sizeOf58 rfl rfl rfl rfl (by omega) ?_
          refine TL.done ?_
          exact TC.nrm () () ⟨rfl, trivial⟩ [0, 0] (by kernel_rfl)
        · refine TL.loadS (i1.toNat * 6) 0 (Src.box 0 rfl) Try.isAgg58 Try.sizeOf58 rfl (by omega) (v := sval [.arr 6 (enf u8v (sub a_1 (i1.toNat * 6)))]) rfl (st := 0) rfl (by omega) rfl rfl rfl ?_
          refine TL.done ?_
          exact TC.nrm () () ⟨rfl, trivial⟩ [0, 0] (by kernel_rfl)
        · refine TL.move rfl rfl (v := .int .i64 i1) rfl ?_
          refine TL.done ?_
          exact TC.nrm () () ⟨rfl, trivial⟩ [0, 0] (by kernel_rfl)
        · refine TL.ixa i1 (i1.toNat * 6) h1 Try.underlying61 Try.sizeOf58 rfl rfl rfl rfl (by omega) ?_
          refine TL.done ?_
          exact TC.nrm () () ⟨rfl, trivial⟩ [0, 0] (by kernel_rfl)
        · refine TL.loadS (i1.toNat * 6) 0 (Src.box 1 rfl) Try.isAgg58 Try.sizeOf58 rfl (by omega) (v := sval [.arr 6 (enf u8v (sub b_1 (i1.toNat * 6)))]) rfl (st := 0) rfl (by omega) rfl rfl rfl ?_
          refine TL.done ?_
          exact TC.nrm () () ⟨rfl, trivial⟩ [0, 0] (by kernel_rfl)
        · refine TL.callH (R := G.laws_eqVector.R) hr1 Try.call76 rfl rfl rfl (fun w hS => G.laws_eqVector.calls w (sub a_1 (i1.toNat * 6)) (sub b_1 (i1.toNat * 6))) ?_
          rintro _ _ ⟨rfl, rfl⟩
          refine TL.done ?_
          exact TC.nrm () () ⟨rfl, trivial⟩ [0, 0] (by kernel_rfl)
        · refine TL.not r_1 rfl rfl rfl ?_
          refine TL.done ?_
          exact TC.nrm () () ⟨rfl, trivial⟩ [0, 0] (by kernel_rfl)
      · refine TC.cond (b := (!r_1)) rfl (fun c3 => ?_) (fun c4 => ?_)
        · refine TC.seq ?_
          refine TC.region ?_
          refine TL.assign rfl rfl (v := .bool false) rfl ?_
          refine TL.done ?_
          exact TC.retF (Fin.loop Far.ret (Fin.body (fin1 (.inr rfl) rfl (.tmp rfl) [] rfl ⟨rfl, rfl⟩)))
        · refine TC.skip ?_
          refine TC.region ?_
          refine TL.move rfl rfl (v := .int .i64 i1) rfl ?_
          refine TL.bin .i64 i1 1 rfl rfl rfl rfl (v := .int .i64 (w64 (i1 + 1))) rfl ?_
          refine TL.assign rfl rfl (v := .int .i64 (w64 (i1 + 1))) rfl ?_
          refine TL.done ?_
          exact TC.next ((w64 (i1 + 1))) (()) ⟨rfl, rfl, rfl, trivial⟩ [0, 0] rfl
    · exact TC.brk (i1) (()) ⟨rfl, rfl, rfl, trivial⟩ [0, 0] rfl
  · rintro i1 _
    refine TC.seq ?_
    refine TC.region ?_
    refine TL.assign rfl rfl (v := .bool true) rfl ?_
    refine TL.done ?_
    exact TC.retF (Fin.body (fin1 (.inr rfl) rfl (.tmp rfl) [] rfl ⟨rfl, rfl⟩))

end Go.Proofs.Ytjjfoofjipafiaa.G
