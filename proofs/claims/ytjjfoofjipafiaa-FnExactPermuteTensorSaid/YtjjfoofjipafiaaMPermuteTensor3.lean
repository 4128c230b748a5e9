/- Functions of the program, as pure functions. -/
import Derived.Test.YtjjfoofjipafiaaMPermuteTensor2
import Derived.Test.YtjjfoofjipafiaaProg
import Derived.Shelf.SortM.Plain
import Derived.Shelf.SortM.SortNone
import Derived.RangeFuncBox
import Derived.RangeFuncLeaves
import Derived.Shelf.Abstract
import Derived.WalkKit
import Derived.OwnWalkIn
import Derived.TacticsInMore
import Derived.LoopNIn
import Derived.LoopIn
import Derived.Maps.AppendAt
import Derived.Lib.SlKeysI
/- impl.shapeOk, as a pure function. -/
set_option linter.unusedVariables false
namespace Go.Proofs.Ytjjfoofjipafiaa.G
open Go Go.Sx Go.Proofs

def impl_shapeOk.f (p1 : Int) (n_1 : Int) : Option Bool := (G.impl_isPrime.f p1).bind (fun r_1 => (bif r_1 then (G.impl_in.f n_1 1 6).bind (fun r_2 => some r_2) else some false).bind (fun b_1 => some b_1))

def impl_shapeOk.R (r : Bool) (v : Value) (L : List Asn) : Prop := v = .bool r ∧ L = []

set_option maxRecDepth 100000 in
set_option maxHeartbeats 4000000 in
theorem impl_shapeOk.calls (w : World) (p1 : Int) (n_1 : Int) :
    ∀ r, impl_shapeOk.f p1 n_1 = some r → Calls Try.prog 46 #[.int .i64 p1, .int .i64 n_1] w (Ret w (impl_shapeOk.R r)) := by

  refine calls_T (n := 11) (Γ := [(0, .int .i64 p1), (1, .int .i64 n_1)]) (R := impl_shapeOk.R) Try.func46 rfl rfl (Nat.le_of_ble_eq_true rfl) ⟨rfl, rfl, trivial⟩ ?_
  unfold impl_shapeOk.f
  refine TC.seq ?_
  refine TC.region ?_
  refine TL.assign rfl rfl (v := .bool false) rfl ?_
  refine TL.done ?_
  refine TC.seq ?_
  refine TC.region ?_
  refine TL.move rfl rfl (v := .int .i64 p1) rfl ?_
  refine TL.call (R := G.impl_isPrime.R) Try.call84 rfl rfl rfl (fun w hS => G.impl_isPrime.calls w p1) ?_
  rintro r_1 _ _ ⟨rfl, rfl⟩
  refine TL.move rfl rfl (v := .bool r_1) rfl ?_
  refine TL.cutJ (σ := Bool) (γ := Unit) (Γ' := fun b_1 _ => [(10, .bool b_1), (0, .int .i64 p1), (1, .int .i64 n_1), (4, .bool false), (5, .int .i64 p1), (6, .bool r_1), (7, .bool r_1)]) (L' := fun _ _ => []) 3 ?_ ?_
  · refine TL.ifb (t := 7) (b := r_1) rfl (fun c1 => ?_) (fun c2 => ?_)
    · refine TL.move rfl rfl (v := .int .i64 n_1) rfl ?_
      refine TL.call (R := G.impl_in.R) Try.call62 rfl rfl rfl (fun w hS => G.impl_in.calls w n_1 1 6) ?_
      rintro r_2 _ _ ⟨rfl, rfl⟩
      refine TL.pick rfl rfl (b := true) rfl (r := .bool r_2) rfl ?_
      refine TL.done ?_
      exact TC.nrm (r_2) () ⟨rfl, rfl, rfl, rfl, rfl, rfl, (by rw [c1]; rfl), trivial⟩ [] (by kernel_rfl)
    · refine TL.skip rfl rfl (by decide) ?_
      refine TL.skip rfl rfl (by decide) ?_
      refine TL.pick rfl rfl (b := false) rfl (r := .bool false) rfl ?_
      refine TL.done ?_
      exact TC.nrm (false) () ⟨rfl, rfl, rfl, rfl, rfl, rfl, (by rw [c2]; rfl), trivial⟩ [] (by kernel_rfl)
  · rintro b_1 _
    refine TL.assign rfl rfl (v := .bool b_1) rfl ?_
    refine TL.done ?_
    exact TC.retF (Fin.body (fin1 (.inr rfl) rfl (.tmp rfl) [] rfl ⟨rfl, rfl⟩))

end Go.Proofs.Ytjjfoofjipafiaa.G

/- slices.IndexFunc[[]int64,int64], as a pure function. -/
set_option linter.unusedVariables false
namespace Go.Proofs.Ytjjfoofjipafiaa.G
open Go Go.Sx Go.Proofs

def slices_IndexFunc_int64_int64.b0 (s1 : List Int) (f2 : Int → Option Bool) : Int → Option (LR Int Int) := fun x1 => (bif (decide (x1 < (s1.length : Int))) then chk x1 s1.length ((f2 (gt s1 x1)).bind (fun r_1 => (bif r_1 then some (.ret (x1)) else some (.next (w64 (x1 + 1)))))) else some (.brk x1))

def slices_IndexFunc_int64_int64.f (s1 : List Int) (f2 : Int → Option Bool) : Option Int := (loop (slices_IndexFunc_int64_int64.b0 s1 f2) 0).bind (ln (fun x1 => some (-1)))

def slices_IndexFunc_int64_int64.R (r : Int) (v : Value) (L : List Asn) : Prop := v = .int .i64 r ∧ L = []

set_option maxRecDepth 100000 in
set_option maxHeartbeats 4000000 in
theorem slices_IndexFunc_int64_int64.calls (w : World) (s2 : SV) (s1 : List Int) (f1 : Nat) (fst1 : List Value) (cap1 : List Value) (f2 : Int → Option Bool) (h1 : Reads Ei (hp w) s2 s1) (hc1 : ∀ (args_ : Array Value) (w_ : World), (callFunc f1 args_).run Try.prog w_ = .ok (.enter f1 args_) w_) (hf1 : ∀ w_, Hle (hp w) (hp w_) → ∀ (x0_ : Int), ∀ r_, f2 x0_ = some r_ → Calls Try.prog f1 (fst1 ++ ([.int .i64 x0_] : List Value) ++ cap1).toArray w_ (Ret w_ (fun (v_ : Value) (L_ : List Asn) => v_ = .bool r_ ∧ L_ = []))) :
    ∀ r, slices_IndexFunc_int64_int64.f s1 f2 = some r → Calls Try.prog 106 #[SV.v s2, .func (.func f1) fst1.toArray cap1.toArray] w (Ret w (slices_IndexFunc_int64_int64.R r)) := by

  refine calls_T (n := 19) (Γ := [(0, SV.v s2), (1, .func (.func f1) fst1.toArray cap1.toArray)]) (R := slices_IndexFunc_int64_int64.R) Try.func106 rfl rfl (Nat.le_of_ble_eq_true rfl) ⟨rfl, rfl, trivial⟩ ?_
  unfold slices_IndexFunc_int64_int64.f
  refine TC.seq ?_
  refine TC.region ?_
  refine TL.assign rfl rfl (v := .int .i64 0) rfl ?_
  refine TL.done ?_
  refine TC.seq ?_
  refine TC.seq ?_
  refine TC.region ?_
  refine TL.move rfl rfl (v := SV.v s2) rfl ?_
  refine TL.len (Rd.old h1) Try.underlying22 rfl rfl rfl ?_
  refine TL.move rfl rfl (v := .int .i64 0) rfl ?_
  refine TL.done ?_
  refine TC.loopK (σ := Int) (γ := Unit) (Γ' := (fun x1 _ => [(0, SV.v s2), (1, .func (.func f1) fst1.toArray cap1.toArray), (7, .int .i64 (s1.length : Int)), (8, .int .i64 x1)])) (L' := (fun x1 _ => [])) (Γb := (fun x1 _ => [(0, SV.v s2), (1, .func (.func f1) fst1.toArray cap1.toArray), (7, .int .i64 (s1.length : Int)), (8, .int .i64 x1)])) (Lb := (fun x1 _ => [])) (0) (()) ⟨rfl, rfl, rfl, rfl, trivial⟩ [] rfl ?_ ?_
  · rintro x1 _
    refine TC.seq ?_
    refine TC.region ?_
    refine TL.bin .i64 x1 (s1.length : Int) rfl rfl rfl rfl (v := .bool (decide (x1 < (s1.length : Int)))) rfl ?_
    refine TL.done ?_
    refine TC.seq ?_
    refine TC.cond (b := (decide (x1 < (s1.length : Int)))) rfl (fun c1 => ?_) (fun c2 => ?_)
    · refine TC.skip ?_
      refine TC.seq ?_
      refine TC.block (NoEx.loop rfl NoEx.body) ?_
      refine TC.seq ?_
      refine TC.region ?_
      refine TL.move rfl rfl (v := .int .i64 x1) rfl ?_
      refine TL.assign rfl rfl (v := .int .i64 x1) rfl ?_
      refine TL.done ?_
      refine TC.seq ?_
      refine TC.region ?_
      refine TL.move rfl rfl (v := .func (.func f1) fst1.toArray cap1.toArray) rfl ?_
      refine TL.move rfl rfl (v := SV.v s2) rfl ?_
      refine TL.move rfl rfl (v := .int .i64 x1) rfl ?_
      refine TL.chk fun h2 => ?_
      refine TL.ixs x1 x1.toNat (Rd.old h1) h2 Try.underlying22 Try.sizeOf2 rfl rfl rfl rfl (by omega) ?_
      refine TL.loadE (Rd.old h1) Try.isAgg2 x1.toNat 0 (gt_spec h2) (v := .int .i64 (gt s1 x1)) rfl (by simp only [show Ei.sz = 1 from rfl] <;> omega) rfl rfl rfl ?_
      refine TL.callv (R := (fun r_ => (fun (v_ : Value) (L_ : List Asn) => v_ = .bool r_ ∧ L_ = []))) (vs := [.int .i64 (gt s1 x1)]) hc1 rfl rfl rfl rfl (fun w hS => hf1 w hS.iw (gt s1 x1)) ?_
      rintro r_1 _ _ ⟨rfl, rfl⟩
      refine TL.done ?_
      refine TC.cond (b := r_1) rfl (fun c3 => ?_) (fun c4 => ?_)
      · refine TC.seq ?_
        refine TC.region ?_
        refine TL.move rfl rfl (v := .int .i64 x1) rfl ?_
        refine TL.assign rfl rfl (v := .int .i64 x1) rfl ?_
        refine TL.done ?_
        exact TC.retF (Fin.loop Far.ret (Fin.body (fin1 (.inr rfl) rfl (.tmp rfl) [] rfl ⟨rfl, rfl⟩)))
      · refine TC.skip ?_
        refine TC.region ?_
        refine TL.bin .i64 x1 1 rfl rfl rfl rfl (v := .int .i64 (w64 (x1 + 1))) rfl ?_
        refine TL.move rfl rfl (v := .int .i64 (w64 (x1 + 1))) rfl ?_
        refine TL.done ?_
        exact TC.next ((w64 (x1 + 1))) (()) ⟨rfl, rfl, rfl, rfl, trivial⟩ [] rfl
    · exact TC.brk (x1) (()) ⟨rfl, rfl, rfl, rfl, trivial⟩ [] rfl
  · rintro x1 _
    refine TC.seq ?_
    refine TC.region ?_
    refine TL.assign rfl rfl (v := .int .i64 (-1)) rfl ?_
    refine TL.done ?_
    exact TC.retF (Fin.body (fin1 (.inr rfl) rfl (.tmp rfl) [] rfl ⟨rfl, rfl⟩))

end Go.Proofs.Ytjjfoofjipafiaa.G

/- slices.ContainsFunc[[]int64,int64], as a pure function. -/
set_option linter.unusedVariables false
namespace Go.Proofs.Ytjjfoofjipafiaa.G
open Go Go.Sx Go.Proofs

def slices_ContainsFunc_int64_int64.f (s1 : List Int) (f2 : Int → Option Bool) : Option Bool := (G.slices_IndexFunc_int64_int64.f s1 f2).bind (fun r_1 => some (decide (r_1 ≥ 0)))

def slices_ContainsFunc_int64_int64.R (r : Bool) (v : Value) (L : List Asn) : Prop := v = .bool r ∧ L = []

set_option maxRecDepth 100000 in
set_option maxHeartbeats 4000000 in
theorem slices_ContainsFunc_int64_int64.calls (w : World) (s2 : SV) (s1 : List Int) (f1 : Nat) (fst1 : List Value) (cap1 : List Value) (f2 : Int → Option Bool) (h1 : Reads Ei (hp w) s2 s1) (hc1 : ∀ (args_ : Array Value) (w_ : World), (callFunc f1 args_).run Try.prog w_ = .ok (.enter f1 args_) w_) (hf1 : ∀ w_, Hle (hp w) (hp w_) → ∀ (x0_ : Int), ∀ r_, f2 x0_ = some r_ → Calls Try.prog f1 (fst1 ++ ([.int .i64 x0_] : List Value) ++ cap1).toArray w_ (Ret w_ (fun (v_ : Value) (L_ : List Asn) => v_ = .bool r_ ∧ L_ = []))) :
    ∀ r, slices_ContainsFunc_int64_int64.f s1 f2 = some r → Calls Try.prog 89 #[SV.v s2, .func (.func f1) fst1.toArray cap1.toArray] w (Ret w (slices_ContainsFunc_int64_int64.R r)) := by

  refine calls_T (n := 9) (Γ := [(0, SV.v s2), (1, .func (.func f1) fst1.toArray cap1.toArray)]) (R := slices_ContainsFunc_int64_int64.R) Try.func89 rfl rfl (Nat.le_of_ble_eq_true rfl) ⟨rfl, rfl, trivial⟩ ?_
  unfold slices_ContainsFunc_int64_int64.f
  refine TC.seq ?_
  refine TC.region ?_
  refine TL.assign rfl rfl (v := .bool false) rfl ?_
  refine TL.done ?_
  refine TC.seq ?_
  refine TC.region ?_
  refine TL.move rfl rfl (v := SV.v s2) rfl ?_
  refine TL.move rfl rfl (v := .func (.func f1) fst1.toArray cap1.toArray) rfl ?_
  refine TL.call (R := G.slices_IndexFunc_int64_int64.R) Try.call106 rfl rfl rfl (fun w hS => G.slices_IndexFunc_int64_int64.calls w s2 s1 f1 fst1 cap1 f2 ((Rd.old h1) w hS) hc1 (fun w_ hle_ => hf1 w_ (hS.iw.trans hle_))) ?_
  rintro r_1 _ _ ⟨rfl, rfl⟩
  refine TL.bin .i64 r_1 0 rfl rfl rfl rfl (v := .bool (decide (r_1 ≥ 0))) rfl ?_
  refine TL.assign rfl rfl (v := .bool (decide (r_1 ≥ 0))) rfl ?_
  refine TL.done ?_
  exact TC.retF (Fin.body (fin1 (.inr rfl) rfl (.tmp rfl) [] rfl ⟨rfl, rfl⟩))

end Go.Proofs.Ytjjfoofjipafiaa.G

/- impl.IsTensor$1, as a pure function. -/
set_option linter.unusedVariables false
namespace Go.Proofs.Ytjjfoofjipafiaa.G
open Go Go.Sx Go.Proofs

def impl_IsTensor_1.f (x1 : Int) (c1 : Int) (c2 : Int) (c3 : Int) (c4 : Int) (c5 : List Int) : Option Bool := (G.impl_in.f x1 0 (w64 (c1 - 1))).bind (fun r_1 => some (!r_1))

def impl_IsTensor_1.R (r : Bool) (v : Value) (L : List Asn) : Prop := v = .bool r ∧ L = []

set_option maxRecDepth 100000 in
set_option maxHeartbeats 4000000 in
theorem impl_IsTensor_1.calls (w : World) (x1 : Int) (b_1 : Nat) (c1 : Int) (c2 : Int) (c3 : Int) (c4 : Int) (s1 : SV) (c5 : List Int) (h2 : At (hp w) b_1 [.one (.int .i64 c1), .one (.int .i64 c2), .one (.int .i64 c3), .one (.int .i64 c4), .one (SV.v s1)]) (h1 : Reads Ei (hp w) s1 c5) :
    ∀ r, impl_IsTensor_1.f x1 c1 c2 c3 c4 c5 = some r → Calls Try.prog 90 #[.int .i64 x1, bp b_1 0] w (Ret w (impl_IsTensor_1.R r)) := by

  refine calls_T (n := 10) (Γ := [(0, .int .i64 x1), (1, bp b_1 0)]) (R := impl_IsTensor_1.R) Try.func90 rfl rfl (Nat.le_of_ble_eq_true rfl) ⟨rfl, rfl, trivial⟩ ?_
  unfold impl_IsTensor_1.f
  refine TC.seq ?_
  refine TC.region ?_
  refine TL.assign rfl rfl (v := .bool false) rfl ?_
  refine TL.done ?_
  refine TC.seq ?_
  refine TC.region ?_
  refine TL.move rfl rfl (v := .int .i64 x1) rfl ?_
  refine TL.fa Try.underlying24 rfl Try.sizeOf2 rfl 0 rfl rfl rfl rfl ?_
  refine TL.load1 0 (Src.at h2) Try.isAgg2 rfl rfl rfl rfl rfl ?_
  refine TL.bin .i64 c1 1 rfl rfl rfl rfl (v := .int .i64 (w64 (c1 - 1))) rfl ?_
  refine TL.call (R := G.impl_in.R) Try.call62 rfl rfl rfl (fun w hS => G.impl_in.calls w x1 0 (w64 (c1 - 1))) ?_
  rintro r_1 _ _ ⟨rfl, rfl⟩
  refine TL.not r_1 rfl rfl rfl ?_
  refine TL.assign rfl rfl (v := .bool (!r_1)) rfl ?_
  refine TL.done ?_
  exact TC.retF (Fin.body (fin1 (.inr rfl) rfl (.tmp rfl) [] rfl ⟨rfl, rfl⟩))

end Go.Proofs.Ytjjfoofjipafiaa.G

/- impl.IsTensor, as a pure function. -/
set_option linter.unusedVariables false
namespace Go.Proofs.Ytjjfoofjipafiaa.G
open Go Go.Sx Go.Proofs

def impl_IsTensor.f (t1 : Int) (t2 : Int) (t3 : Int) (t4 : Int) (t5 : List Int) : Option Bool := (G.impl_shapeOk.f t1 t2).bind (fun r_1 => (bif (!r_1) then some true else (G.impl_endsOk.f t3).bind (fun r_2 => some (!r_2))).bind (fun b_2 => (bif b_2 then some true else (G.impl_endsOk.f t4).bind (fun r_3 => some (!r_3))).bind (fun b_3 => (bif b_3 then some false else (G.impl_powerOf.f t2 (w64 (t3 + t4))).bind (fun r_4 => (G.slices_ContainsFunc_int64_int64.f t5 (fun x0_ => G.impl_IsTensor_1.f x0_ t1 t2 t3 t4 t5)).bind (fun r_5 => some (((decide (r_4 ≤ 1296)) && ((t5.length : Int) == r_4)) && (!r_5))))))))

def impl_IsTensor.R (r : Bool) (v : Value) (L : List Asn) : Prop := v = .bool r ∧ L = []

set_option maxRecDepth 100000 in
set_option maxHeartbeats 4000000 in
theorem impl_IsTensor.calls (w : World) (t1 : Int) (t2 : Int) (t3 : Int) (t4 : Int) (s1 : SV) (t5 : List Int) (h1 : Reads Ei (hp w) s1 t5) :
    ∀ r, impl_IsTensor.f t1 t2 t3 t4 t5 = some r → Calls Try.prog 57 #[sval [.one (.int .i64 t1), .one (.int .i64 t2), .one (.int .i64 t3), .one (.int .i64 t4), .one (SV.v s1)]] w (Ret w (impl_IsTensor.R r)) := by

  refine calls_T (n := 48) (Γ := [(0, sval [.one (.int .i64 t1), .one (.int .i64 t2), .one (.int .i64 t3), .one (.int .i64 t4), .one (SV.v s1)])]) (R := impl_IsTensor.R) Try.func57 rfl rfl (Nat.le_of_ble_eq_true rfl) ⟨rfl, trivial⟩ ?_
  unfold impl_IsTensor.f
  refine TC.seq ?_
  refine TC.region ?_
  refine TL.box [.one (.int .i64 t1), .one (.int .i64 t2), .one (.int .i64 t3), .one (.int .i64 t4), .one (SV.v s1)] rfl rfl rfl rfl fun b_1 => ?_
  refine TL.assign rfl rfl (v := .bool false) rfl ?_
  refine TL.done ?_
  refine TC.seq ?_
  refine TC.seq ?_
  refine TC.region ?_
  refine TL.fa Try.underlying24 rfl Try.sizeOf2 rfl 0 rfl rfl rfl rfl ?_
  refine TL.load1 0 (Src.box 0 rfl) Try.isAgg2 rfl rfl rfl rfl rfl ?_
  refine TL.fa Try.underlying24 rfl Try.sizeOf2 rfl 1 rfl rfl rfl rfl ?_
  refine TL.load1 1 (Src.box 0 rfl) Try.isAgg2 rfl rfl rfl rfl rfl ?_
  refine TL.call (R := G.impl_shapeOk.R) Try.call46 rfl rfl rfl (fun w hS => G.impl_shapeOk.calls w t1 t2) ?_
  rintro r_1 _ _ ⟨rfl, rfl⟩
  refine TL.not r_1 rfl rfl rfl ?_
  refine TL.move rfl rfl (v := .bool (!r_1)) rfl ?_
  refine TL.cutJ (σ := Bool) (γ := Unit) (Γ' := fun b_2 _ => [(16, .bool b_2), (0, sval [.one (.int .i64 t1), .one (.int .i64 t2), .one (.int .i64 t3), .one (.int .i64 t4), .one (SV.v s1)]), (1, bp b_1 0), (2, .bool false), (5, bp b_1 0), (6, .int .i64 t1), (7, bp b_1 1), (8, .int .i64 t2), (9, .bool r_1), (10, .bool (!r_1)), (11, .bool (!r_1))]) (L' := fun _ _ => [box b_1 24 [.one (.int .i64 t1), .one (.int .i64 t2), .one (.int .i64 t3), .one (.int .i64 t4), .one (SV.v s1)]]) 5 ?_ ?_
  · refine TL.ifb (t := 11) (b := (!r_1)) rfl (fun c1 => ?_) (fun c2 => ?_)
    · refine TL.skip rfl rfl (by decide) ?_
      refine TL.skip rfl rfl (by decide) ?_
      refine TL.skip rfl rfl (by decide) ?_
      refine TL.skip rfl rfl (by decide) ?_
      refine TL.pick rfl rfl (b := true) rfl (r := .bool true) rfl ?_
      refine TL.done ?_
      exact TC.nrm (true) () ⟨rfl, rfl, rfl, rfl, rfl, rfl, rfl, rfl, rfl, rfl, (by rw [c1]; rfl), trivial⟩ [0] (by kernel_rfl)
    · refine TL.fa Try.underlying24 rfl Try.sizeOf2 rfl 2 rfl rfl rfl rfl ?_
      refine TL.load1 2 (Src.box 0 rfl) Try.isAgg2 rfl rfl rfl rfl rfl ?_
      refine TL.call (R := G.impl_endsOk.R) Try.call51 rfl rfl rfl (fun w hS => G.impl_endsOk.calls w t3) ?_
      rintro r_2 _ _ ⟨rfl, rfl⟩
      refine TL.not r_2 rfl rfl rfl ?_
      refine TL.pick rfl rfl (b := false) rfl (r := .bool (!r_2)) rfl ?_
      refine TL.done ?_
      exact TC.nrm ((!r_2)) () ⟨rfl, rfl, rfl, rfl, rfl, rfl, rfl, rfl, rfl, rfl, (by rw [c2]; rfl), trivial⟩ [0] (by kernel_rfl)
  · rintro b_2 _
    refine TL.move rfl rfl (v := .bool b_2) rfl ?_
    refine TL.cutJ (σ := Bool) (γ := Unit) (Γ' := fun b_3 _ => [(22, .bool b_3), (0, sval [.one (.int .i64 t1), .one (.int .i64 t2), .one (.int .i64 t3), .one (.int .i64 t4), .one (SV.v s1)]), (1, bp b_1 0), (2, .bool false), (5, bp b_1 0), (6, .int .i64 t1), (7, bp b_1 1), (8, .int .i64 t2), (9, .bool r_1), (10, .bool (!r_1)), (11, .bool (!r_1)), (16, .bool b_2), (17, .bool b_2)]) (L' := fun _ _ => [box b_1 24 [.one (.int .i64 t1), .one (.int .i64 t2), .one (.int .i64 t3), .one (.int .i64 t4), .one (SV.v s1)]]) 5 ?_ ?_
    · refine TL.ifb (t := 17) (b := b_2) rfl (fun c3 => ?_) (fun c4 => ?_)
      · refine TL.skip rfl rfl (by decide) ?_
        refine TL.skip rfl rfl (by decide) ?_
        refine TL.skip rfl rfl (by decide) ?_
        refine TL.skip rfl rfl (by decide) ?_
        refine TL.pick rfl rfl (b := true) rfl (r := .bool true) rfl ?_
        refine TL.done ?_
        exact TC.nrm (true) () ⟨rfl, rfl, rfl, rfl, rfl, rfl, rfl, rfl, rfl, rfl, rfl, rfl, (by rw [c3]; rfl), trivial⟩ [0] (by kernel_rfl)
      · refine TL.fa Try.underlying24 rfl Try.sizeOf2 rfl 3 rfl rfl rfl rfl ?_
        refine TL.load1 3 (Src.box 0 rfl) Try.isAgg2 rfl rfl rfl rfl rfl ?_
        refine TL.call (R := G.impl_endsOk.R) Try.call51 rfl rfl rfl (fun w hS => G.impl_endsOk.calls w t4) ?_
        rintro r_3 _ _ ⟨rfl, rfl⟩
        refine TL.not r_3 rfl rfl rfl ?_
        refine TL.pick rfl rfl (b := false) rfl (r := .bool (!r_3)) rfl ?_
        refine TL.done ?_
        exact TC.nrm ((!r_3)) () ⟨rfl, rfl, rfl, rfl, rfl, rfl, rfl, rfl, rfl, rfl, rfl, rfl, (by rw [c4]; rfl), trivial⟩ [0] (by kernel_rfl)
    · rintro b_3 _
      refine TL.done ?_
      refine TC.cond (b := b_3) rfl (fun c5 => ?_) (fun c6 => ?_)
      · refine TC.seq ?_
        refine TC.region ?_
        refine TL.assign rfl rfl (v := .bool false) rfl ?_
        refine TL.done ?_
        exact TC.retF (Fin.body (fin1 (.inr rfl) rfl (.tmp rfl) [] rfl ⟨rfl, rfl⟩))
      · refine TC.skip ?_
        refine TC.seq ?_
        refine TC.region ?_
        refine TL.fa Try.underlying24 rfl Try.sizeOf2 rfl 1 rfl rfl rfl rfl ?_
        refine TL.load1 1 (Src.box 0 rfl) Try.isAgg2 rfl rfl rfl rfl rfl ?_
        refine TL.fa Try.underlying24 rfl Try.sizeOf2 rfl 2 rfl rfl rfl rfl ?_
        refine TL.load1 2 (Src.box 0 rfl) Try.isAgg2 rfl rfl rfl rfl rfl ?_
        refine TL.fa Try.underlying24 rfl Try.sizeOf2 rfl 3 rfl rfl rfl rfl ?_
        refine TL.load1 3 (Src.box 0 rfl) Try.isAgg2 rfl rfl rfl rfl rfl ?_
        refine TL.bin .i64 t3 t4 rfl rfl rfl rfl (v := .int .i64 (w64 (t3 + t4))) rfl ?_
        refine TL.call (R := G.impl_powerOf.R) Try.call67 rfl rfl rfl (fun w hS => G.impl_powerOf.calls w t2 (w64 (t3 + t4))) ?_
        rintro r_4 _ _ ⟨rfl, rfl⟩
        refine TL.assign rfl rfl (v := .int .i64 r_4) rfl ?_
        refine TL.done ?_
        refine TC.seq ?_
        refine TC.region ?_
        refine TL.fa Try.underlying24 rfl Try.sizeOf22 rfl 4 rfl rfl rfl rfl ?_
        refine TL.load1 4 (Src.box 0 rfl) Try.isAgg22 rfl rfl rfl rfl rfl ?_
        refine TL.makeFunc rfl rfl (us := []) (vs := [bp b_1 0]) rfl rfl ?_
        refine TL.call (R := G.slices_ContainsFunc_int64_int64.R) Try.call89 rfl rfl rfl (fun w hS => G.slices_ContainsFunc_int64_int64.calls w s1 t5 90 [] [bp b_1 0] (fun x0_ => G.impl_IsTensor_1.f x0_ t1 t2 t3 t4 t5) ((Rd.old h1) w hS) Try.call90 (fun w_ hle_ x0_ r_ hr_ => G.impl_IsTensor_1.calls w_ x0_ b_1 t1 t2 t3 t4 s1 t5 (((Src.box 0 rfl) w hS).mono hle_) (((Rd.old h1) w hS).mono hle_) r_ hr_)) ?_
        rintro r_5 _ _ ⟨rfl, rfl⟩
        refine TL.assign rfl rfl (v := .bool r_5) rfl ?_
        refine TL.done ?_
        refine TC.seq ?_
        refine TC.region ?_
        refine TL.move rfl rfl (v := .int .i64 r_4) rfl ?_
        refine TL.bin .i64 r_4 1296 rfl rfl rfl rfl (v := .bool (decide (r_4 ≤ 1296))) rfl ?_
        refine TL.move rfl rfl (v := .bool (decide (r_4 ≤ 1296))) rfl ?_
        refine TL.cutU 6 [(43, .bool ((decide (r_4 ≤ 1296)) && ((t5.length : Int) == r_4))), (0, sval [.one (.int .i64 t1), .one (.int .i64 t2), .one (.int .i64 t3), .one (.int .i64 t4), .one (SV.v s1)]), (1, bp b_1 0), (2, .bool false), (5, bp b_1 0), (6, .int .i64 t1), (7, bp b_1 1), (8, .int .i64 t2), (9, .bool r_1), (10, .bool (!r_1)), (11, .bool (!r_1)), (16, .bool b_2), (17, .bool b_2), (22, .bool b_3), (23, bp b_1 1), (24, .int .i64 t2), (25, bp b_1 2), (26, .int .i64 t3), (27, bp b_1 3), (28, .int .i64 t4), (29, .int .i64 (w64 (t3 + t4))), (30, .int .i64 r_4), (3, .int .i64 r_4), (31, bp b_1 4), (32, SV.v s1), (33, .func (.func 90) #[] #[bp b_1 0]), (34, .bool r_5), (4, .bool r_5), (35, .int .i64 r_4), (36, .bool (decide (r_4 ≤ 1296))), (37, .bool (decide (r_4 ≤ 1296)))] [box b_1 24 [.one (.int .i64 t1), .one (.int .i64 t2), .one (.int .i64 t3), .one (.int .i64 t4), .one (SV.v s1)]] ?_ ?_
        · refine TL.cases (t := 37) (b := (decide (r_4 ≤ 1296))) rfl (fun c7 => ?_) (fun c8 => ?_)
          · refine TL.fa Try.underlying24 rfl Try.sizeOf22 rfl 4 rfl rfl rfl rfl ?_
            refine TL.load1 4 (Src.box 0 rfl) Try.isAgg22 rfl rfl rfl rfl rfl ?_
            refine TL.len (Rd.old h1) Try.underlying22 rfl rfl rfl ?_
            refine TL.move rfl rfl (v := .int .i64 r_4) rfl ?_
            refine TL.bin .i64 (t5.length : Int) r_4 rfl rfl rfl rfl (v := .bool ((t5.length : Int) == r_4)) rfl ?_
            refine TL.pick rfl rfl (b := true) rfl (r := .bool ((t5.length : Int) == r_4)) rfl ?_
            refine TL.done ?_
            exact TC.nrm () () ⟨(by rw [c7]; rfl), rfl, rfl, rfl, rfl, rfl, rfl, rfl, rfl, rfl, rfl, rfl, rfl, rfl, rfl, rfl, rfl, rfl, rfl, rfl, rfl, rfl, rfl, rfl, rfl, rfl, rfl, rfl, rfl, rfl, (by rw [c7]; rfl), trivial⟩ [0] (by kernel_rfl)
          · refine TL.skip rfl rfl (by decide) ?_
            refine TL.skip rfl rfl (by decide) ?_
            refine TL.skip rfl rfl (by decide) ?_
            refine TL.skip rfl rfl (by decide) ?_
            refine TL.skip rfl rfl (by decide) ?_
            refine TL.pick rfl rfl (b := false) rfl (r := .bool false) rfl ?_
            refine TL.done ?_
            exact TC.nrm () () ⟨(by rw [c8]; rfl), rfl, rfl, rfl, rfl, rfl, rfl, rfl, rfl, rfl, rfl, rfl, rfl, rfl, rfl, rfl, rfl, rfl, rfl, rfl, rfl, rfl, rfl, rfl, rfl, rfl, rfl, rfl, rfl, rfl, (by rw [c8]; rfl), trivial⟩ [0] (by kernel_rfl)
        · refine TL.move rfl rfl (v := .bool ((decide (r_4 ≤ 1296)) && ((t5.length : Int) == r_4))) rfl ?_
          refine TL.cutU 3 [(47, .bool (((decide (r_4 ≤ 1296)) && ((t5.length : Int) == r_4)) && (!r_5))), (0, sval [.one (.int .i64 t1), .one (.int .i64 t2), .one (.int .i64 t3), .one (.int .i64 t4), .one (SV.v s1)]), (1, bp b_1 0), (2, .bool false), (5, bp b_1 0), (6, .int .i64 t1), (7, bp b_1 1), (8, .int .i64 t2), (9, .bool r_1), (10, .bool (!r_1)), (11, .bool (!r_1)), (16, .bool b_2), (17, .bool b_2), (22, .bool b_3), (23, bp b_1 1), (24, .int .i64 t2), (25, bp b_1 2), (26, .int .i64 t3), (27, bp b_1 3), (28, .int .i64 t4), (29, .int .i64 (w64 (t3 + t4))), (30, .int .i64 r_4), (3, .int .i64 r_4), (31, bp b_1 4), (32, SV.v s1), (33, .func (.func 90) #[] #[bp b_1 0]), (34, .bool r_5), (4, .bool r_5), (35, .int .i64 r_4), (36, .bool (decide (r_4 ≤ 1296))), (37, .bool (decide (r_4 ≤ 1296))), (43, .bool ((decide (r_4 ≤ 1296)) && ((t5.length : Int) == r_4))), (44, .bool ((decide (r_4 ≤ 1296)) && ((t5.length : Int) == r_4)))] [box b_1 24 [.one (.int .i64 t1), .one (.int .i64 t2), .one (.int .i64 t3), .one (.int .i64 t4), .one (SV.v s1)]] ?_ ?_
          · refine TL.cases (t := 44) (b := ((decide (r_4 ≤ 1296)) && ((t5.length : Int) == r_4))) rfl (fun c9 => ?_) (fun c10 => ?_)
            · refine TL.move rfl rfl (v := .bool r_5) rfl ?_
              refine TL.not r_5 rfl rfl rfl ?_
              refine TL.pick rfl rfl (b := true) rfl (r := .bool (!r_5)) rfl ?_
              refine TL.done ?_
              exact TC.nrm () () ⟨(by rw [c9]; rfl), rfl, rfl, rfl, rfl, rfl, rfl, rfl, rfl, rfl, rfl, rfl, rfl, rfl, rfl, rfl, rfl, rfl, rfl, rfl, rfl, rfl, rfl, rfl, rfl, rfl, rfl, rfl, rfl, rfl, rfl, rfl, (by rw [c9]; rfl), trivial⟩ [0] (by kernel_rfl)
            · refine TL.skip rfl rfl (by decide) ?_
              refine TL.skip rfl rfl (by decide) ?_
              refine TL.pick rfl rfl (b := false) rfl (r := .bool false) rfl ?_
              refine TL.done ?_
              exact TC.nrm () () ⟨(by rw [c10]; rfl), rfl, rfl, rfl, rfl, rfl, rfl, rfl, rfl, rfl, rfl, rfl, rfl, rfl, rfl, rfl, rfl, rfl, rfl, rfl, rfl, rfl, rfl, rfl, rfl, rfl, rfl, rfl, rfl, rfl, rfl, rfl, (by rw [c10]; rfl), trivial⟩ [0] (by kernel_rfl)
          · refine TL.assign rfl rfl (v := .bool (((decide (r_4 ≤ 1296)) && ((t5.length : Int) == r_4)) && (!r_5))) rfl ?_
            refine TL.done ?_
            exact TC.retF (Fin.body (fin1 (.inr rfl) rfl (.tmp rfl) [] rfl ⟨rfl, rfl⟩))

end Go.Proofs.Ytjjfoofjipafiaa.G

/- slices.Sort at this program's list of numbers: the contract of the kit's shelf, laid in plain words (by the kit's tool). -/
namespace Go.Proofs.Ytjjfoofjipafiaa.G
open Go Go.Proofs Go.Shelf
def sortA_ren : Go.Shelf.Ren := ⟨fun | 5 => 108 | 8 => 118 | 7 => 117 | 19 => 132 | 20 => 133 | 10 => 123 | 11 => 124 | 12 => 125 | 13 => 126 | 14 => 127 | 15 => 128 | 16 => 129 | 17 => 130 | 18 => 131 | 30 => 136 | 31 => 137 | 32 => 138 | 33 => 139 | 34 => 140 | 35 => 141 | 40 => 145 | n => n, fun | 23 => 22 | 25 => 2 | 3 => 3 | 32 => 123 | 22 => 22 | 0 => 0 | 44 => 140 | 46 => 142 | 4 => 4 | 36 => 133 | 35 => 132 | 41 => 137 | 5 => 5 | 9 => 9 | 53 => 145 | 57 => 149 | 63 => 152 | 64 => 153 | n => n, fun | n => n⟩
theorem sortA : Go.Proofs.SlLaysM.n5 Try.prog sortA_ren := {
  mixed := by kernel_rfl
  f5 := ⟨Try.f108.name, by decide, Try.func108.trans (congrArg some (by kernel_rfl))⟩
  f7 := ⟨Try.f117.name, by decide, Try.func117.trans (congrArg some (by kernel_rfl))⟩
  f8 := Try.func118.trans (congrArg some (by kernel_rfl))
  f10 := ⟨Try.f123.name, by decide, Try.func123.trans (congrArg some (by kernel_rfl))⟩
  f11 := ⟨Try.f124.name, by decide, Try.func124.trans (congrArg some (by kernel_rfl))⟩
  f12 := ⟨Try.f125.name, by decide, Try.func125.trans (congrArg some (by kernel_rfl))⟩
  f13 := ⟨Try.f126.name, by decide, Try.func126.trans (congrArg some (by kernel_rfl))⟩
  f14 := ⟨Try.f127.name, by decide, Try.func127.trans (congrArg some (by kernel_rfl))⟩
  f15 := ⟨Try.f128.name, by decide, Try.func128.trans (congrArg some (by kernel_rfl))⟩
  f16 := ⟨Try.f129.name, by decide, Try.func129.trans (congrArg some (by kernel_rfl))⟩
  f17 := ⟨Try.f130.name, by decide, Try.func130.trans (congrArg some (by kernel_rfl))⟩
  f18 := ⟨Try.f131.name, by decide, Try.func131.trans (congrArg some (by kernel_rfl))⟩
  f19 := Try.func132.trans (congrArg some (by kernel_rfl))
  f20 := Try.func133.trans (congrArg some (by kernel_rfl))
  f30 := ⟨Try.f136.name, by decide, Try.func136.trans (congrArg some (by kernel_rfl))⟩
  f31 := Try.func137.trans (congrArg some (by kernel_rfl))
  f32 := Try.func138.trans (congrArg some (by kernel_rfl))
  f33 := ⟨Try.f139.name, by decide, Try.func139.trans (congrArg some (by kernel_rfl))⟩
  f34 := ⟨Try.f140.name, by decide, Try.func140.trans (congrArg some (by kernel_rfl))⟩
  f35 := ⟨Try.f141.name, by decide, Try.func141.trans (congrArg some (by kernel_rfl))⟩
  f40 := ⟨Try.f145.name, by decide, Try.func145.trans (congrArg some (by kernel_rfl))⟩
  t0 := Try.underlying0
  a0 := Try.isAgg0
  z0 := Try.sizeOf0
  v0 := Try.zeroValue0
  t3 := Try.underlying3
  a3 := Try.isAgg3
  z3 := Try.sizeOf3
  v3 := Try.zeroValue3
  t4 := Try.underlying4
  a4 := Try.isAgg4
  z4 := Try.sizeOf4
  v4 := Try.zeroValue4
  t5 := Try.underlying5
  a5 := Try.isAgg5
  z5 := Try.sizeOf5
  v5 := Try.zeroValue5
  t9 := Try.underlying9
  a9 := Try.isAgg9
  z9 := Try.sizeOf9
  v9 := Try.zeroValue9
  t22 := Try.underlying22
  a22 := Try.isAgg22
  z22 := Try.sizeOf22
  v22 := Try.zeroValue22
  t23 := Try.underlying22
  a23 := Try.isAgg22
  z23 := Try.sizeOf22
  v23 := Try.zeroValue22
  t25 := Try.underlying2
  a25 := Try.isAgg2
  z25 := Try.sizeOf2
  v25 := Try.zeroValue2
  t32 := Try.underlying123
  a32 := Try.isAgg123
  z32 := Try.sizeOf123
  v32 := Try.zeroValue123
  t35 := Try.underlying132
  a35 := Try.isAgg132
  z35 := Try.sizeOf132
  v35 := Try.zeroValue132
  t36 := Try.underlying133
  a36 := Try.isAgg133
  z36 := Try.sizeOf133
  v36 := Try.zeroValue133
  t41 := Try.underlying137
  a41 := Try.isAgg137
  z41 := Try.sizeOf137
  v41 := Try.zeroValue137
  t44 := Try.underlying140
  a44 := Try.isAgg140
  z44 := Try.sizeOf140
  v44 := Try.zeroValue140
  t46 := Try.underlying142
  a46 := Try.isAgg142
  z46 := Try.sizeOf142
  v46 := Try.zeroValue142
  t53 := Try.underlying145
  a53 := Try.isAgg145
  z53 := Try.sizeOf145
  v53 := Try.zeroValue145
  t57 := Try.underlying149
  a57 := Try.isAgg149
  z57 := Try.sizeOf149
  v57 := Try.zeroValue149
  t63 := Try.underlying152
  a63 := Try.isAgg152
  z63 := Try.sizeOf152
  v63 := Try.zeroValue152
  t64 := Try.underlying153
  a64 := Try.isAgg153
  z64 := Try.sizeOf153
  v64 := Try.zeroValue153 }

theorem sortsIn (n : Nat) (blk off cap : Nat) (zs : List Int) (w : World) (hH : Go.Sort.Holds (Value.int .i64) w blk off zs.toArray) (hblk : blk < w.heap.size) (hsz : zs.length < 4611686018427387904) :
    CallsIn Fence.wide n Try.prog 108 #[.slice (some ⟨blk, off, none⟩) zs.length cap] w fun e w' =>
      e = .returned (.tuple #[]) ∧ ∃ m os, w' = Go.Sort.grow (Go.Sort.putRow (Value.int .i64) (Go.Sort.ahead w m) blk off (zs.mergeSort fun x y => decide (x ≤ y)).toArray) os := callsIn_wide.2 (AnyM.slices_Sort_int sortA blk off cap zs w hH hblk hsz)
theorem sortsNone (n : Nat) (p : Option Addr) (cap : Nat) (w : World) : CallsIn Fence.wide n Try.prog 108 #[.slice p 0 cap] w fun e w' => e = .returned (.tuple #[]) ∧ w' = w := callsIn_wide.2 (AnyM.slices_Sort_int_none sortA p cap w)
end Go.Proofs.Ytjjfoofjipafiaa.G

/- slices.Sorted(slices.Values(list)): the values of a list gathered and sorted, told by hand; then impl.isOrder. -/
set_option linter.unusedVariables false
namespace Go.Proofs.Ytjjfoofjipafiaa.G
open Go Go.Sx Go.Proofs Go.RowKit Go.Shelf

attribute [local go_sem] Oper.semAt_some

def vInt : Value → Int | .int _ q => q | _ => 0
def uptoV (zs : List Int) (k : Nat) : List Int := (List.range k).map fun j => zs[j]?.getD 0
theorem uptoV_succ (zs : List Int) (k : Nat) : uptoV zs (k + 1) = uptoV zs k ++ [zs[k]?.getD 0] := by simp [uptoV, List.range_succ]
theorem uptoV_length (zs : List Int) (k : Nat) : (uptoV zs k).length = k := by simp [uptoV]
theorem uptoV_all (zs : List Int) : uptoV zs zs.length = zs := by
  apply List.ext_getElem
  · simp [uptoV]
  · intro i h1 h2
    simp [uptoV, h2]

set_option maxRecDepth 100000 in
set_option maxHeartbeats 4000000 in
theorem values1_in (F : Fence) (n : Nat) (h7 : F.fn 109) (hro : F.round = none) (hn : 1 ≤ n) (l Bs n₀ b off len cap : Nat) (zs : List Int) (hreach : len ≤ 1073741824) (hb : b < n₀) (J Jx : List Int → World → Prop)
    (hY : ∀ pre x W, J pre W → pre.length < len → YieldAt F (n - 1) Try.prog l #[.int .i64 x] W fun e W' =>
      (e = .returned (.bool true) ∧ J (pre ++ [x]) W' ∧ Below n₀ W W') ∨ (e = .returned (.bool false) ∧ Jx (pre ++ [x]) W'))
    (W : World) (hBs : W.cell? ⟨Bs, 0, none⟩ = some (.slice (some ⟨b, off, none⟩) len cap)) (hc : ∀ j, j < len → W.cell? ⟨b, off + j, none⟩ = some (.int .i64 (zs[j]?.getD 0))) (h0 : J [] W) :
    CallsIn F n Try.prog 109 #[.func (.yield l) #[] #[], .pointer (some ⟨Bs, 0, none⟩)] W fun e W' => (∃ v, e = .returned v) ∧
      ((∃ ys, ys = uptoV zs len ∧ J ys W') ∨ (∃ pre, (∃ k, k ≤ len ∧ pre = uptoV zs k) ∧ Jx pre W')) := by
  refine callsIn_of_wp Try.func109 rfl h7 ?_ hro
  simp only [Try.ntmps109, List.size_toArray, List.length_cons, List.length_nil, Nat.reduceAdd, Nat.reduceSub, Array.replicate_succ, Array.replicate_zero, List.push_toArray, List.append_toArray, List.nil_append, List.cons_append]
  gi_wp2
  gi_loopw [7] (fun i wr => ∃ k : Nat, k ≤ len ∧ i = .int .i64 k ∧ J (uptoV zs k) wr ∧ Below n₀ W wr)
    (fun i _ => len - (vInt i).toNat)
  case atStart => exact ⟨0, Nat.zero_le _, rfl, h0, Below.refl _ _⟩
  case round =>
    obtain ⟨k, hk, rfl, hJs, hnx⟩ := hrel
    have hcx : k < len → wr.cell? ⟨b, off + k, none⟩ = some (.int .i64 (zs[k]?.getD 0)) := fun h => (hnx.cell (p := ⟨b, off + k, none⟩) hb).trans (hc k h)
    by_cases hlt : k < len
    · obtain ⟨fn, tmps, assign, body, hy, hR⟩ := hY _ (zs[k]?.getD 0) wr hJs (by rw [uptoV_length]; exact hlt)
      have hcx' := hcx hlt
      gi_wp2
      refine hR.mono ?_
      rintro e W3 (⟨rfl, hJ3, hk3⟩ | ⟨rfl, hJx3⟩)
      · gi_wp2
        go_roundw
        case rel => exact ⟨k + 1, by omega, by simp, by rw [uptoV_succ]; exact hJ3, hnx.trans hk3⟩
        case measure => simp [vInt]; omega
      · gi_wp2
        refine bodyPost_ret (results_none rfl _ _ _) rfl ?_
        exact ⟨⟨_, rfl⟩, .inr ⟨_, ⟨k + 1, by omega, (uptoV_succ _ _).symm⟩, hJx3⟩⟩
    · obtain rfl : k = len := by omega
      gi_wp2
      go_end0
      exact ⟨⟨_, rfl⟩, .inl ⟨_, rfl, hJs⟩⟩

set_option maxRecDepth 100000 in
set_option maxHeartbeats 4000000 in
/-- .. where there is none: no round. -/
theorem values0_in (F : Fence) (n : Nat) (h7 : F.fn 109) (hro : F.round = none) (l Bs : Nat) (J : List Int → World → Prop) (W : World) (a : Option Addr) (cap : Nat) (hBs : W.cell? ⟨Bs, 0, none⟩ = some (.slice a 0 cap)) (h0 : J [] W) :
    CallsIn F n Try.prog 109 #[.func (.yield l) #[] #[], .pointer (some ⟨Bs, 0, none⟩)] W fun e W' => (∃ v, e = .returned v) ∧ J [] W' := by
  refine callsIn_of_wp Try.func109 rfl h7 ?_ hro
  simp only [Try.ntmps109, List.size_toArray, List.length_cons, List.length_nil, Nat.reduceAdd, Nat.reduceSub, Array.replicate_succ, Array.replicate_zero, List.push_toArray, List.append_toArray, List.nil_append, List.cons_append]
  gi_wp2
  gi_loopw [7] (fun i wr => i = .int .i64 0 ∧ J [] wr) (fun _ _ => 0)
  case atStart => exact ⟨rfl, h0⟩
  case round =>
    obtain ⟨rfl, hJs⟩ := hrel
    gi_wp2
    go_end0
    exact ⟨⟨_, rfl⟩, hJs⟩

set_option maxHeartbeats 1000000 in
theorem values_in (F : Fence) (n : Nat) (h5 : F.fn 94) (hro : F.round = none) (a : Option Addr) (len cap : Nat) (w : World) :
    CallsIn F n Try.prog 94 #[.slice a len cap] w fun e w' => e = .returned (.func (.func 109) #[] #[.pointer (some ⟨w.heap.size, 0, none⟩)]) ∧ w' = w.alloc (.cells #[.slice a len cap] 22) := by
  refine callsIn_of_wp Try.func94 rfl h5 ?_ hro
  simp only [Try.ntmps94, List.size_toArray, List.length_cons, List.length_nil, Nat.reduceAdd, Nat.reduceSub, Array.replicate_succ, Array.replicate_zero, List.push_toArray, List.append_toArray, List.nil_append, List.cons_append]
  gi_wp2
  go_ret
  exact ⟨rfl, rfl⟩

theorem rowCells {W : World} {b : Nat} {v : Value} {ss : List Int} {k : Nat} (h : W.ownsRow b 2 1 v ss.length (ss.map (Value.int .i64))) (hk : ss.length = k) :
    ∃ sa sc, v = .slice sa k sc ∧ ∀ j, j < k → ∃ g, sa = some ⟨g, 0, none⟩ ∧ W.cell? ⟨g, j, none⟩ = some (.int .i64 (ss[j]?.getD 0)) := by
  subst hk
  rcases h.2 with ⟨rfl, hz⟩ | ⟨g, cap, cur, rfl, hbase, hg, r1, r2, r3, r4⟩
  · rw [hz]
    exact ⟨none, 0, rfl, fun j hj => by omega⟩
  · refine ⟨_, cap, rfl, fun j hj => ⟨g, rfl, ?_⟩⟩
    rw [cell_at (show W.heap[g]? = _ from hg)]
    have h1 := congrArg (fun l => l[j]?) r4
    simpa [hj] using h1

theorem values_stops (F : Fence) (n : Nat) (h7 : F.fn 109) (hro : F.round = none) (hn : 1 ≤ n) (Bs : Nat) (w0 w : World) (s : SV) (zs : List Int) (hlen : zs.length ≤ 1073741824) (hR : Reads Ei (hp w0) s zs) (hB : Below w0.heap.size w0 w) (hBs : Bs < w.heap.size) (hc : w.cell? ⟨Bs, 0, none⟩ = some s.v) :
    SeqStopsK F n Try.prog 109 #[.pointer (some ⟨Bs, 0, none⟩)] (fun x : Int => #[Value.int .i64 x]) (Below w0.heap.size) (fun ys => ys = zs) (fun _ => True) zs.length w := fun l J Jx W hW _ _ hY h0 => by
  have hc' := (hW.cell (p := ⟨Bs, 0, none⟩) hBs).trans hc
  obtain ⟨r0, r1, r2, r3⟩ := hR
  obtain ⟨sa, sn, sc⟩ := s
  simp only at r0 r1 r2 r3
  subst r0
  rcases r3 with rfl | ⟨b, o, cs, T, fr, rfl, hb, hcs⟩
  · exact (values0_in F n h7 hro l Bs J W sa sc hc' h0).mono fun e W' ⟨he, hj⟩ => ⟨he, .inl ⟨_, rfl, hj⟩⟩
  · have hbl : b < w0.heap.size := (Array.getElem?_eq_some_iff.1 hb).1
    have hcells : ∀ j, j < zs.length → W.cell? ⟨b, o + j, none⟩ = some (.int .i64 (zs[j]?.getD 0)) := by
      intro j hj
      have hb0 : W.cell? ⟨b, o + j, none⟩ = w0.cell? ⟨b, o + j, none⟩ := (hB.trans (hW.mono hB.size)).cell (p := ⟨b, o + j, none⟩) hbl
      rw [hb0, cell_at (show w0.heap[b]? = _ from hb)]
      refine hcs j _ ?_
      have := encs_get Ei zs j 0 zs[j] (by simp [hj]) (by decide)
      have e : j * Ei.sz + 0 = j := by simp [Ei]
      rw [e] at this
      rw [this]
      simp [Ei, hj]
    refine (values1_in F n h7 hro hn l Bs w0.heap.size b o zs.length sc zs hlen hbl J Jx hY W hc' hcells h0).mono ?_
    rintro e W' ⟨he, ⟨ys, rfl, hj⟩ | ⟨pre, _, hj⟩⟩
    · exact ⟨he, .inl ⟨_, uptoV_all zs, hj⟩⟩
    · exact ⟨he, .inr ⟨_, trivial, hj⟩⟩

theorem info64 : (Try.prog.info? 2).map (fun i => (i.zero, i.size, i.bytes)) = some (some (.int .i64 0), 1, 8) := by kernel_rfl

set_option maxRecDepth 100000 in
set_option maxHeartbeats 4000000 in
theorem appendSeq_in (F : Fence) (n : Nat) (h116 : F.fn 116) (hro : F.round = none) (hn : 2 ≤ n) (g : Nat) (lb : Array Value) (hFg : F.fn g) (eg : ∀ args w, (callFunc g args).run Try.prog w = .ok (.enter g args) w)
    (n₀ : Nat) (zs : List Int) (hN : zs.length ≤ 1073741824) (Sp : List Int → Prop) (w : World) (hn₀ : n₀ ≤ w.heap.size)
    (hseq : SeqStopsK F (n - 1) Try.prog g lb (fun x : Int => #[Value.int .i64 x]) (Below n₀) (fun ys => ys = zs) Sp zs.length w) :
    CallsIn F n Try.prog 116 #[.slice none 0 0, .func (.func g) #[] lb] w fun e w' => ∃ v, e = .returned v ∧ w'.ownsRow w.heap.size 2 1 v zs.length (zs.map (Value.int .i64)) ∧ (v = .slice none 0 0 ↔ zs = []) ∧ Below w.heap.size w w' := by
  have h1 : 1 ≤ n := by omega
  obtain ⟨i0, hi, hz0, hz1, hz2⟩ := info_parts info64
  refine callsIn_of_wp_marks Try.func116 rfl h116 ?_ hro
  simp only [Try.ntmps116, List.size_toArray, List.length_cons, List.length_nil, Nat.reduceAdd, Nat.reduceSub, Array.replicate_succ, Array.replicate_zero, List.push_toArray, List.append_toArray, List.nil_append, List.cons_append]
  gi_wp2
  have bO := Boxed.new w 22 (.slice none 0 0)
  have hB0 : Below w.heap.size w (w.alloc (.cells #[.slice none 0 0] 22)) := (Below.refl _ w).alloc (Nat.le_refl _) _
  refine wpIn_rangeFunc_ownG hro h1 (gf := g) (lb := lb) rfl hFg eg hseq belowK_t (belowK_b (by simp; omega)) hB0 (fun _ => rfl)
    (fun pre W => (∃ v, Boxed W w.heap.size 22 v ∧ W.ownsRow w.heap.size 2 1 v pre.length (pre.map (Value.int .i64)) ∧ (v = .slice none 0 0 ↔ pre = [])) ∧ Below w.heap.size w W)
    (fun _ _ _ => False)
    (OwnFrom.and (Own.from (holdsRow_own w.heap.size w.heap.size 22 2 1 (fun pre => pre.length) (fun pre => pre.map (Value.int .i64)) (fun pre v => v = .slice none 0 0 ↔ pre = [])) _) (ownFrom_below (Nat.le_refl _) (by simp)))
    (fun _ _ _ _ _ hs _ _ => hs)
    ⟨⟨_, bO, World.ownsRow_nil _ _ _ _, by simp⟩, hB0⟩
    (fun x => { tmps := #[.slice none 0 0, .func (.func g) #[] lb, .pointer (some ⟨w.heap.size, 0, none⟩), undef, .slice none 0 0, .int .i64 x, .func (.func g) #[] lb, .int .i64 x, undef, undef, undef, undef, undef], defers := [] }) ?assign ?body ?done ?stop
  case assign =>
    intro l x W K hK
    gi_wp2
    exact hK
  case body =>
    rintro l pre x W ⟨⟨v, hv, hrow, hnil⟩, hB⟩ hlt
    have hc := hv.cell
    gi_wp2_with (gi_at_builtin; refine wpListIn_append_own _ rfl _ _ 22 rfl w.heap.size 2 i0 (.int .i64 0) 1 8 Try.underlying22 hi hz0 hz1 hz2 rfl (by decide) _ _ _ rfl (hrow.alloc _) ⟨W.heap.size, 0, none⟩ 1 1 [.int .i64 x] rfl rfl (cell_one_new _ _ _) (by simp [Value.oneCell']) (by simp [maxLen]; omega) (by omega) (by have := hB.size; simp; omega) ?_; intro v' w1 hown' hgrow _; obtain ⟨g', cap', rfl⟩ := ownsRow_succ hown'; obtain ⟨hv1, hv2, hr2, hk2, hb2⟩ := hv.appended (by decide) hrow hB.size (Nat.le_refl _) hown' hgrow; have hc1 := hv1.cell; have hf1 := hv1.frozen)
    exact ⟨hk2.from _, hb2.mono hn₀, ⟨_, hv2, by simpa using hr2, by simp⟩, hB.trans hb2⟩
  case done =>
    rintro D ys W hD rfl ⟨⟨v, hv, hrow, hnil⟩, hB⟩ hK
    have hc := hv.cell
    gi_wp2
    refine ⟨by simp, .inl ⟨_, _, rfl, run_takeDeferred hK, ?_⟩⟩
    exact ⟨_, results_tmp rfl _ _ _, v, rfl, ownsRow_putObj hrow _ hK rfl, hnil, hB.trans (belowK_b (w := w) (Nat.le_refl _) W D _ _ (by simp at hD; omega) hK rfl rfl)⟩
  case stop =>
    rintro D c pre W _ _ h _
    exact h.elim

set_option maxHeartbeats 1000000 in
theorem collect_in (F : Fence) (n : Nat) (h107 : F.fn 107) (h116 : F.fn 116) (hro : F.round = none) (hn : 3 ≤ n) (g : Nat) (lb : Array Value) (hFg : F.fn g) (eg : ∀ args w, (callFunc g args).run Try.prog w = .ok (.enter g args) w)
    (n₀ : Nat) (zs : List Int) (hN : zs.length ≤ 1073741824) (Sp : List Int → Prop) (w : World) (hn₀ : n₀ ≤ w.heap.size)
    (hseq : SeqStopsK F (n - 1 - 1) Try.prog g lb (fun x : Int => #[Value.int .i64 x]) (Below n₀) (fun ys => ys = zs) Sp zs.length w) :
    CallsIn F n Try.prog 107 #[.func (.func g) #[] lb] w fun e w' => ∃ v, e = .returned v ∧ w'.ownsRow w.heap.size 2 1 v zs.length (zs.map (Value.int .i64)) ∧ (v = .slice none 0 0 ↔ zs = []) ∧ Below w.heap.size w w' := by
  have h1 : 1 ≤ n := by omega
  refine callsIn_of_wp Try.func107 rfl h107 ?_ hro
  simp only [Try.ntmps107, List.size_toArray, List.length_cons, List.length_nil, Nat.reduceAdd, Nat.reduceSub, Array.replicate_succ, Array.replicate_zero, List.push_toArray, List.append_toArray, List.nil_append, List.cons_append]
  gi_wp2_with (gi_at_call 116; refine (appendSeq_in F (n - 1) h116 hro (by omega) g lb hFg eg n₀ zs hN Sp _ hn₀ hseq).mono ?_; rintro e w' ⟨v, rfl, hrow, hnil, hb⟩)
  go_ret
  exact ⟨v, rfl, hrow, hnil, hb⟩

def srt (zs : List Int) : List Int := zs.mergeSort fun x y => decide (x ≤ y)
theorem srt_length (zs : List Int) : (srt zs).length = zs.length := List.length_mergeSort zs

set_option maxHeartbeats 2000000 in
theorem sorted_in (n : Nat) (hn : 4 ≤ n) (g : Nat) (lb : Array Value) (eg : ∀ args w, (callFunc g args).run Try.prog w = .ok (.enter g args) w)
    (n₀ : Nat) (zs : List Int) (hN : zs.length ≤ 1073741824) (Sp : List Int → Prop) (w : World) (hn₀ : n₀ ≤ w.heap.size)
    (hseq : SeqStopsK Fence.wide (n - 1 - 1 - 1) Try.prog g lb (fun x : Int => #[Value.int .i64 x]) (Below n₀) (fun ys => ys = zs) Sp zs.length w) :
    CallsIn Fence.wide n Try.prog 93 #[.func (.func g) #[] lb] w fun e w' => ∃ v, e = .returned v ∧ w'.ownsRow w.heap.size 2 1 v (srt zs).length ((srt zs).map (Value.int .i64)) ∧ Below w.heap.size w w' := by
  have h1 : 1 ≤ n := by omega
  have hfS : Fence.wide.fn 108 := trivial
  have hfC : Fence.wide.fn 107 := trivial
  refine callsIn_of_wp Try.func93 rfl trivial ?_ rfl
  simp only [Try.ntmps93, List.size_toArray, List.length_cons, List.length_nil, Nat.reduceAdd, Nat.reduceSub, Array.replicate_succ, Array.replicate_zero, List.push_toArray, List.append_toArray, List.nil_append, List.cons_append]
  gi_wp2_with (gi_at_call 107; refine (collect_in Fence.wide (n - 1) trivial trivial rfl (by omega) g lb trivial eg n₀ zs hN Sp _ hn₀ hseq).mono ?_; rintro e W ⟨v, rfl, hrow, hnil, hb⟩)
  rcases hrow.2 with ⟨rfl, hz⟩ | ⟨gb, cap, cur, rfl, hbase, hgb, r1, r2, r3, r4⟩
  · have hss : zs = [] := List.eq_nil_of_length_eq_zero hz
    subst hss
    gi_wp2_with (gi_at_call 108; refine (sortsNone (n - 1) none 0 W).mono ?_; rintro e w' ⟨rfl, rfl⟩)
    go_ret
    exact ⟨.slice none 0 0, rfl, by simpa [srt] using hrow, hb⟩
  · have hH : Go.Sort.Holds (Value.int .i64) W gb 0 zs.toArray := holds_of_block_i hgb (by simpa using r4)
    have hgl : gb < W.heap.size := (Array.getElem?_eq_some_iff.1 hgb).1
    have cS := sortsIn (n - 1) gb 0 cap zs W hH hgl (by omega)
    gi_wp2_with (gi_at_call 108; refine cS.mono ?_; rintro e w' ⟨rfl, nn, os, rfl⟩)
    go_ret
    have := ownsRow_sorted_i (n := nn) (os := os) (ts := srt zs) (srt_length zs) hbase hgb r1 r2 r3
    exact ⟨_, rfl, by rw [srt_length]; simpa [srt] using this, hb.grown (grownBy_sorted_i _) hb.size (fun j hj => by cases hj; exact hbase)⟩

def ordB (l : List Int) (n : Int) : Bool := decide (∀ j, j < l.length → (srt l)[j]?.getD 0 = (j : Int)) && decide ((l.length : Int) = n)
def impl_isOrder.f (l : List Int) (n : Int) : Option Bool := if l.length ≤ 1048576 then some (ordB l n) else none
def impl_isOrder.R (r : Bool) (v : Value) (L : List Asn) : Prop := v = .bool r ∧ L = []

theorem ordB_no {l : List Int} {n : Int} {k : Nat} (h : k < l.length) (h2 : (srt l)[k]?.getD 0 ≠ (k : Int)) : ordB l n = false := by
  unfold ordB
  rw [decide_eq_false (fun hh => h2 (hh k h)), Bool.false_and]
theorem ordB_all {l : List Int} {n : Int} (h : ∀ j, j < l.length → (srt l)[j]?.getD 0 = (j : Int)) : ordB l n = decide ((l.length : Int) = n) := by
  unfold ordB
  rw [decide_eq_true h, Bool.true_and]

set_option maxRecDepth 100000 in
set_option maxHeartbeats 4000000 in
theorem isOrder_in (n : Nat) (hn : 6 ≤ n) (a : Option Addr) (len cap : Nat) (zs : List Int) (m : Int) (w : World) (hlen : zs.length ≤ 1048576) (hR : Reads Ei (hp w) ⟨a, len, cap⟩ zs) :
    CallsIn Fence.wide n Try.prog 79 #[.slice a len cap, .int .i64 m] w fun e W' => e = .returned (.bool (ordB zs m)) ∧ Below w.heap.size w W' := by
  obtain rfl : len = zs.length := hR.1
  have h1 : 1 ≤ n := by omega
  have hfV : Fence.wide.fn 94 := trivial
  have hfS : Fence.wide.fn 93 := trivial
  have hB0 : Below w.heap.size w (w.alloc (.cells #[.slice a zs.length cap] 22)) := (Below.refl _ w).alloc (Nat.le_refl _) _
  have bN := Boxed.new w 22 (.slice a zs.length cap)
  have hseq := values_stops Fence.wide (n - 1 - 1 - 1 - 1) trivial rfl (by omega) w.heap.size w _ ⟨a, zs.length, cap⟩ zs (by omega) hR hB0 (by simp) bN.cell
  have cS := sorted_in (n - 1) (by omega) 109 #[.pointer (some ⟨w.heap.size, 0, none⟩)] (enters_of Try.func109 (by kernel_rfl) rfl) w.heap.size zs (by omega) _ _ (by simp) hseq
  refine callsIn_of_wp Try.func79 rfl trivial ?_ rfl
  simp only [Try.ntmps79, List.size_toArray, List.length_cons, List.length_nil, Nat.reduceAdd, Nat.reduceSub, Array.replicate_succ, Array.replicate_zero, List.push_toArray, List.append_toArray, List.nil_append, List.cons_append]
  gi_wp2_with (first
    | (gi_at_call 94; refine (values_in Fence.wide (n - 1) trivial rfl _ _ _ _).mono ?_; rintro e w' ⟨rfl, rfl⟩)
    | (gi_at_call 93; refine cS.mono ?_; rintro e W ⟨v, rfl, hrow, hb⟩; obtain ⟨sa, sc, rfl, hcells⟩ : ∃ sa sc, v = .slice sa zs.length sc ∧ ∀ j, j < zs.length → ∃ g, sa = some ⟨g, 0, none⟩ ∧ W.cell? ⟨g, j, none⟩ = some (.int .i64 ((srt zs)[j]?.getD 0)) := rowCells hrow (srt_length zs)))
  have hfin : Below w.heap.size w W := hB0.trans (hb.mono (by simp))
  gi_loopw [13] (fun i wr => ∃ k : Nat, k ≤ zs.length ∧ i = .int .i64 k ∧ wr = W ∧ ∀ j, j < k → (srt zs)[j]?.getD 0 = (j : Int))
    (fun i _ => zs.length - (vInt i).toNat)
  case atStart => exact ⟨0, Nat.zero_le _, rfl, rfl, fun j hj => by omega⟩
  case round =>
    obtain ⟨k, hk, rfl, rfl, hj⟩ := hrel
    by_cases hlt : k < zs.length
    · obtain ⟨g, rfl, hcx⟩ := hcells k hlt
      have hcx' : wr.cell? ⟨g, 0 + k, none⟩ = some (.int .i64 ((srt zs)[k]?.getD 0)) := by rw [Nat.zero_add]; exact hcx
      by_cases hx : (srt zs)[k]?.getD 0 = (k : Int)
      · rw [hx] at hcx hcx'
        gi_wp2
        go_roundw
        case rel => exact ⟨k + 1, by omega, by simp, by trivial, fun j h2 => (Nat.lt_succ_iff_lt_or_eq.1 h2).elim (hj j) (fun e => by subst e; exact hx)⟩
        case measure => simp [vInt]; omega
      · gi_wp2
        refine bodyPost_ret (results_tmp rfl _ _ _) rfl ?_
        exact ⟨by rw [ordB_no hlt hx]; rfl, hfin⟩
    · obtain rfl : k = zs.length := by omega
      gi_wp2
      go_ret
      exact ⟨by rw [ordB_all hj]; rfl, hfin⟩

theorem impl_isOrder.calls (w : World) (s : SV) (l : List Int) (n : Int) (h1 : Reads Ei (hp w) s l) :
    ∀ v, impl_isOrder.f l n = some v → Calls Try.prog 79 #[SV.v s, .int .i64 n] w (Ret w (impl_isOrder.R v)) := by
  intro v hv
  unfold impl_isOrder.f at hv
  by_cases hl : l.length ≤ 1048576
  · rw [if_pos hl] at hv
    obtain rfl := Option.some.inj hv
    obtain ⟨a, len, cap⟩ := s
    refine callsIn_wide.1 ((isOrder_in 6 (Nat.le_refl _) a len cap l n w hl h1).mono ?_)
    rintro e W' ⟨rfl, hb⟩
    refine ⟨.bool (ordB l n), [], rfl, ⟨rfl, rfl⟩, ⟨hb, .refl _, ?_, [], rfl, by simp, by simp⟩⟩
    intro b o hbo
    have hbl : b < w.heap.size := (Array.getElem?_eq_some_iff.1 hbo).1
    exact (hb.block b hbl).trans hbo
  · rw [if_neg hl] at hv
    cases hv
end Go.Proofs.Ytjjfoofjipafiaa.G

/- impl.isOrder, told by hand. -/
namespace Go.Proofs.Ytjjfoofjipafiaa.G
end Go.Proofs.Ytjjfoofjipafiaa.G

/- impl.place, as a pure function. -/
set_option linter.unusedVariables false
namespace Go.Proofs.Ytjjfoofjipafiaa.G
open Go Go.Sx Go.Proofs

def impl_place.b0 (lists1 : List (List Int)) (x1 : Int) (n_1 : Int) : Int × Int → Option (LB (Int × Int)) := fun p => match p with | (out2, x2) => (bif (decide (x2 < ((gt lists1 x1).length : Int))) then chk x2 ((gt lists1 x1).length) (some (.next ((w64 ((w64 (out2 * n_1)) + (gt (gt lists1 x1) x2))), (w64 (x2 + 1))))) else some (.brk (out2, x2)))

def impl_place.b1 (lists1 : List (List Int)) (n_1 : Int) : Int × Int → Option (LB (Int × Int)) := fun p => match p with | (out1, x1) => (bif (decide (x1 < (lists1.length : Int))) then chk x1 lists1.length ((loop1 (impl_place.b0 lists1 x1 n_1) (out1, 0)).bind (fun p => match p with | (out2, x2) => some (.next (out2, (w64 (x1 + 1)))))) else some (.brk (out1, x1)))

def impl_place.f (n_1 : Int) (lists1 : List (List Int)) : Option Int := (loop1 (impl_place.b1 lists1 n_1) (0, 0)).bind (fun p => match p with | (out1, x1) => some out1)

def impl_place.R (r : Int) (v : Value) (L : List Asn) : Prop := v = .int .i64 r ∧ L = []

set_option maxRecDepth 100000 in
set_option maxHeartbeats 4000000 in
theorem impl_place.calls (w : World) (n_1 : Int) (s1 : SV) (ss1 : List SV) (lists1 : List (List Int)) (h1 : ReadsM Ei (hp w) s1 ss1 lists1) :
    ∀ r, impl_place.f n_1 lists1 = some r → Calls Try.prog 91 #[.int .i64 n_1, SV.v s1] w (Ret w (impl_place.R r)) := by

  refine calls_T (n := 30) (Γ := [(0, .int .i64 n_1), (1, SV.v s1)]) (R := impl_place.R) Try.func91 rfl rfl (Nat.le_of_ble_eq_true rfl) ⟨rfl, rfl, trivial⟩ ?_
  unfold impl_place.f
  refine TC.seq ?_
  refine TC.region ?_
  refine TL.assign rfl rfl (v := .int .i64 0) rfl ?_
  refine TL.done ?_
  refine TC.seq ?_
  refine TC.region ?_
  refine TL.assign rfl rfl (v := .int .i64 0) rfl ?_
  refine TL.done ?_
  refine TC.seq ?_
  refine TC.seq ?_
  refine TC.region ?_
  refine TL.move rfl rfl (v := SV.v s1) rfl ?_
  refine TL.lenM (RdM.old h1) Try.underlying96 rfl rfl rfl ?_
  refine TL.move rfl rfl (v := .int .i64 0) rfl ?_
  refine TL.done ?_
  refine TC.loop1 (σ := Int × Int) (γ := Unit) (Γ' := (fun p q => match p, q with | (out1, x1), _ => [(0, .int .i64 n_1), (5, .int .i64 out1), (10, SV.v s1), (11, .int .i64 (lists1.length : Int)), (12, .int .i64 x1)])) (L' := (fun p q => match p, q with | (out1, x1), _ => [])) (Γb := (fun p q => match p, q with | (out1, x1), _ => [(0, .int .i64 n_1), (5, .int .i64 out1), (10, SV.v s1), (11, .int .i64 (lists1.length : Int)), (12, .int .i64 x1)])) (Lb := (fun p q => match p, q with | (out1, x1), _ => [])) ((0, 0)) (()) ⟨rfl, rfl, rfl, rfl, rfl, trivial⟩ [] rfl ?_ ?_
  · rintro ⟨out1, x1⟩ _
    refine TC.seq ?_
    refine TC.region ?_
    refine TL.bin .i64 x1 (lists1.length : Int) rfl rfl rfl rfl (v := .bool (decide (x1 < (lists1.length : Int)))) rfl ?_
    refine TL.done ?_
    refine TC.seq ?_
    refine TC.cond (b := (decide (x1 < (lists1.length : Int)))) rfl (fun c1 => ?_) (fun c2 => ?_)
    · refine TC.skip ?_
      refine TC.seq ?_
      refine TC.block (NoEx.loop1 rfl) ?_
      refine TC.seq ?_
      refine TC.region ?_
      refine TL.chk fun h2 => ?_
      refine TL.ixsM x1 x1.toNat (RdM.old h1) h2 Try.underlying96 Try.sizeOf22 rfl rfl rfl rfl (by omega) ?_
      refine TL.loadM2 (RdM.old h1) Try.isAgg22 x1 h2 (by omega) rfl rfl rfl ?_
      refine TL.assign rfl rfl (v := SV.v (gt ss1 x1)) rfl ?_
      refine TL.done ?_
      refine TC.seq ?_
      refine TC.region ?_
      refine TL.move rfl rfl (v := SV.v (gt ss1 x1)) rfl ?_
      refine TL.len (RdM.inn (RdM.old h1) h2) Try.underlying22 rfl rfl rfl ?_
      refine TL.move rfl rfl (v := .int .i64 0) rfl ?_
      refine TL.done ?_
      refine TC.loop1 (σ := Int × Int) (γ := Unit) (Γ' := (fun p q => match p, q with | (out2, x2), _ => [(0, .int .i64 n_1), (5, .int .i64 out2), (10, SV.v s1), (11, .int .i64 (lists1.length : Int)), (12, .int .i64 x1), (16, SV.v (gt ss1 x1)), (17, .int .i64 ((gt lists1 x1).length : Int)), (18, .int .i64 x2)])) (L' := (fun p q => match p, q with | (out2, x2), _ => [])) (Γb := (fun p q => match p, q with | (out2, x2), _ => [(0, .int .i64 n_1), (5, .int .i64 out2), (10, SV.v s1), (11, .int .i64 (lists1.length : Int)), (12, .int .i64 x1), (16, SV.v (gt ss1 x1)), (17, .int .i64 ((gt lists1 x1).length : Int)), (18, .int .i64 x2)])) (Lb := (fun p q => match p, q with | (out2, x2), _ => [])) ((out1, 0)) (()) ⟨rfl, rfl, rfl, rfl, rfl, rfl, rfl, rfl, trivial⟩ [] rfl ?_ ?_
      · rintro ⟨out2, x2⟩ _
        refine TC.seq ?_
        refine TC.region ?_
        refine TL.bin .i64 x2 ((gt lists1 x1).length : Int) rfl rfl rfl rfl (v := .bool (decide (x2 < ((gt lists1 x1).length : Int)))) rfl ?_
        refine TL.done ?_
        refine TC.seq ?_
        refine TC.cond (b := (decide (x2 < ((gt lists1 x1).length : Int)))) rfl (fun c3 => ?_) (fun c4 => ?_)
        · refine TC.skip ?_
          refine TC.seq ?_
          refine TC.block (NoEx.loop1 rfl) ?_
          refine TC.seq ?_
          refine TC.region ?_
          refine TL.chk fun h3 => ?_
          refine TL.ixs x2 x2.toNat (RdM.inn (RdM.old h1) h2) h3 Try.underlying22 Try.sizeOf2 rfl rfl rfl rfl (by omega) ?_
          refine TL.loadE (RdM.inn (RdM.old h1) h2) Try.isAgg2 x2.toNat 0 (gt_spec h3) (v := .int .i64 (gt (gt lists1 x1) x2)) rfl (by simp only [show Ei.sz = 1 from rfl] <;> omega) rfl rfl rfl ?_
          refine TL.assign rfl rfl (v := .int .i64 (gt (gt lists1 x1) x2)) rfl ?_
          refine TL.done ?_
          refine TC.region ?_
          refine TL.move rfl rfl (v := .int .i64 out2) rfl ?_
          refine TL.move rfl rfl (v := .int .i64 n_1) rfl ?_
          refine TL.bin .i64 out2 n_1 rfl rfl rfl rfl (v := .int .i64 (w64 (out2 * n_1))) rfl ?_
          refine TL.move rfl rfl (v := .int .i64 (gt (gt lists1 x1) x2)) rfl ?_
          refine TL.bin .i64 (w64 (out2 * n_1)) (gt (gt lists1 x1) x2) rfl rfl rfl rfl (v := .int .i64 (w64 ((w64 (out2 * n_1)) + (gt (gt lists1 x1) x2)))) rfl ?_
          refine TL.assign rfl rfl (v := .int .i64 (w64 ((w64 (out2 * n_1)) + (gt (gt lists1 x1) x2)))) rfl ?_
          refine TL.done ?_
          refine TC.region ?_
          refine TL.bin .i64 x2 1 rfl rfl rfl rfl (v := .int .i64 (w64 (x2 + 1))) rfl ?_
          refine TL.move rfl rfl (v := .int .i64 (w64 (x2 + 1))) rfl ?_
          refine TL.done ?_
          exact TC.next1 (((w64 ((w64 (out2 * n_1)) + (gt (gt lists1 x1) x2))), (w64 (x2 + 1)))) (()) ⟨rfl, rfl, rfl, rfl, rfl, rfl, rfl, rfl, trivial⟩ [] rfl
        · exact TC.brk1 ((out2, x2)) (()) ⟨rfl, rfl, rfl, rfl, rfl, rfl, rfl, rfl, trivial⟩ [] rfl
      · rintro ⟨out2, x2⟩ _
        refine TC.region ?_
        refine TL.bin .i64 x1 1 rfl rfl rfl rfl (v := .int .i64 (w64 (x1 + 1))) rfl ?_
        refine TL.move rfl rfl (v := .int .i64 (w64 (x1 + 1))) rfl ?_
        refine TL.done ?_
        exact TC.next1 ((out2, (w64 (x1 + 1)))) (()) ⟨rfl, rfl, rfl, rfl, rfl, trivial⟩ [] rfl
    · exact TC.brk1 ((out1, x1)) (()) ⟨rfl, rfl, rfl, rfl, rfl, trivial⟩ [] rfl
  · rintro ⟨out1, x1⟩ _
    refine TC.seq ?_
    refine TC.region ?_
    refine TL.move rfl rfl (v := .int .i64 out1) rfl ?_
    refine TL.assign rfl rfl (v := .int .i64 out1) rfl ?_
    refine TL.done ?_
    exact TC.retF (Fin.body (fin1 (.inr rfl) rfl (.tmp rfl) [] rfl ⟨rfl, rfl⟩))

end Go.Proofs.Ytjjfoofjipafiaa.G

/- impl.Tensor).at, as a pure function. -/
set_option linter.unusedVariables false
namespace Go.Proofs.Ytjjfoofjipafiaa.G
open Go Go.Sx Go.Proofs

def impl_Tensor_at.f (t1 : Int) (t2 : Int) (t3 : Int) (t4 : Int) (t5 : List Int) (lists1 : List (List Int)) : Option Int := (G.impl_place.f t2 lists1).bind (fun r_1 => chk r_1 t5.length (some (gt t5 r_1)))

def impl_Tensor_at.R (r : Int) (v : Value) (L : List Asn) : Prop := v = .int .i64 r ∧ L = []

set_option maxRecDepth 100000 in
set_option maxHeartbeats 4000000 in
theorem impl_Tensor_at.calls (w : World) (b_1 : Nat) (t1 : Int) (t2 : Int) (t3 : Int) (t4 : Int) (s1 : SV) (t5 : List Int) (s2 : SV) (ss1 : List SV) (lists1 : List (List Int)) (h2 : At (hp w) b_1 [.one (.int .i64 t1), .one (.int .i64 t2), .one (.int .i64 t3), .one (.int .i64 t4), .one (SV.v s1)]) (h1 : Reads Ei (hp w) s1 t5) (h3 : ReadsM Ei (hp w) s2 ss1 lists1) :
    ∀ r, impl_Tensor_at.f t1 t2 t3 t4 t5 lists1 = some r → Calls Try.prog 59 #[bp b_1 0, SV.v s2] w (Ret w (impl_Tensor_at.R r)) := by

  refine calls_T (n := 17) (Γ := [(0, bp b_1 0), (1, SV.v s2)]) (R := impl_Tensor_at.R) Try.func59 rfl rfl (Nat.le_of_ble_eq_true rfl) ⟨rfl, rfl, trivial⟩ ?_
  unfold impl_Tensor_at.f
  refine TC.seq ?_
  refine TC.region ?_
  refine TL.assign rfl rfl (v := .int .i64 0) rfl ?_
  refine TL.done ?_
  refine TC.seq ?_
  refine TC.wk (Γ' := [(0, bp b_1 0), (1, SV.v s2)]) ⟨rfl, rfl, trivial⟩ ?_
  refine TC.bindE fun r_1 hr1 => ?_
  refine TC.chk fun h4 => ?_
  refine TC.draw [bp b_1 0, bp b_1 0, bp b_1 4, SV.v s1, bp b_1 0, bp b_1 0, bp b_1 1, .int .i64 t2, SV.v s2, .int .i64 r_1, ep s1 r_1.toNat, .int .i64 (gt t5 r_1), .int .i64 (gt t5 r_1)] 13 [] (by kernel_rfl) rfl rfl rfl rfl ?_ ?_
  · refine ⟨?_, ?_, ?_, ?_, ?_, ?_, ?_, ?_, ?_, ?_, ?_, ?_, ?_, trivial⟩
    · refine TL.move rfl rfl (v := bp b_1 0) rfl ?_
      refine TL.done ?_
      exact TC.nrm () () ⟨rfl, trivial⟩ [] (by kernel_rfl)
    · refine TL.nilCheck rfl rfl rfl ?_
      refine TL.done ?_
      exact TC.nrm () () ⟨rfl, trivial⟩ [] (by kernel_rfl)
    · refine TL.fa Try.underlying24 rfl Try.sizeOf22 rfl 4 rfl rfl rfl rfl ?_
      refine TL.done ?_
      exact TC.nrm () () ⟨rfl, trivial⟩ [] (by kernel_rfl)
    · refine TL.load1 4 (Src.at h2) Try.isAgg22 rfl rfl rfl rfl rfl ?_
      refine TL.done ?_
      exact TC.nrm () () ⟨rfl, trivial⟩ [] (by kernel_rfl)
    · refine TL.move rfl rfl (v := bp b_1 0) rfl ?_
      refine TL.done ?_
      exact TC.nrm () () ⟨rfl, trivial⟩ [] (by kernel_rfl)
    · refine TL.nilCheck rfl rfl rfl ?_
      refine TL.done ?_
      exact TC.nrm () () ⟨rfl, trivial⟩ [] (by kernel_rfl)
    · refine TL.fa Try.underlying24 rfl Try.sizeOf2 rfl 1 rfl rfl rfl rfl ?_
      refine TL.done ?_
      exact TC.nrm () () ⟨rfl, trivial⟩ [] (by kernel_rfl)
    · refine TL.load1 1 (Src.at h2) Try.isAgg2 rfl rfl rfl rfl rfl ?_
      refine TL.done ?_
      exact TC.nrm () () ⟨rfl, trivial⟩ [] (by kernel_rfl)
    · refine TL.move rfl rfl (v := SV.v s2) rfl ?_
      refine TL.done ?_
      exact TC.nrm () () ⟨rfl, trivial⟩ [] (by kernel_rfl)
    · refine TL.callH (R := G.impl_place.R) hr1 Try.call91 rfl rfl rfl (fun w hS => G.impl_place.calls w t2 s2 ss1 lists1 ((RdM.old h3) w hS)) ?_
      rintro _ _ ⟨rfl, rfl⟩
      refine TL.done ?_
      exact TC.nrm () () ⟨rfl, trivial⟩ [] (by kernel_rfl)
    · refine TL.ixs r_1 r_1.toNat (Rd.old h1) h4 Try.underlying22 Try.sizeOf2 rfl rfl rfl rfl (by omega) ?_
      refine TL.done ?_
      exact TC.nrm () () ⟨rfl, trivial⟩ [] (by kernel_rfl)
    · refine TL.loadE (Rd.old h1) Try.isAgg2 r_1.toNat 0 (gt_spec h4) (v := .int .i64 (gt t5 r_1)) rfl (by simp only [show Ei.sz = 1 from rfl] <;> omega) rfl rfl rfl ?_
      refine TL.done ?_
      exact TC.nrm () () ⟨rfl, trivial⟩ [] (by kernel_rfl)
    · refine TL.assign rfl rfl (v := .int .i64 (gt t5 r_1)) rfl ?_
      refine TL.done ?_
      exact TC.nrm () () ⟨rfl, trivial⟩ [] (by kernel_rfl)
  · exact TC.retF (Fin.body (fin1 (.inr rfl) rfl (.tmp rfl) [] rfl ⟨rfl, rfl⟩))

end Go.Proofs.Ytjjfoofjipafiaa.G

/- impl.back, as a pure function. -/
set_option linter.unusedVariables false
namespace Go.Proofs.Ytjjfoofjipafiaa.G
open Go Go.Sx Go.Proofs

def impl_back.b0 (list_1 : List Int) (legs1 : List Int) : (List Int) × Int → Option (LB ((List Int) × Int)) := fun p => match p with | (out1, x1) => (bif (decide (x1 < (list_1.length : Int))) then chk x1 list_1.length (chk x1 legs1.length (chk (gt list_1 x1) out1.length (some (.next ((out1.set (gt list_1 x1).toNat (gt legs1 x1)), (w64 (x1 + 1))))))) else some (.brk (out1, x1)))

def impl_back.f (list_1 : List Int) (legs1 : List Int) : Option (List Int) := small legs1.length ((loop1 (impl_back.b0 list_1 legs1) ((List.replicate (legs1.length : Int).toNat (0 : Int)), 0)).bind (fun p => match p with | (out1, x1) => some out1))

def impl_back.R (r : List Int) (v : Value) (L : List Asn) : Prop := ∃ (s0 : SV), v = SV.v s0 ∧ L = [row Ei 2 s0 r]

set_option maxRecDepth 100000 in
set_option maxHeartbeats 4000000 in
theorem impl_back.calls (w : World) (s1 : SV) (list_1 : List Int) (s2 : SV) (legs1 : List Int) (h1 : Reads Ei (hp w) s1 list_1) (h2 : Reads Ei (hp w) s2 legs1) :
    ∀ r, impl_back.f list_1 legs1 = some r → Calls Try.prog 81 #[SV.v s1, SV.v s2] w (Ret w (impl_back.R r)) := by

  refine calls_T (n := 27) (Γ := [(0, SV.v s1), (1, SV.v s2)]) (R := impl_back.R) Try.func81 rfl rfl (Nat.le_of_ble_eq_true rfl) ⟨rfl, rfl, trivial⟩ ?_
  unfold impl_back.f
  refine TC.seq ?_
  refine TC.region ?_
  refine TL.assign rfl rfl (v := SV.v ⟨none, 0, 0⟩) rfl ?_
  refine TL.done ?_
  refine TC.seq ?_
  refine TC.region ?_
  refine TL.move rfl rfl (v := SV.v s2) rfl ?_
  refine TL.len (Rd.old h2) Try.underlying22 rfl rfl rfl ?_
  refine TL.small fun h3 => ?_
  refine TL.mkslice Ei (0 : Int) (legs1.length : Int) Try.underlying22 (info_of Try.type2) (zv := (Try.t2.zero.getD (.bool false))) rfl rfl rfl (by simp [Ei, flat, Seg.cells]) (by decide) (by omega) (by omega) rfl rfl rfl rfl fun s3 => ?_
  refine TL.assign rfl rfl (v := SV.v s3) rfl ?_
  refine TL.done ?_
  refine TC.seq ?_
  refine TC.seq ?_
  refine TC.region ?_
  refine TL.move rfl rfl (v := SV.v s1) rfl ?_
  refine TL.len (Rd.old h1) Try.underlying22 rfl rfl rfl ?_
  refine TL.move rfl rfl (v := .int .i64 0) rfl ?_
  refine TL.done ?_
  refine TC.loop1 (σ := (List Int) × Int) (γ := Unit) (Γ' := (fun p q => match p, q with | (out1, x1), _ => [(1, SV.v s2), (5, SV.v s3), (11, SV.v s1), (12, .int .i64 (list_1.length : Int)), (13, .int .i64 x1)])) (L' := (fun p q => match p, q with | (out1, x1), _ => [row Ei 2 s3 out1])) (Γb := (fun p q => match p, q with | (out1, x1), _ => [(1, SV.v s2), (5, SV.v s3), (11, SV.v s1), (12, .int .i64 (list_1.length : Int)), (13, .int .i64 x1)])) (Lb := (fun p q => match p, q with | (out1, x1), _ => [row Ei 2 s3 out1])) (((List.replicate (legs1.length : Int).toNat (0 : Int)), 0)) (()) ⟨rfl, rfl, rfl, rfl, rfl, trivial⟩ [0] rfl ?_ ?_
  · rintro ⟨out1, x1⟩ _
    refine TC.seq ?_
    refine TC.region ?_
    refine TL.bin .i64 x1 (list_1.length : Int) rfl rfl rfl rfl (v := .bool (decide (x1 < (list_1.length : Int)))) rfl ?_
    refine TL.done ?_
    refine TC.seq ?_
    refine TC.cond (b := (decide (x1 < (list_1.length : Int)))) rfl (fun c1 => ?_) (fun c2 => ?_)
    · refine TC.skip ?_
      refine TC.seq ?_
      refine TC.block (NoEx.loop1 rfl) ?_
      refine TC.seq ?_
      refine TC.region ?_
      refine TL.move rfl rfl (v := .int .i64 x1) rfl ?_
      refine TL.chk fun h5 => ?_
      refine TL.ixs x1 x1.toNat (Rd.old h1) h5 Try.underlying22 Try.sizeOf2 rfl rfl rfl rfl (by omega) ?_
      refine TL.loadE (Rd.old h1) Try.isAgg2 x1.toNat 0 (gt_spec h5) (v := .int .i64 (gt list_1 x1)) rfl (by simp only [show Ei.sz = 1 from rfl] <;> omega) rfl rfl rfl ?_
      refine TL.assign rfl rfl (v := .int .i64 x1) rfl ?_
      refine TL.assign rfl rfl (v := .int .i64 (gt list_1 x1)) rfl ?_
      refine TL.done ?_
      refine TC.region ?_
      refine TL.move rfl rfl (v := SV.v s3) rfl ?_
      refine TL.move rfl rfl (v := .int .i64 (gt list_1 x1)) rfl ?_
      refine TL.move rfl rfl (v := SV.v s2) rfl ?_
      refine TL.move rfl rfl (v := .int .i64 x1) rfl ?_
      refine TL.chk fun h6 => ?_
      refine TL.ixs x1 x1.toNat (Rd.old h2) h6 Try.underlying22 Try.sizeOf2 rfl rfl rfl rfl (by omega) ?_
      refine TL.loadE (Rd.old h2) Try.isAgg2 x1.toNat 0 (gt_spec h6) (v := .int .i64 (gt legs1 x1)) rfl (by simp only [show Ei.sz = 1 from rfl] <;> omega) rfl rfl rfl ?_
      refine TL.chk fun h7 => ?_
      refine TL.ixs (gt list_1 x1) ((gt list_1 x1).toNat) (Rd.row 0 rfl) h7 Try.underlying22 Try.sizeOf2 rfl rfl rfl rfl (by omega) ?_
      refine TL.stE 0 ((gt list_1 x1).toNat) (gt legs1 x1) (v := .int .i64 (gt legs1 x1)) rfl Try.sizeOf2 rfl rfl rfl (by have h_ := h7; omega) (by simp only [show Ei.sz = 1 from rfl] <;> omega) rfl rfl rfl ?_
      refine TL.done ?_
      refine TC.region ?_
      refine TL.bin .i64 x1 1 rfl rfl rfl rfl (v := .int .i64 (w64 (x1 + 1))) rfl ?_
      refine TL.move rfl rfl (v := .int .i64 (w64 (x1 + 1))) rfl ?_
      refine TL.done ?_
      exact TC.next1 (((out1.set (gt list_1 x1).toNat (gt legs1 x1)), (w64 (x1 + 1)))) (()) ⟨rfl, rfl, rfl, rfl, rfl, trivial⟩ [0] rfl
    · exact TC.brk1 ((out1, x1)) (()) ⟨rfl, rfl, rfl, rfl, rfl, trivial⟩ [0] rfl
  · rintro ⟨out1, x1⟩ _
    refine TC.seq ?_
    refine TC.region ?_
    refine TL.move rfl rfl (v := SV.v s3) rfl ?_
    refine TL.assign rfl rfl (v := SV.v s3) rfl ?_
    refine TL.done ?_
    exact TC.retF (Fin.body (fin1 (.inr rfl) rfl (.tmp rfl) [0] rfl ⟨s3, rfl, rfl⟩))

end Go.Proofs.Ytjjfoofjipafiaa.G

/- impl.PermuteTensor$1, as a pure function. -/
set_option linter.unusedVariables false
namespace Go.Proofs.Ytjjfoofjipafiaa.G
open Go Go.Sx Go.Proofs

def impl_PermuteTensor_1.f (i1 : List Int) (j1 : List Int) (c1 : Int) (c2 : Int) (c3 : Int) (c4 : Int) (c5 : List Int) (c6 : List Int) (c7 : List Int) : Option Int := (G.impl_back.f c6 i1).bind (fun r_1 => (G.impl_back.f c7 j1).bind (fun r_2 => (G.impl_Tensor_at.f c1 c2 c3 c4 c5 ([r_1, r_2] : List (List Int))).bind (fun r_3 => some r_3)))

def impl_PermuteTensor_1.R (r : Int) (v : Value) (L : List Asn) : Prop := v = .int .i64 r ∧ L = []

set_option maxRecDepth 100000 in
set_option maxHeartbeats 4000000 in
theorem impl_PermuteTensor_1.calls (w : World) (s1 : SV) (i1 : List Int) (s2 : SV) (j1 : List Int) (b_1 : Nat) (c1 : Int) (c2 : Int) (c3 : Int) (c4 : Int) (s3 : SV) (c5 : List Int) (b_2 : Nat) (s4 : SV) (c6 : List Int) (b_3 : Nat) (s5 : SV) (c7 : List Int) (h1 : Reads Ei (hp w) s1 i1) (h2 : Reads Ei (hp w) s2 j1) (h4 : At (hp w) b_1 [.one (.int .i64 c1), .one (.int .i64 c2), .one (.int .i64 c3), .one (.int .i64 c4), .one (SV.v s3)]) (h3 : Reads Ei (hp w) s3 c5) (h6 : At (hp w) b_2 [.one (SV.v s4)]) (h5 : Reads Ei (hp w) s4 c6) (h8 : At (hp w) b_3 [.one (SV.v s5)]) (h7 : Reads Ei (hp w) s5 c7) :
    ∀ r, impl_PermuteTensor_1.f i1 j1 c1 c2 c3 c4 c5 c6 c7 = some r → Calls Try.prog 80 #[SV.v s1, SV.v s2, bp b_1 0, bp b_2 0, bp b_3 0] w (Ret w (impl_PermuteTensor_1.R r)) := by

  refine calls_T (n := 16) (Γ := [(0, SV.v s1), (1, SV.v s2), (2, bp b_1 0), (3, bp b_2 0), (4, bp b_3 0)]) (R := impl_PermuteTensor_1.R) Try.func80 rfl rfl (Nat.le_of_ble_eq_true rfl) ⟨rfl, rfl, rfl, rfl, rfl, trivial⟩ ?_
  unfold impl_PermuteTensor_1.f
  refine TC.seq ?_
  refine TC.region ?_
  refine TL.assign rfl rfl (v := .int .i64 0) rfl ?_
  refine TL.done ?_
  refine TC.seq ?_
  refine TC.wk (Γ' := [(0, SV.v s1), (1, SV.v s2), (2, bp b_1 0), (3, bp b_2 0), (4, bp b_3 0)]) ⟨rfl, rfl, rfl, rfl, rfl, trivial⟩ ?_
  refine TC.bindE ?_
  rintro r_1 hr1
  refine TC.bindE ?_
  rintro r_2 hr2
  refine TC.bindE ?_
  rintro r_3 hr3
  refine TC.drawG [(0, SV.v s1), (1, SV.v s2), (2, bp b_1 0), (3, bp b_2 0), (4, bp b_3 0)] [] ⟨rfl, rfl, rfl, rfl, rfl, trivial⟩ trivial (fun l_ g1 => [(bif nb l_ 6 then emp else (bif nb l_ 2 then row Ei 2 (gs (g1 16)) r_1 else emp)), (bif nb l_ 6 then mat Ei 2 22 (gs (g1 48)) ([(gs (g1 16)), (gs (g1 40))] : List SV) ([r_1, r_2] : List (List Int)) else (bif nb l_ 5 then row Ei 2 (gs (g1 40)) r_2 else emp)), (bif nb l_ 6 then emp else emp), (bif nb l_ 6 then emp else emp)]) (fun g1 => [SV.v s4, SV.v s1, SV.v (gs (g1 16)), SV.v s5, SV.v s2, SV.v (gs (g1 40)), SV.v (gs (g1 48)), .int .i64 r_3, .int .i64 r_3]) [[], [], [0, 1], [], [], [0, 1, 2, 3, 4], [0, 1, 2, 3, 4, 5], [0, 1, 2, 3, 4, 5, 6], [0, 1, 2, 3, 4, 5, 6, 7]] [[some false, none, some false, none, none, some false, some false, some false, some false], [none, some false, some false, none, none, some false, some false, some false, some false], [some true, some true, some false, none, none, some false, some false, some false, some false], [none, none, none, some false, none, some false, some false, some false, some false], [none, none, none, none, some false, some false, some false, some false, some false], [some true, some true, some true, some true, some true, some false, some false, some false, some false], [some true, some true, some true, some true, some true, some true, some false, some false, some false], [some true, some true, some true, some true, some true, some true, some true, some false, some false], [some true, some true, some true, some true, some true, some true, some true, some true, some false]] (by kernel_rfl) (fun _ => rfl) rfl rfl rfl rfl rfl (fun _ _ => ⟨⟨⟨⟨⟨⟨⟨⟨⟨trivial, rfl⟩, rfl⟩, rfl⟩, rfl⟩, rfl⟩, rfl⟩, rfl⟩, rfl⟩, rfl⟩) 4 [0, 0, 0, 0] (fun _ => by kernel_rfl) ?_ ?_
  · refine ⟨rfl, ?_, rfl, ?_, rfl, ?_, rfl, ?_, rfl, ?_, rfl, ?_, rfl, ?_, rfl, ?_, rfl, ?_, trivial⟩
    · intro b1_ b3_ b4_ g1
      refine TL.asL [emp, emp, emp, emp] (by kernel_rfl) ?_
      refine TL.load1 0 (Src.at h6) Try.isAgg22 rfl rfl rfl rfl rfl ?_
      refine TL.done ?_
      exact TC.nrm () [] ⟨rfl, trivial⟩ [0, 0, 0, 0] (by kernel_rfl)
    · intro b0_ b3_ b4_ g1
      refine TL.move rfl rfl (v := SV.v s1) rfl ?_
      refine TL.done ?_
      exact TC.nrm () [] ⟨rfl, trivial⟩ [0, 0, 0, 0] (by kernel_rfl)
    · intro b3_ b4_ g1
      refine TL.asL [emp, emp, emp, emp] (by kernel_rfl) ?_
      refine TL.callH (R := G.impl_back.R) hr1 Try.call81 rfl rfl rfl (fun w hS => G.impl_back.calls w s4 c6 s1 i1 ((Rd.old h5) w hS) ((Rd.old h1) w hS)) ?_
      rintro _ _ ⟨s6, rfl, rfl⟩
      refine TL.done ?_
      exact TC.nrm () [[s6]] ⟨rfl, trivial⟩ [0, 1, 1, 1] (by kernel_rfl)
    · intro b0_ b1_ b2_ b4_ g1
      refine TL.asL [(bif b2_ then row Ei 2 (gs (g1 16)) r_1 else emp), emp, emp, emp] (by kernel_rfl) ?_
      refine TL.load1 0 (Src.at h8) Try.isAgg22 rfl rfl rfl rfl rfl ?_
      refine TL.done ?_
      exact TC.nrm () [] ⟨rfl, trivial⟩ [0, 0, 0, 0] (by kernel_rfl)
    · intro b0_ b1_ b2_ b3_ g1
      refine TL.move rfl rfl (v := SV.v s2) rfl ?_
      refine TL.done ?_
      exact TC.nrm () [] ⟨rfl, trivial⟩ [0, 0, 0, 0] (by kernel_rfl)
    · intro g1
      refine TL.asL [row Ei 2 (gs (g1 16)) r_1, emp, emp, emp] (by kernel_rfl) ?_
      refine TL.callH (R := G.impl_back.R) hr2 Try.call81 rfl rfl rfl (fun w hS => G.impl_back.calls w s5 c7 s2 j1 ((Rd.old h7) w hS) ((Rd.old h2) w hS)) ?_
      rintro _ _ ⟨s7, rfl, rfl⟩
      refine TL.done ?_
      exact TC.nrm () [[s7]] ⟨rfl, trivial⟩ [1, 0, 1, 1] (by kernel_rfl)
    · intro g1
      refine TL.asL [row Ei 2 (gs (g1 16)) r_1, row Ei 2 (gs (g1 40)) r_2, emp, emp] (by kernel_rfl) ?_
      refine TL.blit Ev ([(gs (g1 16)), (gs (g1 40))] : List SV) Try.underlying96 Try.sizeOf22 Try.zeroValue22 rfl rfl rfl [(0, SV.v (gs (g1 16))), (1, SV.v (gs (g1 40)))] rfl ⟨rfl, rfl, rfl, rfl, trivial⟩ rfl rfl fun s8 => ?_
      refine TL.rows0 Ei 2 ?_
      refine TL.rowsPush 0 2 rfl rfl ?_
      refine TL.rowsPush 2 3 rfl rfl ?_
      refine TL.matmk 1 3 rfl rfl ?_
      refine TL.asL [emp, emp, emp, mat Ei 2 22 s8 ([(gs (g1 16)), (gs (g1 40))] : List SV) ([r_1, r_2] : List (List Int)), emp, emp] (by kernel_rfl) ?_
      refine TL.done ?_
      exact TC.nrm () [[s8]] ⟨rfl, trivial⟩ [2, 2, 0, 0] (by kernel_rfl)
    · intro g1
      refine TL.asL [emp, mat Ei 2 22 (gs (g1 48)) ([(gs (g1 16)), (gs (g1 40))] : List SV) ([r_1, r_2] : List (List Int)), emp, emp] (by kernel_rfl) ?_
      refine TL.callH (R := G.impl_Tensor_at.R) hr3 Try.call59 rfl rfl rfl (fun w hS => G.impl_Tensor_at.calls w b_1 c1 c2 c3 c4 s3 c5 (gs (g1 48)) ([(gs (g1 16)), (gs (g1 40))] : List SV) ([r_1, r_2] : List (List Int)) ((Src.at h4) w hS) ((Rd.old h3) w hS) ((RdM.mat 1 rfl) w hS)) ?_
      rintro _ _ ⟨rfl, rfl⟩
      refine TL.done ?_
      exact TC.nrm () [] ⟨rfl, trivial⟩ [0, 0, 0, 0] (by kernel_rfl)
    · intro g1
      refine TL.assign rfl rfl (v := .int .i64 r_3) rfl ?_
      refine TL.done ?_
      exact TC.nrm () [] ⟨rfl, trivial⟩ [0, 0, 0, 0] (by kernel_rfl)
  · intro g1
    refine TC.asL [emp, mat Ei 2 22 (gs (g1 48)) ([(gs (g1 16)), (gs (g1 40))] : List SV) ([r_1, r_2] : List (List Int)), emp, emp] (by kernel_rfl) ?_
    exact TC.retF (Fin.body (fin1 (.inr rfl) rfl (.tmp rfl) [] rfl ⟨rfl, rfl⟩))

end Go.Proofs.Ytjjfoofjipafiaa.G

/- impl.PermuteTensor, as a pure function. -/
set_option linter.unusedVariables false
namespace Go.Proofs.Ytjjfoofjipafiaa.G
open Go Go.Sx Go.Proofs

def impl_PermuteTensor.f (t1 : Int) (t2 : Int) (t3 : Int) (t4 : Int) (t5 : List Int) (ins1 : List Int) (outs1 : List Int) : Option (Int × Int × Int × Int × (List Int) × Int) := (G.impl_IsTensor.f t1 t2 t3 t4 t5).bind (fun r_1 => (bif (!r_1) then some (0, 0, 0, 0, ([] : List Int), 1) else (G.impl_isOrder.f ins1 t3).bind (fun r_2 => (bif (!r_2) then some true else (G.impl_isOrder.f outs1 t4).bind (fun r_3 => some (!r_3))).bind (fun b_5 => (bif b_5 then some (0, 0, 0, 0, ([] : List Int), 2) else (G.impl_tensor.f t1 t2 t3 t4 (fun x0_ x1_ => G.impl_PermuteTensor_1.f x0_ x1_ t1 t2 t3 t4 t5 ins1 outs1)).bind (fun p => match p with | (r_4, r_5, r_6, r_7, r_8, r_9) => some (r_4, r_5, r_6, r_7, r_8, r_9)))))))

def impl_PermuteTensor.R (r : Int × Int × Int × Int × (List Int) × Int) (v : Value) (L : List Asn) : Prop := ∃ (s0 : SV), v = .tuple #[sval [.one (.int .i64 r.1), .one (.int .i64 r.2.1), .one (.int .i64 r.2.2.1), .one (.int .i64 r.2.2.2.1), .one (SV.v s0)], .int .i64 r.2.2.2.2.2] ∧ L = [row Ei 2 s0 r.2.2.2.2.1]

set_option maxRecDepth 100000 in
set_option maxHeartbeats 4000000 in
theorem impl_PermuteTensor.calls (w : World) (t1 : Int) (t2 : Int) (t3 : Int) (t4 : Int) (s1 : SV) (t5 : List Int) (s2 : SV) (ins1 : List Int) (s3 : SV) (outs1 : List Int) (h1 : Reads Ei (hp w) s1 t5) (h2 : Reads Ei (hp w) s2 ins1) (h3 : Reads Ei (hp w) s3 outs1) :
    ∀ r, impl_PermuteTensor.f t1 t2 t3 t4 t5 ins1 outs1 = some r → Calls Try.prog 40 #[sval [.one (.int .i64 t1), .one (.int .i64 t2), .one (.int .i64 t3), .one (.int .i64 t4), .one (SV.v s1)], SV.v s2, SV.v s3] w (Ret w (impl_PermuteTensor.R r)) := by

  refine calls_T (n := 39) (Γ := [(0, sval [.one (.int .i64 t1), .one (.int .i64 t2), .one (.int .i64 t3), .one (.int .i64 t4), .one (SV.v s1)]), (1, SV.v s2), (2, SV.v s3)]) (R := impl_PermuteTensor.R) Try.func40 rfl rfl (Nat.le_of_ble_eq_true rfl) ⟨rfl, rfl, rfl, trivial⟩ ?_
  unfold impl_PermuteTensor.f
  refine TC.seq ?_
  refine TC.region ?_
  refine TL.box [.one (.int .i64 t1), .one (.int .i64 t2), .one (.int .i64 t3), .one (.int .i64 t4), .one (SV.v s1)] rfl rfl rfl rfl fun b_1 => ?_
  refine TL.box [.one (SV.v s2)] rfl rfl rfl rfl fun b_2 => ?_
  refine TL.box [.one (SV.v s3)] rfl rfl rfl rfl fun b_3 => ?_
  refine TL.alloc [.one (.int .i64 0), .one (.int .i64 0), .one (.int .i64 0), .one (.int .i64 0), .one (SV.v ⟨none, 0, 0⟩)] rfl rfl Try.zeroValue24 rfl fun b_4 => ?_
  refine TL.assign rfl rfl (v := .int .i64 0) rfl ?_
  refine TL.done ?_
  refine TC.seq ?_
  refine TC.block NoEx.body ?_
  refine TC.seq ?_
  refine TC.region ?_
  refine TL.loadM 0 5 (Src.box 3 rfl) Try.isAgg24 Try.sizeOf24 (mid := [.one (.int .i64 t1), .one (.int .i64 t2), .one (.int .i64 t3), .one (.int .i64 t4), .one (SV.v s1)]) rfl rfl rfl rfl rfl rfl ?_
  refine TL.call (R := G.impl_IsTensor.R) Try.call57 rfl rfl rfl (fun w hS => G.impl_IsTensor.calls w t1 t2 t3 t4 s1 t5 ((Rd.old h1) w hS)) ?_
  rintro r_1 _ _ ⟨rfl, rfl⟩
  refine TL.not r_1 rfl rfl rfl ?_
  refine TL.assign rfl rfl (v := .bool (!r_1)) rfl ?_
  refine TL.done ?_
  refine TC.cond (b := (!r_1)) rfl (fun c1 => ?_) (fun c2 => ?_)
  · refine TC.seq ?_
    refine TC.region ?_
    refine TL.buildS (segs0 := [.one (.int .i64 0), .one (.int .i64 0), .one (.int .i64 0), .one (.int .i64 0), .one (SV.v ⟨none, 0, 0⟩)]) (segs := [.one (.int .i64 0), .one (.int .i64 0), .one (.int .i64 0), .one (.int .i64 0), .one (SV.v ⟨none, 0, 0⟩)]) [1, 1, 1, 1, 1] Try.underlying24 ⟨Try.sizeOf2, Try.sizeOf2, Try.sizeOf2, Try.sizeOf2, Try.sizeOf22, trivial⟩ Try.zeroValue24 rfl [] rfl (fun pl hpl => by subst hpl; exact rfl) rfl rfl ?_
    refine TL.stM (news := [.one (.int .i64 0), .one (.int .i64 0), .one (.int .i64 0), .one (.int .i64 0), .one (SV.v ⟨none, 0, 0⟩)]) 0 0 5 rfl Try.sizeOf24 (ones_one rfl (ones_one rfl (ones_one rfl (ones_one rfl (ones_one rfl ones_nil))))) rfl rfl rfl rfl rfl rfl ?_
    refine TL.assign rfl rfl (v := .int .i64 1) rfl ?_
    refine TL.done ?_
    refine TC.nilrow Ei 2 ?_
    exact TC.retF (Fin.body (fin2 (.inr rfl) rfl (.cellN rfl (Src.box 1 rfl) Try.isAgg24 Try.sizeOf24 rfl) (.tmp rfl) [0] rfl ⟨⟨none, 0, 0⟩, rfl, rfl⟩))
  · refine TC.seq ?_
    refine TC.region ?_
    refine TL.load1 0 (Src.box 2 rfl) Try.isAgg22 rfl rfl rfl rfl rfl ?_
    refine TL.fa Try.underlying24 rfl Try.sizeOf2 rfl 2 rfl rfl rfl rfl ?_
    refine TL.load1 2 (Src.box 3 rfl) Try.isAgg2 rfl rfl rfl rfl rfl ?_
    refine TL.call (R := G.impl_isOrder.R) Try.call79 rfl rfl rfl (fun w hS => G.impl_isOrder.calls w s2 ins1 t3 ((Rd.old h2) w hS)) ?_
    rintro r_2 _ _ ⟨rfl, rfl⟩
    refine TL.not r_2 rfl rfl rfl ?_
    refine TL.move rfl rfl (v := .bool (!r_2)) rfl ?_
    refine TL.cutJ (σ := Bool) (γ := Unit) (Γ' := fun b_5 _ => [(25, .bool b_5), (0, sval [.one (.int .i64 t1), .one (.int .i64 t2), .one (.int .i64 t3), .one (.int .i64 t4), .one (SV.v s1)]), (1, SV.v s2), (2, SV.v s3), (3, bp b_1 0), (4, bp b_2 0), (5, bp b_3 0), (6, bp b_4 0), (7, .int .i64 0), (9, sval [.one (.int .i64 t1), .one (.int .i64 t2), .one (.int .i64 t3), .one (.int .i64 t4), .one (SV.v s1)]), (10, .bool r_1), (11, .bool (!r_1)), (8, .bool (!r_1)), (14, SV.v s2), (15, bp b_1 2), (16, .int .i64 t3), (17, .bool r_2), (18, .bool (!r_2)), (19, .bool (!r_2))]) (L' := fun _ _ => [box b_4 24 [.one (.int .i64 0), .one (.int .i64 0), .one (.int .i64 0), .one (.int .i64 0), .one (SV.v ⟨none, 0, 0⟩)], box b_3 22 [.one (SV.v s3)], box b_2 22 [.one (SV.v s2)], box b_1 24 [.one (.int .i64 t1), .one (.int .i64 t2), .one (.int .i64 t3), .one (.int .i64 t4), .one (SV.v s1)]]) 6 ?_ ?_
    · refine TL.ifb (t := 19) (b := (!r_2)) rfl (fun c3 => ?_) (fun c4 => ?_)
      · refine TL.skip rfl rfl (by decide) ?_
        refine TL.skip rfl rfl (by decide) ?_
        refine TL.skip rfl rfl (by decide) ?_
        refine TL.skip rfl rfl (by decide) ?_
        refine TL.skip rfl rfl (by decide) ?_
        refine TL.pick rfl rfl (b := true) rfl (r := .bool true) rfl ?_
        refine TL.done ?_
        exact TC.nrm (true) () ⟨rfl, rfl, rfl, rfl, rfl, rfl, rfl, rfl, rfl, rfl, rfl, rfl, rfl, rfl, rfl, rfl, rfl, rfl, (by rw [c3]; rfl), trivial⟩ [0, 0, 0, 0] (by kernel_rfl)
      · refine TL.load1 0 (Src.box 1 rfl) Try.isAgg22 rfl rfl rfl rfl rfl ?_
        refine TL.fa Try.underlying24 rfl Try.sizeOf2 rfl 3 rfl rfl rfl rfl ?_
        refine TL.load1 3 (Src.box 3 rfl) Try.isAgg2 rfl rfl rfl rfl rfl ?_
        refine TL.call (R := G.impl_isOrder.R) Try.call79 rfl rfl rfl (fun w hS => G.impl_isOrder.calls w s3 outs1 t4 ((Rd.old h3) w hS)) ?_
        rintro r_3 _ _ ⟨rfl, rfl⟩
        refine TL.not r_3 rfl rfl rfl ?_
        refine TL.pick rfl rfl (b := false) rfl (r := .bool (!r_3)) rfl ?_
        refine TL.done ?_
        exact TC.nrm ((!r_3)) () ⟨rfl, rfl, rfl, rfl, rfl, rfl, rfl, rfl, rfl, rfl, rfl, rfl, rfl, rfl, rfl, rfl, rfl, rfl, (by rw [c4]; rfl), trivial⟩ [0, 0, 0, 0] (by kernel_rfl)
    · rintro b_5 _
      refine TL.assign rfl rfl (v := .bool b_5) rfl ?_
      refine TL.done ?_
      refine TC.cond (b := b_5) rfl (fun c5 => ?_) (fun c6 => ?_)
      · refine TC.seq ?_
        refine TC.region ?_
        refine TL.buildS (segs0 := [.one (.int .i64 0), .one (.int .i64 0), .one (.int .i64 0), .one (.int .i64 0), .one (SV.v ⟨none, 0, 0⟩)]) (segs := [.one (.int .i64 0), .one (.int .i64 0), .one (.int .i64 0), .one (.int .i64 0), .one (SV.v ⟨none, 0, 0⟩)]) [1, 1, 1, 1, 1] Try.underlying24 ⟨Try.sizeOf2, Try.sizeOf2, Try.sizeOf2, Try.sizeOf2, Try.sizeOf22, trivial⟩ Try.zeroValue24 rfl [] rfl (fun pl hpl => by subst hpl; exact rfl) rfl rfl ?_
        refine TL.stM (news := [.one (.int .i64 0), .one (.int .i64 0), .one (.int .i64 0), .one (.int .i64 0), .one (SV.v ⟨none, 0, 0⟩)]) 0 0 5 rfl Try.sizeOf24 (ones_one rfl (ones_one rfl (ones_one rfl (ones_one rfl (ones_one rfl ones_nil))))) rfl rfl rfl rfl rfl rfl ?_
        refine TL.assign rfl rfl (v := .int .i64 2) rfl ?_
        refine TL.done ?_
        refine TC.nilrow Ei 2 ?_
        exact TC.retF (Fin.body (fin2 (.inr rfl) rfl (.cellN rfl (Src.box 1 rfl) Try.isAgg24 Try.sizeOf24 rfl) (.tmp rfl) [0] rfl ⟨⟨none, 0, 0⟩, rfl, rfl⟩))
      · refine TC.skip ?_
        refine TC.seq ?_
        refine TC.region ?_
        refine TL.fa Try.underlying24 rfl Try.sizeOf2 rfl 0 rfl rfl rfl rfl ?_
        refine TL.load1 0 (Src.box 3 rfl) Try.isAgg2 rfl rfl rfl rfl rfl ?_
        refine TL.fa Try.underlying24 rfl Try.sizeOf2 rfl 1 rfl rfl rfl rfl ?_
        refine TL.load1 1 (Src.box 3 rfl) Try.isAgg2 rfl rfl rfl rfl rfl ?_
        refine TL.fa Try.underlying24 rfl Try.sizeOf2 rfl 2 rfl rfl rfl rfl ?_
        refine TL.load1 2 (Src.box 3 rfl) Try.isAgg2 rfl rfl rfl rfl rfl ?_
        refine TL.fa Try.underlying24 rfl Try.sizeOf2 rfl 3 rfl rfl rfl rfl ?_
        refine TL.load1 3 (Src.box 3 rfl) Try.isAgg2 rfl rfl rfl rfl rfl ?_
        refine TL.makeFunc rfl rfl (us := []) (vs := [bp b_1 0, bp b_2 0, bp b_3 0]) rfl rfl ?_
        refine TL.call (R := G.impl_tensor.R) Try.call47 rfl rfl rfl (fun w hS => G.impl_tensor.calls w t1 t2 t3 t4 80 [] [bp b_1 0, bp b_2 0, bp b_3 0] (fun x0_ x1_ => G.impl_PermuteTensor_1.f x0_ x1_ t1 t2 t3 t4 t5 ins1 outs1) Try.call80 (fun w_ hle_ s1_ x0_ s2_ x1_ h0_ h1_ r_ hr_ => G.impl_PermuteTensor_1.calls w_ s1_ x0_ s2_ x1_ b_1 t1 t2 t3 t4 s1 t5 b_2 s2 ins1 b_3 s3 outs1 h0_ h1_ (((Src.box 3 rfl) w hS).mono hle_) (((Rd.old h1) w hS).mono hle_) (((Src.box 2 rfl) w hS).mono hle_) (((Rd.old h2) w hS).mono hle_) (((Src.box 1 rfl) w hS).mono hle_) (((Rd.old h3) w hS).mono hle_) r_ hr_)) ?_
        rintro ⟨r_4, r_5, r_6, r_7, r_8, r_9⟩ _ _ ⟨s4, rfl, rfl⟩
        refine TL.extract rfl rfl rfl (v := sval [.one (.int .i64 r_4), .one (.int .i64 r_5), .one (.int .i64 r_6), .one (.int .i64 r_7), .one (SV.v s4)]) rfl ?_
        refine TL.extract rfl rfl rfl (v := .int .i64 r_9) rfl ?_
        refine TL.stM (news := [.one (.int .i64 r_4), .one (.int .i64 r_5), .one (.int .i64 r_6), .one (.int .i64 r_7), .one (SV.v s4)]) 1 0 5 rfl Try.sizeOf24 (ones_one rfl (ones_one rfl (ones_one rfl (ones_one rfl (ones_one rfl ones_nil))))) rfl rfl rfl rfl rfl rfl ?_
        refine TL.assign rfl rfl (v := .int .i64 r_9) rfl ?_
        refine TL.done ?_
        exact TC.retF (Fin.body (fin2 (.inr rfl) rfl (.cellN rfl (Src.box 1 rfl) Try.isAgg24 Try.sizeOf24 rfl) (.tmp rfl) [0] rfl ⟨s4, rfl, rfl⟩))

end Go.Proofs.Ytjjfoofjipafiaa.G
