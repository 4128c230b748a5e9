/- Functions of the program, as pure functions. -/
import Derived.Test.YtjjfoofjipafiaaMComposeTensors2
import Derived.Test.YtjjfoofjipafiaaProg
/- impl.isPrime, as a pure function. -/
set_option linter.unusedVariables false
namespace Go.Proofs.Ytjjfoofjipafiaa.G
open Go Go.Sx Go.Proofs

def impl_isPrime.f (p1 : Int) : Option Bool := (G.slices_Contains_int64_int64.f ([2, 3, 5, 7, 11, 13] : List Int) p1).bind (fun r_1 => some r_1)

def impl_isPrime.R (r : Bool) (v : Value) (L : List Asn) : Prop := v = .bool r ∧ L = []

set_option maxRecDepth 100000 in
set_option maxHeartbeats 4000000 in
theorem impl_isPrime.calls (w : World) (p1 : Int) :
    ∀ r, impl_isPrime.f p1 = some r → Calls Try.prog 84 #[.int .i64 p1] w (Ret w (impl_isPrime.R r)) := by

  refine calls_T (n := 6) (Γ := [(0, .int .i64 p1)]) (R := impl_isPrime.R) Try.func84 rfl rfl (Nat.le_of_ble_eq_true rfl) ⟨rfl, trivial⟩ ?_
  unfold impl_isPrime.f
  refine TC.seq ?_
  refine TC.region ?_
  refine TL.assign rfl rfl (v := .bool false) rfl ?_
  refine TL.done ?_
  refine TC.seq ?_
  refine TC.region ?_
  refine TL.blit Ei ([2, 3, 5, 7, 11, 13] : List Int) Try.underlying22 Try.sizeOf2 Try.zeroValue2 rfl rfl rfl [(0, .int .i64 2), (1, .int .i64 3), (2, .int .i64 5), (3, .int .i64 7), (4, .int .i64 11), (5, .int .i64 13)] rfl ⟨rfl, rfl, rfl, rfl, rfl, rfl, rfl, rfl, rfl, rfl, rfl, rfl, trivial⟩ rfl rfl fun s1 => ?_
  refine TL.move rfl rfl (v := .int .i64 p1) rfl ?_
  refine TL.call (R := G.slices_Contains_int64_int64.R) Try.call97 rfl rfl rfl (fun w hS => G.slices_Contains_int64_int64.calls w s1 ([2, 3, 5, 7, 11, 13] : List Int) p1 ((Rd.row 0 rfl) w hS)) ?_
  rintro r_1 _ _ ⟨rfl, rfl⟩
  refine TL.assign rfl rfl (v := .bool r_1) rfl ?_
  refine TL.done ?_
  exact TC.retF (Fin.body (fin1 (.inr rfl) rfl (.tmp rfl) [] rfl ⟨rfl, rfl⟩))

end Go.Proofs.Ytjjfoofjipafiaa.G

/- impl.shapeOk, as a pure function. -/
set_option linter.unusedVariables false
namespace Go.Proofs.Ytjjfoofjipafiaa.G
open Go Go.Sx Go.Proofs

def impl_shapeOk.f (p1 : Int) (n_1 : Int) : Option Bool := (G.impl_isPrime.f p1).bind (fun r_1 => (bif r_1 then (G.impl_in.f n_1 1 6).bind (fun r_2 => some r_2) else some false).bind (fun b_1 => some b_1))

def impl_shapeOk.R (r : Bool) (v : Value) (L : List Asn) : Prop := v = .bool r ∧ L = []

set_option maxRecDepth 100000 in
set_option maxHeartbeats 4000000 in
theorem impl_shapeOk.calls (w : World) (p1 : Int) (n_1 : Int) :
    ∀ r, impl_shapeOk.f p1 n_1 = some r → Calls Try.prog 46 #[.int .i64 p1, .int .i64 n_1] w (Ret w (impl_shapeOk.R r)) := by

  refine calls_T (n := 11) (Γ := [(0, .int .i64 p1), (1, .int .i64 n_1)]) (R := impl_shapeOk.R) Try.func46 rfl rfl (Nat.le_of_ble_eq_true rfl) ⟨rfl, rfl, trivial⟩ ?_
  unfold impl_shapeOk.f
  refine TC.seq ?_
  refine TC.region ?_
  refine TL.assign rfl rfl (v := .bool false) rfl ?_
  refine TL.done ?_
  refine TC.seq ?_
  refine TC.region ?_
  refine TL.move rfl rfl (v := .int .i64 p1) rfl ?_
  refine TL.call (R := G.impl_isPrime.R) Try.call84 rfl rfl rfl (fun w hS => G.impl_isPrime.calls w p1) ?_
  rintro r_1 _ _ ⟨rfl, rfl⟩
  refine TL.move rfl rfl (v := .bool r_1) rfl ?_
  refine TL.cutJ (σ := Bool) (γ := Unit) (Γ' := fun b_1 _ => [(10, .bool b_1), (0, .int .i64 p1), (1, .int .i64 n_1), (4, .bool false), (5, .int .i64 p1), (6, .bool r_1), (7, .bool r_1)]) (L' := fun _ _ => []) 3 ?_ ?_
  · refine TL.ifb (t := 7) (b := r_1) rfl (fun c1 => ?_) (fun c2 => ?_)
    · refine TL.move rfl rfl (v := .int .i64 n_1) rfl ?_
      refine TL.call (R := G.impl_in.R) Try.call62 rfl rfl rfl (fun w hS => G.impl_in.calls w n_1 1 6) ?_
      rintro r_2 _ _ ⟨rfl, rfl⟩
      refine TL.pick rfl rfl (b := true) rfl (r := .bool r_2) rfl ?_
      refine TL.done ?_
      exact TC.nrm (r_2) () ⟨rfl, rfl, rfl, rfl, rfl, rfl, (by rw [c1]; rfl), trivial⟩ [] (by kernel_rfl)
    · refine TL.skip rfl rfl (by decide) ?_
      refine TL.skip rfl rfl (by decide) ?_
      refine TL.pick rfl rfl (b := false) rfl (r := .bool false) rfl ?_
      refine TL.done ?_
      exact TC.nrm (false) () ⟨rfl, rfl, rfl, rfl, rfl, rfl, (by rw [c2]; rfl), trivial⟩ [] (by kernel_rfl)
  · rintro b_1 _
    refine TL.assign rfl rfl (v := .bool b_1) rfl ?_
    refine TL.done ?_
    exact TC.retF (Fin.body (fin1 (.inr rfl) rfl (.tmp rfl) [] rfl ⟨rfl, rfl⟩))

end Go.Proofs.Ytjjfoofjipafiaa.G

/- slices.IndexFunc[[]int64,int64], as a pure function. -/
set_option linter.unusedVariables false
namespace Go.Proofs.Ytjjfoofjipafiaa.G
open Go Go.Sx Go.Proofs

def slices_IndexFunc_int64_int64.b0 (s1 : List Int) (f2 : Int → Option Bool) : Int → Option (LR Int Int) := fun x1 => (bif (decide (x1 < (s1.length : Int))) then chk x1 s1.length ((f2 (gt s1 x1)).bind (fun r_1 => (bif r_1 then some (.ret (x1)) else some (.next (w64 (x1 + 1)))))) else some (.brk x1))

def slices_IndexFunc_int64_int64.f (s1 : List Int) (f2 : Int → Option Bool) : Option Int := (loop (slices_IndexFunc_int64_int64.b0 s1 f2) 0).bind (ln (fun x1 => some (-1)))

def slices_IndexFunc_int64_int64.R (r : Int) (v : Value) (L : List Asn) : Prop := v = .int .i64 r ∧ L = []

set_option maxRecDepth 100000 in
set_option maxHeartbeats 4000000 in
theorem slices_IndexFunc_int64_int64.calls (w : World) (s2 : SV) (s1 : List Int) (f1 : Nat) (fst1 : List Value) (cap1 : List Value) (f2 : Int → Option Bool) (h1 : Reads Ei (hp w) s2 s1) (hc1 : ∀ (args_ : Array Value) (w_ : World), (callFunc f1 args_).run Try.prog w_ = .ok (.enter f1 args_) w_) (hf1 : ∀ w_, Hle (hp w) (hp w_) → ∀ (x0_ : Int), ∀ r_, f2 x0_ = some r_ → Calls Try.prog f1 (fst1 ++ ([.int .i64 x0_] : List Value) ++ cap1).toArray w_ (Ret w_ (fun (v_ : Value) (L_ : List Asn) => v_ = .bool r_ ∧ L_ = []))) :
    ∀ r, slices_IndexFunc_int64_int64.f s1 f2 = some r → Calls Try.prog 106 #[SV.v s2, .func (.func f1) fst1.toArray cap1.toArray] w (Ret w (slices_IndexFunc_int64_int64.R r)) := by

  refine calls_T (n := 19) (Γ := [(0, SV.v s2), (1, .func (.func f1) fst1.toArray cap1.toArray)]) (R := slices_IndexFunc_int64_int64.R) Try.func106 rfl rfl (Nat.le_of_ble_eq_true rfl) ⟨rfl, rfl, trivial⟩ ?_
  unfold slices_IndexFunc_int64_int64.f
  refine TC.seq ?_
  refine TC.region ?_
  refine TL.assign rfl rfl (v := .int .i64 0) rfl ?_
  refine TL.done ?_
  refine TC.seq ?_
  refine TC.seq ?_
  refine TC.region ?_
  refine TL.move rfl rfl (v := SV.v s2) rfl ?_
  refine TL.len (Rd.old h1) Try.underlying22 rfl rfl rfl ?_
  refine TL.move rfl rfl (v := .int .i64 0) rfl ?_
  refine TL.done ?_
  refine TC.loopK (σ := Int) (γ := Unit) (Γ' := (fun x1 _ => [(0, SV.v s2), (1, .func (.func f1) fst1.toArray cap1.toArray), (7, .int .i64 (s1.length : Int)), (8, .int .i64 x1)])) (L' := (fun x1 _ => [])) (Γb := (fun x1 _ => [(0, SV.v s2), (1, .func (.func f1) fst1.toArray cap1.toArray), (7, .int .i64 (s1.length : Int)), (8, .int .i64 x1)])) (Lb := (fun x1 _ => [])) (0) (()) ⟨rfl, rfl, rfl, rfl, trivial⟩ [] rfl ?_ ?_
  · rintro x1 _
    refine TC.seq ?_
    refine TC.region ?_
    refine TL.bin .i64 x1 (s1.length : Int) rfl rfl rfl rfl (v := .bool (decide (x1 < (s1.length : Int)))) rfl ?_
    refine TL.done ?_
    refine TC.seq ?_
    refine TC.cond (b := (decide (x1 < (s1.length : Int)))) rfl (fun c1 => ?_) (fun c2 => ?_)
    · refine TC.skip ?_
      refine TC.seq ?_
      refine TC.block (NoEx.loop rfl NoEx.body) ?_
      refine TC.seq ?_
      refine TC.region ?_
      refine TL.move rfl rfl (v := .int .i64 x1) rfl ?_
      refine TL.assign rfl rfl (v := .int .i64 x1) rfl ?_
      refine TL.done ?_
      refine TC.seq ?_
      refine TC.region ?_
      refine TL.move rfl rfl (v := .func (.func f1) fst1.toArray cap1.toArray) rfl ?_
      refine TL.move rfl rfl (v := SV.v s2) rfl ?_
      refine TL.move rfl rfl (v := .int .i64 x1) rfl ?_
      refine TL.chk fun h2 => ?_
      refine TL.ixs x1 x1.toNat (Rd.old h1) h2 Try.underlying22 Try.sizeOf2 rfl rfl rfl rfl (by omega) ?_
      refine TL.loadE (Rd.old h1) Try.isAgg2 x1.toNat 0 (gt_spec h2) (v := .int .i64 (gt s1 x1)) rfl (by simp only [show Ei.sz = 1 from rfl]; omega) rfl rfl rfl ?_
      refine TL.callv (R := (fun r_ => (fun (v_ : Value) (L_ : List Asn) => v_ = .bool r_ ∧ L_ = []))) (vs := [.int .i64 (gt s1 x1)]) hc1 rfl rfl rfl rfl (fun w hS => hf1 w hS.iw (gt s1 x1)) ?_
      rintro r_1 _ _ ⟨rfl, rfl⟩
      refine TL.done ?_
      refine TC.cond (b := r_1) rfl (fun c3 => ?_) (fun c4 => ?_)
      · refine TC.seq ?_
        refine TC.region ?_
        refine TL.move rfl rfl (v := .int .i64 x1) rfl ?_
        refine TL.assign rfl rfl (v := .int .i64 x1) rfl ?_
        refine TL.done ?_
        exact TC.retF (Fin.loop Far.ret (Fin.body (fin1 (.inr rfl) rfl (.tmp rfl) [] rfl ⟨rfl, rfl⟩)))
      · refine TC.skip ?_
        refine TC.region ?_
        refine TL.bin .i64 x1 1 rfl rfl rfl rfl (v := .int .i64 (w64 (x1 + 1))) rfl ?_
        refine TL.move rfl rfl (v := .int .i64 (w64 (x1 + 1))) rfl ?_
        refine TL.done ?_
        exact TC.next ((w64 (x1 + 1))) (()) ⟨rfl, rfl, rfl, rfl, trivial⟩ [] rfl
    · exact TC.brk (x1) (()) ⟨rfl, rfl, rfl, rfl, trivial⟩ [] rfl
  · rintro x1 _
    refine TC.seq ?_
    refine TC.region ?_
    refine TL.assign rfl rfl (v := .int .i64 (-1)) rfl ?_
    refine TL.done ?_
    exact TC.retF (Fin.body (fin1 (.inr rfl) rfl (.tmp rfl) [] rfl ⟨rfl, rfl⟩))

end Go.Proofs.Ytjjfoofjipafiaa.G

/- slices.ContainsFunc[[]int64,int64], as a pure function. -/
set_option linter.unusedVariables false
namespace Go.Proofs.Ytjjfoofjipafiaa.G
open Go Go.Sx Go.Proofs

def slices_ContainsFunc_int64_int64.f (s1 : List Int) (f2 : Int → Option Bool) : Option Bool := (G.slices_IndexFunc_int64_int64.f s1 f2).bind (fun r_1 => some (decide (r_1 ≥ 0)))

def slices_ContainsFunc_int64_int64.R (r : Bool) (v : Value) (L : List Asn) : Prop := v = .bool r ∧ L = []

set_option maxRecDepth 100000 in
set_option maxHeartbeats 4000000 in
theorem slices_ContainsFunc_int64_int64.calls (w : World) (s2 : SV) (s1 : List Int) (f1 : Nat) (fst1 : List Value) (cap1 : List Value) (f2 : Int → Option Bool) (h1 : Reads Ei (hp w) s2 s1) (hc1 : ∀ (args_ : Array Value) (w_ : World), (callFunc f1 args_).run Try.prog w_ = .ok (.enter f1 args_) w_) (hf1 : ∀ w_, Hle (hp w) (hp w_) → ∀ (x0_ : Int), ∀ r_, f2 x0_ = some r_ → Calls Try.prog f1 (fst1 ++ ([.int .i64 x0_] : List Value) ++ cap1).toArray w_ (Ret w_ (fun (v_ : Value) (L_ : List Asn) => v_ = .bool r_ ∧ L_ = []))) :
    ∀ r, slices_ContainsFunc_int64_int64.f s1 f2 = some r → Calls Try.prog 89 #[SV.v s2, .func (.func f1) fst1.toArray cap1.toArray] w (Ret w (slices_ContainsFunc_int64_int64.R r)) := by

  refine calls_T (n := 9) (Γ := [(0, SV.v s2), (1, .func (.func f1) fst1.toArray cap1.toArray)]) (R := slices_ContainsFunc_int64_int64.R) Try.func89 rfl rfl (Nat.le_of_ble_eq_true rfl) ⟨rfl, rfl, trivial⟩ ?_
  unfold slices_ContainsFunc_int64_int64.f
  refine TC.seq ?_
  refine TC.region ?_
  refine TL.assign rfl rfl (v := .bool false) rfl ?_
  refine TL.done ?_
  refine TC.seq ?_
  refine TC.region ?_
  refine TL.move rfl rfl (v := SV.v s2) rfl ?_
  refine TL.move rfl rfl (v := .func (.func f1) fst1.toArray cap1.toArray) rfl ?_
  refine TL.call (R := G.slices_IndexFunc_int64_int64.R) Try.call106 rfl rfl rfl (fun w hS => G.slices_IndexFunc_int64_int64.calls w s2 s1 f1 fst1 cap1 f2 ((Rd.old h1) w hS) hc1 (fun w_ hle_ => hf1 w_ (hS.iw.trans hle_))) ?_
  rintro r_1 _ _ ⟨rfl, rfl⟩
  refine TL.bin .i64 r_1 0 rfl rfl rfl rfl (v := .bool (decide (r_1 ≥ 0))) rfl ?_
  refine TL.assign rfl rfl (v := .bool (decide (r_1 ≥ 0))) rfl ?_
  refine TL.done ?_
  exact TC.retF (Fin.body (fin1 (.inr rfl) rfl (.tmp rfl) [] rfl ⟨rfl, rfl⟩))

end Go.Proofs.Ytjjfoofjipafiaa.G

/- impl.IsTensor$1, as a pure function. -/
set_option linter.unusedVariables false
namespace Go.Proofs.Ytjjfoofjipafiaa.G
open Go Go.Sx Go.Proofs

def impl_IsTensor_1.f (x1 : Int) (c1 : Int) (c2 : Int) (c3 : Int) (c4 : Int) (c5 : List Int) : Option Bool := (G.impl_in.f x1 0 (w64 (c1 - 1))).bind (fun r_1 => some (!r_1))

def impl_IsTensor_1.R (r : Bool) (v : Value) (L : List Asn) : Prop := v = .bool r ∧ L = []

set_option maxRecDepth 100000 in
set_option maxHeartbeats 4000000 in
theorem impl_IsTensor_1.calls (w : World) (x1 : Int) (b_1 : Nat) (c1 : Int) (c2 : Int) (c3 : Int) (c4 : Int) (s1 : SV) (c5 : List Int) (h2 : At (hp w) b_1 [.one (.int .i64 c1), .one (.int .i64 c2), .one (.int .i64 c3), .one (.int .i64 c4), .one (SV.v s1)]) (h1 : Reads Ei (hp w) s1 c5) :
    ∀ r, impl_IsTensor_1.f x1 c1 c2 c3 c4 c5 = some r → Calls Try.prog 90 #[.int .i64 x1, bp b_1 0] w (Ret w (impl_IsTensor_1.R r)) := by

  refine calls_T (n := 10) (Γ := [(0, .int .i64 x1), (1, bp b_1 0)]) (R := impl_IsTensor_1.R) Try.func90 rfl rfl (Nat.le_of_ble_eq_true rfl) ⟨rfl, rfl, trivial⟩ ?_
  unfold impl_IsTensor_1.f
  refine TC.seq ?_
  refine TC.region ?_
  refine TL.assign rfl rfl (v := .bool false) rfl ?_
  refine TL.done ?_
  refine TC.seq ?_
  refine TC.region ?_
  refine TL.move rfl rfl (v := .int .i64 x1) rfl ?_
  refine TL.fa Try.underlying24 rfl Try.sizeOf2 rfl 0 rfl rfl rfl rfl ?_
  refine TL.load1 0 (Src.at h2) Try.isAgg2 rfl rfl rfl rfl rfl ?_
  refine TL.bin .i64 c1 1 rfl rfl rfl rfl (v := .int .i64 (w64 (c1 - 1))) rfl ?_
  refine TL.call (R := G.impl_in.R) Try.call62 rfl rfl rfl (fun w hS => G.impl_in.calls w x1 0 (w64 (c1 - 1))) ?_
  rintro r_1 _ _ ⟨rfl, rfl⟩
  refine TL.not r_1 rfl rfl rfl ?_
  refine TL.assign rfl rfl (v := .bool (!r_1)) rfl ?_
  refine TL.done ?_
  exact TC.retF (Fin.body (fin1 (.inr rfl) rfl (.tmp rfl) [] rfl ⟨rfl, rfl⟩))

end Go.Proofs.Ytjjfoofjipafiaa.G

/- impl.IsTensor, as a pure function. -/
set_option linter.unusedVariables false
namespace Go.Proofs.Ytjjfoofjipafiaa.G
open Go Go.Sx Go.Proofs

def impl_IsTensor.f (t1 : Int) (t2 : Int) (t3 : Int) (t4 : Int) (t5 : List Int) : Option Bool := (G.impl_shapeOk.f t1 t2).bind (fun r_1 => (bif (!r_1) then some true else (G.impl_endsOk.f t3).bind (fun r_2 => some (!r_2))).bind (fun b_2 => (bif b_2 then some true else (G.impl_endsOk.f t4).bind (fun r_3 => some (!r_3))).bind (fun b_3 => (bif b_3 then some false else (G.impl_powerOf.f t2 (w64 (t3 + t4))).bind (fun r_4 => (G.slices_ContainsFunc_int64_int64.f t5 (fun x0_ => G.impl_IsTensor_1.f x0_ t1 t2 t3 t4 t5)).bind (fun r_5 => some (((decide (r_4 ≤ 1296)) && ((t5.length : Int) == r_4)) && (!r_5))))))))

def impl_IsTensor.R (r : Bool) (v : Value) (L : List Asn) : Prop := v = .bool r ∧ L = []

set_option maxRecDepth 100000 in
set_option maxHeartbeats 4000000 in
theorem impl_IsTensor.calls (w : World) (t1 : Int) (t2 : Int) (t3 : Int) (t4 : Int) (s1 : SV) (t5 : List Int) (h1 : Reads Ei (hp w) s1 t5) :
    ∀ r, impl_IsTensor.f t1 t2 t3 t4 t5 = some r → Calls Try.prog 57 #[sval [.one (.int .i64 t1), .one (.int .i64 t2), .one (.int .i64 t3), .one (.int .i64 t4), .one (SV.v s1)]] w (Ret w (impl_IsTensor.R r)) := by

  refine calls_T (n := 48) (Γ := [(0, sval [.one (.int .i64 t1), .one (.int .i64 t2), .one (.int .i64 t3), .one (.int .i64 t4), .one (SV.v s1)])]) (R := impl_IsTensor.R) Try.func57 rfl rfl (Nat.le_of_ble_eq_true rfl) ⟨rfl, trivial⟩ ?_
  unfold impl_IsTensor.f
  refine TC.seq ?_
  refine TC.region ?_
  refine TL.box [.one (.int .i64 t1), .one (.int .i64 t2), .one (.int .i64 t3), .one (.int .i64 t4), .one (SV.v s1)] rfl rfl rfl rfl fun b_1 => ?_
  refine TL.assign rfl rfl (v := .bool false) rfl ?_
  refine TL.done ?_
  refine TC.seq ?_
  refine TC.seq ?_
  refine TC.region ?_
  refine TL.fa Try.underlying24 rfl Try.sizeOf2 rfl 0 rfl rfl rfl rfl ?_
  refine TL.load1 0 (Src.box 0 rfl) Try.isAgg2 rfl rfl rfl rfl rfl ?_
  refine TL.fa Try.underlying24 rfl Try.sizeOf2 rfl 1 rfl rfl rfl rfl ?_
  refine TL.load1 1 (Src.box 0 rfl) Try.isAgg2 rfl rfl rfl rfl rfl ?_
  refine TL.call (R := G.impl_shapeOk.R) Try.call46 rfl rfl rfl (fun w hS => G.impl_shapeOk.calls w t1 t2) ?_
  rintro r_1 _ _ ⟨rfl, rfl⟩
  refine TL.not r_1 rfl rfl rfl ?_
  refine TL.move rfl rfl (v := .bool (!r_1)) rfl ?_
  refine TL.cutJ (σ := Bool) (γ := Unit) (Γ' := fun b_2 _ => [(16, .bool b_2), (0, sval [.one (.int .i64 t1), .one (.int .i64 t2), .one (.int .i64 t3), .one (.int .i64 t4), .one (SV.v s1)]), (1, bp b_1 0), (2, .bool false), (5, bp b_1 0), (6, .int .i64 t1), (7, bp b_1 1), (8, .int .i64 t2), (9, .bool r_1), (10, .bool (!r_1)), (11, .bool (!r_1))]) (L' := fun _ _ => [box b_1 24 [.one (.int .i64 t1), .one (.int .i64 t2), .one (.int .i64 t3), .one (.int .i64 t4), .one (SV.v s1)]]) 5 ?_ ?_
  · refine TL.ifb (t := 11) (b := (!r_1)) rfl (fun c1 => ?_) (fun c2 => ?_)
    · refine TL.skip rfl rfl (by decide) ?_
      refine TL.skip rfl rfl (by decide) ?_
      refine TL.skip rfl rfl (by decide) ?_
      refine TL.skip rfl rfl (by decide) ?_
      refine TL.pick rfl rfl (b := true) rfl (r := .bool true) rfl ?_
      refine TL.done ?_
      exact TC.nrm (true) () ⟨rfl, rfl, rfl, rfl, rfl, rfl, rfl, rfl, rfl, rfl, (by rw [c1]; rfl), trivial⟩ [0] (by kernel_rfl)
    · refine TL.fa Try.underlying24 rfl Try.sizeOf2 rfl 2 rfl rfl rfl rfl ?_
      refine TL.load1 2 (Src.box 0 rfl) Try.isAgg2 rfl rfl rfl rfl rfl ?_
      refine TL.call (R := G.impl_endsOk.R) Try.call51 rfl rfl rfl (fun w hS => G.impl_endsOk.calls w t3) ?_
      rintro r_2 _ _ ⟨rfl, rfl⟩
      refine TL.not r_2 rfl rfl rfl ?_
      refine TL.pick rfl rfl (b := false) rfl (r := .bool (!r_2)) rfl ?_
      refine TL.done ?_
      exact TC.nrm ((!r_2)) () ⟨rfl, rfl, rfl, rfl, rfl, rfl, rfl, rfl, rfl, rfl, (by rw [c2]; rfl), trivial⟩ [0] (by kernel_rfl)
  · rintro b_2 _
    refine TL.move rfl rfl (v := .bool b_2) rfl ?_
    refine TL.cutJ (σ := Bool) (γ := Unit) (Γ' := fun b_3 _ => [(22, .bool b_3), (0, sval [.one (.int .i64 t1), .one (.int .i64 t2), .one (.int .i64 t3), .one (.int .i64 t4), .one (SV.v s1)]), (1, bp b_1 0), (2, .bool false), (5, bp b_1 0), (6, .int .i64 t1), (7, bp b_1 1), (8, .int .i64 t2), (9, .bool r_1), (10, .bool (!r_1)), (11, .bool (!r_1)), (16, .bool b_2), (17, .bool b_2)]) (L' := fun _ _ => [box b_1 24 [.one (.int .i64 t1), .one (.int .i64 t2), .one (.int .i64 t3), .one (.int .i64 t4), .one (SV.v s1)]]) 5 ?_ ?_
    · refine TL.ifb (t := 17) (b := b_2) rfl (fun c3 => ?_) (fun c4 => ?_)
      · refine TL.skip rfl rfl (by decide) ?_
        refine TL.skip rfl rfl (by decide) ?_
        refine TL.skip rfl rfl (by decide) ?_
        refine TL.skip rfl rfl (by decide) ?_
        refine TL.pick rfl rfl (b := true) rfl (r := .bool true) rfl ?_
        refine TL.done ?_
        exact TC.nrm (true) () ⟨rfl, rfl, rfl, rfl, rfl, rfl, rfl, rfl, rfl, rfl, rfl, rfl, (by rw [c3]; rfl), trivial⟩ [0] (by kernel_rfl)
      · refine TL.fa Try.underlying24 rfl Try.sizeOf2 rfl 3 rfl rfl rfl rfl ?_
        refine TL.load1 3 (Src.box 0 rfl) Try.isAgg2 rfl rfl rfl rfl rfl ?_
        refine TL.call (R := G.impl_endsOk.R) Try.call51 rfl rfl rfl (fun w hS => G.impl_endsOk.calls w t4) ?_
        rintro r_3 _ _ ⟨rfl, rfl⟩
        refine TL.not r_3 rfl rfl rfl ?_
        refine TL.pick rfl rfl (b := false) rfl (r := .bool (!r_3)) rfl ?_
        refine TL.done ?_
        exact TC.nrm ((!r_3)) () ⟨rfl, rfl, rfl, rfl, rfl, rfl, rfl, rfl, rfl, rfl, rfl, rfl, (by rw [c4]; rfl), trivial⟩ [0] (by kernel_rfl)
    · rintro b_3 _
      refine TL.done ?_
      refine TC.cond (b := b_3) rfl (fun c5 => ?_) (fun c6 => ?_)
      · refine TC.seq ?_
        refine TC.region ?_
        refine TL.assign rfl rfl (v := .bool false) rfl ?_
        refine TL.done ?_
        exact TC.retF (Fin.body (fin1 (.inr rfl) rfl (.tmp rfl) [] rfl ⟨rfl, rfl⟩))
      · refine TC.skip ?_
        refine TC.seq ?_
        refine TC.region ?_
        refine TL.fa Try.underlying24 rfl Try.sizeOf2 rfl 1 rfl rfl rfl rfl ?_
        refine TL.load1 1 (Src.box 0 rfl) Try.isAgg2 rfl rfl rfl rfl rfl ?_
        refine TL.fa Try.underlying24 rfl Try.sizeOf2 rfl 2 rfl rfl rfl rfl ?_
        refine TL.load1 2 (Src.box 0 rfl) Try.isAgg2 rfl rfl rfl rfl rfl ?_
        refine TL.fa Try.underlying24 rfl Try.sizeOf2 rfl 3 rfl rfl rfl rfl ?_
        refine TL.load1 3 (Src.box 0 rfl) Try.isAgg2 rfl rfl rfl rfl rfl ?_
        refine TL.bin .i64 t3 t4 rfl rfl rfl rfl (v := .int .i64 (w64 (t3 + t4))) rfl ?_
        refine TL.call (R := G.impl_powerOf.R) Try.call67 rfl rfl rfl (fun w hS => G.impl_powerOf.calls w t2 (w64 (t3 + t4))) ?_
        rintro r_4 _ _ ⟨rfl, rfl⟩
        refine TL.assign rfl rfl (v := .int .i64 r_4) rfl ?_
        refine TL.done ?_
        refine TC.seq ?_
        refine TC.region ?_
        refine TL.fa Try.underlying24 rfl Try.sizeOf22 rfl 4 rfl rfl rfl rfl ?_
        refine TL.load1 4 (Src.box 0 rfl) Try.isAgg22 rfl rfl rfl rfl rfl ?_
        refine TL.makeFunc rfl rfl (us := []) (vs := [bp b_1 0]) rfl rfl ?_
        refine TL.call (R := G.slices_ContainsFunc_int64_int64.R) Try.call89 rfl rfl rfl (fun w hS => G.slices_ContainsFunc_int64_int64.calls w s1 t5 90 [] [bp b_1 0] (fun x0_ => G.impl_IsTensor_1.f x0_ t1 t2 t3 t4 t5) ((Rd.old h1) w hS) Try.call90 (fun w_ hle_ x0_ r_ hr_ => G.impl_IsTensor_1.calls w_ x0_ b_1 t1 t2 t3 t4 s1 t5 (((Src.box 0 rfl) w hS).mono hle_) (((Rd.old h1) w hS).mono hle_) r_ hr_)) ?_
        rintro r_5 _ _ ⟨rfl, rfl⟩
        refine TL.assign rfl rfl (v := .bool r_5) rfl ?_
        refine TL.done ?_
        refine TC.seq ?_
        refine TC.region ?_
        refine TL.move rfl rfl (v := .int .i64 r_4) rfl ?_
        refine TL.bin .i64 r_4 1296 rfl rfl rfl rfl (v := .bool (decide (r_4 ≤ 1296))) rfl ?_
        refine TL.move rfl rfl (v := .bool (decide (r_4 ≤ 1296))) rfl ?_
        refine TL.cutU 6 [(43, .bool ((decide (r_4 ≤ 1296)) && ((t5.length : Int) == r_4))), (0, sval [.one (.int .i64 t1), .one (.int .i64 t2), .one (.int .i64 t3), .one (.int .i64 t4), .one (SV.v s1)]), (1, bp b_1 0), (2, .bool false), (5, bp b_1 0), (6, .int .i64 t1), (7, bp b_1 1), (8, .int .i64 t2), (9, .bool r_1), (10, .bool (!r_1)), (11, .bool (!r_1)), (16, .bool b_2), (17, .bool b_2), (22, .bool b_3), (23, bp b_1 1), (24, .int .i64 t2), (25, bp b_1 2), (26, .int .i64 t3), (27, bp b_1 3), (28, .int .i64 t4), (29, .int .i64 (w64 (t3 + t4))), (30, .int .i64 r_4), (3, .int .i64 r_4), (31, bp b_1 4), (32, SV.v s1), (33, .func (.func 90) #[] #[bp b_1 0]), (34, .bool r_5), (4, .bool r_5), (35, .int .i64 r_4), (36, .bool (decide (r_4 ≤ 1296))), (37, .bool (decide (r_4 ≤ 1296)))] [box b_1 24 [.one (.int .i64 t1), .one (.int .i64 t2), .one (.int .i64 t3), .one (.int .i64 t4), .one (SV.v s1)]] ?_ ?_
        · refine TL.cases (t := 37) (b := (decide (r_4 ≤ 1296))) rfl (fun c7 => ?_) (fun c8 => ?_)
          · refine TL.fa Try.underlying24 rfl Try.sizeOf22 rfl 4 rfl rfl rfl rfl ?_
            refine TL.load1 4 (Src.box 0 rfl) Try.isAgg22 rfl rfl rfl rfl rfl ?_
            refine TL.len (Rd.old h1) Try.underlying22 rfl rfl rfl ?_
            refine TL.move rfl rfl (v := .int .i64 r_4) rfl ?_
            refine TL.bin .i64 (t5.length : Int) r_4 rfl rfl rfl rfl (v := .bool ((t5.length : Int) == r_4)) rfl ?_
            refine TL.pick rfl rfl (b := true) rfl (r := .bool ((t5.length : Int) == r_4)) rfl ?_
            refine TL.done ?_
            exact TC.nrm () () ⟨(by rw [c7]; rfl), rfl, rfl, rfl, rfl, rfl, rfl, rfl, rfl, rfl, rfl, rfl, rfl, rfl, rfl, rfl, rfl, rfl, rfl, rfl, rfl, rfl, rfl, rfl, rfl, rfl, rfl, rfl, rfl, rfl, (by rw [c7]; rfl), trivial⟩ [0] (by kernel_rfl)
          · refine TL.skip rfl rfl (by decide) ?_
            refine TL.skip rfl rfl (by decide) ?_
            refine TL.skip rfl rfl (by decide) ?_
            refine TL.skip rfl rfl (by decide) ?_
            refine TL.skip rfl rfl (by decide) ?_
            refine TL.pick rfl rfl (b := false) rfl (r := .bool false) rfl ?_
            refine TL.done ?_
            exact TC.nrm () () ⟨(by rw [c8]; rfl), rfl, rfl, rfl, rfl, rfl, rfl, rfl, rfl, rfl, rfl, rfl, rfl, rfl, rfl, rfl, rfl, rfl, rfl, rfl, rfl, rfl, rfl, rfl, rfl, rfl, rfl, rfl, rfl, rfl, (by rw [c8]; rfl), trivial⟩ [0] (by kernel_rfl)
        · refine TL.move rfl rfl (v := .bool ((decide (r_4 ≤ 1296)) && ((t5.length : Int) == r_4))) rfl ?_
          refine TL.cutU 3 [(47, .bool (((decide (r_4 ≤ 1296)) && ((t5.length : Int) == r_4)) && (!r_5))), (0, sval [.one (.int .i64 t1), .one (.int .i64 t2), .one (.int .i64 t3), .one (.int .i64 t4), .one (SV.v s1)]), (1, bp b_1 0), (2, .bool false), (5, bp b_1 0), (6, .int .i64 t1), (7, bp b_1 1), (8, .int .i64 t2), (9, .bool r_1), (10, .bool (!r_1)), (11, .bool (!r_1)), (16, .bool b_2), (17, .bool b_2), (22, .bool b_3), (23, bp b_1 1), (24, .int .i64 t2), (25, bp b_1 2), (26, .int .i64 t3), (27, bp b_1 3), (28, .int .i64 t4), (29, .int .i64 (w64 (t3 + t4))), (30, .int .i64 r_4), (3, .int .i64 r_4), (31, bp b_1 4), (32, SV.v s1), (33, .func (.func 90) #[] #[bp b_1 0]), (34, .bool r_5), (4, .bool r_5), (35, .int .i64 r_4), (36, .bool (decide (r_4 ≤ 1296))), (37, .bool (decide (r_4 ≤ 1296))), (43, .bool ((decide (r_4 ≤ 1296)) && ((t5.length : Int) == r_4))), (44, .bool ((decide (r_4 ≤ 1296)) && ((t5.length : Int) == r_4)))] [box b_1 24 [.one (.int .i64 t1), .one (.int .i64 t2), .one (.int .i64 t3), .one (.int .i64 t4), .one (SV.v s1)]] ?_ ?_
          · refine TL.cases (t := 44) (b := ((decide (r_4 ≤ 1296)) && ((t5.length : Int) == r_4))) rfl (fun c9 => ?_) (fun c10 => ?_)
            · refine TL.move rfl rfl (v := .bool r_5) rfl ?_
              refine TL.not r_5 rfl rfl rfl ?_
              refine TL.pick rfl rfl (b := true) rfl (r := .bool (!r_5)) rfl ?_
              refine TL.done ?_
              exact TC.nrm () () ⟨(by rw [c9]; rfl), rfl, rfl, rfl, rfl, rfl, rfl, rfl, rfl, rfl, rfl, rfl, rfl, rfl, rfl, rfl, rfl, rfl, rfl, rfl, rfl, rfl, rfl, rfl, rfl, rfl, rfl, rfl, rfl, rfl, rfl, rfl, (by rw [c9]; rfl), trivial⟩ [0] (by kernel_rfl)
            · refine TL.skip rfl rfl (by decide) ?_
              refine TL.skip rfl rfl (by decide) ?_
              refine TL.pick rfl rfl (b := false) rfl (r := .bool false) rfl ?_
              refine TL.done ?_
              exact TC.nrm () () ⟨(by rw [c10]; rfl), rfl, rfl, rfl, rfl, rfl, rfl, rfl, rfl, rfl, rfl, rfl, rfl, rfl, rfl, rfl, rfl, rfl, rfl, rfl, rfl, rfl, rfl, rfl, rfl, rfl, rfl, rfl, rfl, rfl, rfl, rfl, (by rw [c10]; rfl), trivial⟩ [0] (by kernel_rfl)
          · refine TL.assign rfl rfl (v := .bool (((decide (r_4 ≤ 1296)) && ((t5.length : Int) == r_4)) && (!r_5))) rfl ?_
            refine TL.done ?_
            exact TC.retF (Fin.body (fin1 (.inr rfl) rfl (.tmp rfl) [] rfl ⟨rfl, rfl⟩))

end Go.Proofs.Ytjjfoofjipafiaa.G

/- impl.bothOk, as a pure function. -/
set_option linter.unusedVariables false
namespace Go.Proofs.Ytjjfoofjipafiaa.G
open Go Go.Sx Go.Proofs

def impl_bothOk.f (t1 : Int) (t2 : Int) (t3 : Int) (t4 : Int) (t5 : List Int) (u1 : Int) (u2 : Int) (u3 : Int) (u4 : Int) (u5 : List Int) (fits1 : Bool) : Option Int := (G.impl_IsTensor.f t1 t2 t3 t4 t5).bind (fun r_1 => (bif (!r_1) then some true else (G.impl_IsTensor.f u1 u2 u3 u4 u5).bind (fun r_2 => some (!r_2))).bind (fun b_3 => (bif b_3 then some 1 else (bif (((t1 != u1) || (t2 != u2)) || (!fits1)) then some 2 else some 0))))

def impl_bothOk.R (r : Int) (v : Value) (L : List Asn) : Prop := v = .int .i64 r ∧ L = []

set_option maxRecDepth 100000 in
set_option maxHeartbeats 4000000 in
theorem impl_bothOk.calls (w : World) (t1 : Int) (t2 : Int) (t3 : Int) (t4 : Int) (s1 : SV) (t5 : List Int) (u1 : Int) (u2 : Int) (u3 : Int) (u4 : Int) (s2 : SV) (u5 : List Int) (fits1 : Bool) (h1 : Reads Ei (hp w) s1 t5) (h2 : Reads Ei (hp w) s2 u5) :
    ∀ r, impl_bothOk.f t1 t2 t3 t4 t5 u1 u2 u3 u4 u5 fits1 = some r → Calls Try.prog 61 #[sval [.one (.int .i64 t1), .one (.int .i64 t2), .one (.int .i64 t3), .one (.int .i64 t4), .one (SV.v s1)], sval [.one (.int .i64 u1), .one (.int .i64 u2), .one (.int .i64 u3), .one (.int .i64 u4), .one (SV.v s2)], .bool fits1] w (Ret w (impl_bothOk.R r)) := by

  refine calls_T (n := 33) (Γ := [(0, sval [.one (.int .i64 t1), .one (.int .i64 t2), .one (.int .i64 t3), .one (.int .i64 t4), .one (SV.v s1)]), (1, sval [.one (.int .i64 u1), .one (.int .i64 u2), .one (.int .i64 u3), .one (.int .i64 u4), .one (SV.v s2)]), (2, .bool fits1)]) (R := impl_bothOk.R) Try.func61 rfl rfl (Nat.le_of_ble_eq_true rfl) ⟨rfl, rfl, rfl, trivial⟩ ?_
  unfold impl_bothOk.f
  refine TC.seq ?_
  refine TC.region ?_
  refine TL.box [.one (.int .i64 t1), .one (.int .i64 t2), .one (.int .i64 t3), .one (.int .i64 t4), .one (SV.v s1)] rfl rfl rfl rfl fun b_1 => ?_
  refine TL.box [.one (.int .i64 u1), .one (.int .i64 u2), .one (.int .i64 u3), .one (.int .i64 u4), .one (SV.v s2)] rfl rfl rfl rfl fun b_2 => ?_
  refine TL.assign rfl rfl (v := .int .i64 0) rfl ?_
  refine TL.done ?_
  refine TC.seq ?_
  refine TC.block NoEx.body ?_
  refine TC.seq ?_
  refine TC.region ?_
  refine TL.loadM 0 5 (Src.box 1 rfl) Try.isAgg24 Try.sizeOf24 (mid := [.one (.int .i64 t1), .one (.int .i64 t2), .one (.int .i64 t3), .one (.int .i64 t4), .one (SV.v s1)]) rfl rfl rfl rfl rfl rfl ?_
  refine TL.call (R := G.impl_IsTensor.R) Try.call57 rfl rfl rfl (fun w hS => G.impl_IsTensor.calls w t1 t2 t3 t4 s1 t5 ((Rd.old h1) w hS)) ?_
  rintro r_1 _ _ ⟨rfl, rfl⟩
  refine TL.not r_1 rfl rfl rfl ?_
  refine TL.move rfl rfl (v := .bool (!r_1)) rfl ?_
  refine TL.cutJ (σ := Bool) (γ := Unit) (Γ' := fun b_3 _ => [(15, .bool b_3), (0, sval [.one (.int .i64 t1), .one (.int .i64 t2), .one (.int .i64 t3), .one (.int .i64 t4), .one (SV.v s1)]), (1, sval [.one (.int .i64 u1), .one (.int .i64 u2), .one (.int .i64 u3), .one (.int .i64 u4), .one (SV.v s2)]), (2, .bool fits1), (3, bp b_1 0), (4, bp b_2 0), (6, .int .i64 0), (8, sval [.one (.int .i64 t1), .one (.int .i64 t2), .one (.int .i64 t3), .one (.int .i64 t4), .one (SV.v s1)]), (9, .bool r_1), (10, .bool (!r_1)), (11, .bool (!r_1))]) (L' := fun _ _ => [box b_2 24 [.one (.int .i64 u1), .one (.int .i64 u2), .one (.int .i64 u3), .one (.int .i64 u4), .one (SV.v s2)], box b_1 24 [.one (.int .i64 t1), .one (.int .i64 t2), .one (.int .i64 t3), .one (.int .i64 t4), .one (SV.v s1)]]) 4 ?_ ?_
  · refine TL.ifb (t := 11) (b := (!r_1)) rfl (fun c1 => ?_) (fun c2 => ?_)
    · refine TL.skip rfl rfl (by decide) ?_
      refine TL.skip rfl rfl (by decide) ?_
      refine TL.skip rfl rfl (by decide) ?_
      refine TL.pick rfl rfl (b := true) rfl (r := .bool true) rfl ?_
      refine TL.done ?_
      exact TC.nrm (true) () ⟨rfl, rfl, rfl, rfl, rfl, rfl, rfl, rfl, rfl, rfl, (by rw [c1]; rfl), trivial⟩ [0, 0] (by kernel_rfl)
    · refine TL.loadM 0 5 (Src.box 0 rfl) Try.isAgg24 Try.sizeOf24 (mid := [.one (.int .i64 u1), .one (.int .i64 u2), .one (.int .i64 u3), .one (.int .i64 u4), .one (SV.v s2)]) rfl rfl rfl rfl rfl rfl ?_
      refine TL.call (R := G.impl_IsTensor.R) Try.call57 rfl rfl rfl (fun w hS => G.impl_IsTensor.calls w u1 u2 u3 u4 s2 u5 ((Rd.old h2) w hS)) ?_
      rintro r_2 _ _ ⟨rfl, rfl⟩
      refine TL.not r_2 rfl rfl rfl ?_
      refine TL.pick rfl rfl (b := false) rfl (r := .bool (!r_2)) rfl ?_
      refine TL.done ?_
      exact TC.nrm ((!r_2)) () ⟨rfl, rfl, rfl, rfl, rfl, rfl, rfl, rfl, rfl, rfl, (by rw [c2]; rfl), trivial⟩ [0, 0] (by kernel_rfl)
  · rintro b_3 _
    refine TL.assign rfl rfl (v := .bool b_3) rfl ?_
    refine TL.done ?_
    refine TC.cond (b := b_3) rfl (fun c3 => ?_) (fun c4 => ?_)
    · refine TC.seq ?_
      refine TC.region ?_
      refine TL.assign rfl rfl (v := .int .i64 1) rfl ?_
      refine TL.done ?_
      exact TC.retF (Fin.body (fin1 (.inr rfl) rfl (.tmp rfl) [] rfl ⟨rfl, rfl⟩))
    · refine TC.seq ?_
      refine TC.region ?_
      refine TL.fa Try.underlying24 rfl Try.sizeOf2 rfl 0 rfl rfl rfl rfl ?_
      refine TL.load1 0 (Src.box 1 rfl) Try.isAgg2 rfl rfl rfl rfl rfl ?_
      refine TL.fa Try.underlying24 rfl Try.sizeOf2 rfl 0 rfl rfl rfl rfl ?_
      refine TL.load1 0 (Src.box 0 rfl) Try.isAgg2 rfl rfl rfl rfl rfl ?_
      refine TL.bin .i64 t1 u1 rfl rfl rfl rfl (v := .bool (t1 != u1)) rfl ?_
      refine TL.move rfl rfl (v := .bool (t1 != u1)) rfl ?_
      refine TL.cutU 6 [(28, .bool ((t1 != u1) || (t2 != u2))), (0, sval [.one (.int .i64 t1), .one (.int .i64 t2), .one (.int .i64 t3), .one (.int .i64 t4), .one (SV.v s1)]), (1, sval [.one (.int .i64 u1), .one (.int .i64 u2), .one (.int .i64 u3), .one (.int .i64 u4), .one (SV.v s2)]), (2, .bool fits1), (3, bp b_1 0), (4, bp b_2 0), (6, .int .i64 0), (8, sval [.one (.int .i64 t1), .one (.int .i64 t2), .one (.int .i64 t3), .one (.int .i64 t4), .one (SV.v s1)]), (9, .bool r_1), (10, .bool (!r_1)), (11, .bool (!r_1)), (15, .bool b_3), (7, .bool b_3), (17, bp b_1 0), (18, .int .i64 t1), (19, bp b_2 0), (20, .int .i64 u1), (21, .bool (t1 != u1)), (22, .bool (t1 != u1))] [box b_2 24 [.one (.int .i64 u1), .one (.int .i64 u2), .one (.int .i64 u3), .one (.int .i64 u4), .one (SV.v s2)], box b_1 24 [.one (.int .i64 t1), .one (.int .i64 t2), .one (.int .i64 t3), .one (.int .i64 t4), .one (SV.v s1)]] ?_ ?_
      · refine TL.cases (t := 22) (b := (t1 != u1)) rfl (fun c5 => ?_) (fun c6 => ?_)
        · refine TL.skip rfl rfl (by decide) ?_
          refine TL.skip rfl rfl (by decide) ?_
          refine TL.skip rfl rfl (by decide) ?_
          refine TL.skip rfl rfl (by decide) ?_
          refine TL.skip rfl rfl (by decide) ?_
          refine TL.pick rfl rfl (b := true) rfl (r := .bool true) rfl ?_
          refine TL.done ?_
          exact TC.nrm () () ⟨(by rw [c5]; rfl), rfl, rfl, rfl, rfl, rfl, rfl, rfl, rfl, rfl, rfl, rfl, rfl, rfl, rfl, rfl, rfl, rfl, (by rw [c5]; rfl), trivial⟩ [0, 0] (by kernel_rfl)
        · refine TL.fa Try.underlying24 rfl Try.sizeOf2 rfl 1 rfl rfl rfl rfl ?_
          refine TL.load1 1 (Src.box 1 rfl) Try.isAgg2 rfl rfl rfl rfl rfl ?_
          refine TL.fa Try.underlying24 rfl Try.sizeOf2 rfl 1 rfl rfl rfl rfl ?_
          refine TL.load1 1 (Src.box 0 rfl) Try.isAgg2 rfl rfl rfl rfl rfl ?_
          refine TL.bin .i64 t2 u2 rfl rfl rfl rfl (v := .bool (t2 != u2)) rfl ?_
          refine TL.pick rfl rfl (b := false) rfl (r := .bool (t2 != u2)) rfl ?_
          refine TL.done ?_
          exact TC.nrm () () ⟨(by rw [c6]; rfl), rfl, rfl, rfl, rfl, rfl, rfl, rfl, rfl, rfl, rfl, rfl, rfl, rfl, rfl, rfl, rfl, rfl, (by rw [c6]; rfl), trivial⟩ [0, 0] (by kernel_rfl)
      · refine TL.move rfl rfl (v := .bool ((t1 != u1) || (t2 != u2))) rfl ?_
        refine TL.cutU 3 [(32, .bool (((t1 != u1) || (t2 != u2)) || (!fits1))), (0, sval [.one (.int .i64 t1), .one (.int .i64 t2), .one (.int .i64 t3), .one (.int .i64 t4), .one (SV.v s1)]), (1, sval [.one (.int .i64 u1), .one (.int .i64 u2), .one (.int .i64 u3), .one (.int .i64 u4), .one (SV.v s2)]), (2, .bool fits1), (3, bp b_1 0), (4, bp b_2 0), (6, .int .i64 0), (8, sval [.one (.int .i64 t1), .one (.int .i64 t2), .one (.int .i64 t3), .one (.int .i64 t4), .one (SV.v s1)]), (9, .bool r_1), (10, .bool (!r_1)), (11, .bool (!r_1)), (15, .bool b_3), (7, .bool b_3), (17, bp b_1 0), (18, .int .i64 t1), (19, bp b_2 0), (20, .int .i64 u1), (21, .bool (t1 != u1)), (22, .bool (t1 != u1)), (28, .bool ((t1 != u1) || (t2 != u2))), (29, .bool ((t1 != u1) || (t2 != u2)))] [box b_2 24 [.one (.int .i64 u1), .one (.int .i64 u2), .one (.int .i64 u3), .one (.int .i64 u4), .one (SV.v s2)], box b_1 24 [.one (.int .i64 t1), .one (.int .i64 t2), .one (.int .i64 t3), .one (.int .i64 t4), .one (SV.v s1)]] ?_ ?_
        · refine TL.cases (t := 29) (b := ((t1 != u1) || (t2 != u2))) rfl (fun c7 => ?_) (fun c8 => ?_)
          · refine TL.skip rfl rfl (by decide) ?_
            refine TL.skip rfl rfl (by decide) ?_
            refine TL.pick rfl rfl (b := true) rfl (r := .bool true) rfl ?_
            refine TL.done ?_
            exact TC.nrm () () ⟨(by rw [c7]; rfl), rfl, rfl, rfl, rfl, rfl, rfl, rfl, rfl, rfl, rfl, rfl, rfl, rfl, rfl, rfl, rfl, rfl, rfl, rfl, (by rw [c7]; rfl), trivial⟩ [0, 0] (by kernel_rfl)
          · refine TL.move rfl rfl (v := .bool fits1) rfl ?_
            refine TL.not fits1 rfl rfl rfl ?_
            refine TL.pick rfl rfl (b := false) rfl (r := .bool (!fits1)) rfl ?_
            refine TL.done ?_
            exact TC.nrm () () ⟨(by rw [c8]; rfl), rfl, rfl, rfl, rfl, rfl, rfl, rfl, rfl, rfl, rfl, rfl, rfl, rfl, rfl, rfl, rfl, rfl, rfl, rfl, (by rw [c8]; rfl), trivial⟩ [0, 0] (by kernel_rfl)
        · refine TL.assign rfl rfl (v := .bool (((t1 != u1) || (t2 != u2)) || (!fits1))) rfl ?_
          refine TL.done ?_
          refine TC.cond (b := (((t1 != u1) || (t2 != u2)) || (!fits1))) rfl (fun c9 => ?_) (fun c10 => ?_)
          · refine TC.seq ?_
            refine TC.region ?_
            refine TL.assign rfl rfl (v := .int .i64 2) rfl ?_
            refine TL.done ?_
            exact TC.retF (Fin.body (fin1 (.inr rfl) rfl (.tmp rfl) [] rfl ⟨rfl, rfl⟩))
          · refine TC.skip ?_
            refine TC.seq ?_
            refine TC.region ?_
            refine TL.assign rfl rfl (v := .int .i64 0) rfl ?_
            refine TL.done ?_
            exact TC.retF (Fin.body (fin1 (.inr rfl) rfl (.tmp rfl) [] rfl ⟨rfl, rfl⟩))

end Go.Proofs.Ytjjfoofjipafiaa.G

/- impl.place, as a pure function. -/
set_option linter.unusedVariables false
namespace Go.Proofs.Ytjjfoofjipafiaa.G
open Go Go.Sx Go.Proofs

def impl_place.b0 (lists1 : List (List Int)) (x1 : Int) (n_1 : Int) : Int × Int → Option (LB (Int × Int)) := fun p => match p with | (out2, x2) => (bif (decide (x2 < ((gt lists1 x1).length : Int))) then chk x2 ((gt lists1 x1).length) (some (.next ((w64 ((w64 (out2 * n_1)) + (gt (gt lists1 x1) x2))), (w64 (x2 + 1))))) else some (.brk (out2, x2)))

def impl_place.b1 (lists1 : List (List Int)) (n_1 : Int) : Int × Int → Option (LB (Int × Int)) := fun p => match p with | (out1, x1) => (bif (decide (x1 < (lists1.length : Int))) then chk x1 lists1.length ((loop1 (impl_place.b0 lists1 x1 n_1) (out1, 0)).bind (fun p => match p with | (out2, x2) => some (.next (out2, (w64 (x1 + 1)))))) else some (.brk (out1, x1)))

def impl_place.f (n_1 : Int) (lists1 : List (List Int)) : Option Int := (loop1 (impl_place.b1 lists1 n_1) (0, 0)).bind (fun p => match p with | (out1, x1) => some out1)

def impl_place.R (r : Int) (v : Value) (L : List Asn) : Prop := v = .int .i64 r ∧ L = []

set_option maxRecDepth 100000 in
set_option maxHeartbeats 4000000 in
theorem impl_place.calls (w : World) (n_1 : Int) (s1 : SV) (ss1 : List SV) (lists1 : List (List Int)) (h1 : ReadsM Ei (hp w) s1 ss1 lists1) :
    ∀ r, impl_place.f n_1 lists1 = some r → Calls Try.prog 91 #[.int .i64 n_1, SV.v s1] w (Ret w (impl_place.R r)) := by

  refine calls_T (n := 30) (Γ := [(0, .int .i64 n_1), (1, SV.v s1)]) (R := impl_place.R) Try.func91 rfl rfl (Nat.le_of_ble_eq_true rfl) ⟨rfl, rfl, trivial⟩ ?_
  unfold impl_place.f
  refine TC.seq ?_
  refine TC.region ?_
  refine TL.assign rfl rfl (v := .int .i64 0) rfl ?_
  refine TL.done ?_
  refine TC.seq ?_
  refine TC.region ?_
  refine TL.assign rfl rfl (v := .int .i64 0) rfl ?_
  refine TL.done ?_
  refine TC.seq ?_
  refine TC.seq ?_
  refine TC.region ?_
  refine TL.move rfl rfl (v := SV.v s1) rfl ?_
  refine TL.lenM (RdM.old h1) Try.underlying96 rfl rfl rfl ?_
  refine TL.move rfl rfl (v := .int .i64 0) rfl ?_
  refine TL.done ?_
  refine TC.loop1 (σ := Int × Int) (γ := Unit) (Γ' := (fun p q => match p, q with | (out1, x1), _ => [(0, .int .i64 n_1), (5, .int .i64 out1), (10, SV.v s1), (11, .int .i64 (lists1.length : Int)), (12, .int .i64 x1)])) (L' := (fun p q => match p, q with | (out1, x1), _ => [])) (Γb := (fun p q => match p, q with | (out1, x1), _ => [(0, .int .i64 n_1), (5, .int .i64 out1), (10, SV.v s1), (11, .int .i64 (lists1.length : Int)), (12, .int .i64 x1)])) (Lb := (fun p q => match p, q with | (out1, x1), _ => [])) ((0, 0)) (()) ⟨rfl, rfl, rfl, rfl, rfl, trivial⟩ [] rfl ?_ ?_
  · rintro ⟨out1, x1⟩ _
    refine TC.seq ?_
    refine TC.region ?_
    refine TL.bin .i64 x1 (lists1.length : Int) rfl rfl rfl rfl (v := .bool (decide (x1 < (lists1.length : Int)))) rfl ?_
    refine TL.done ?_
    refine TC.seq ?_
    refine TC.cond (b := (decide (x1 < (lists1.length : Int)))) rfl (fun c1 => ?_) (fun c2 => ?_)
    · refine TC.skip ?_
      refine TC.seq ?_
      refine TC.block (NoEx.loop1 rfl) ?_
      refine TC.seq ?_
      refine TC.region ?_
      refine TL.chk fun h2 => ?_
      refine TL.ixsM x1 x1.toNat (RdM.old h1) h2 Try.underlying96 Try.sizeOf22 rfl rfl rfl rfl (by omega) ?_
      refine TL.loadM2 (RdM.old h1) Try.isAgg22 x1 h2 (by omega) rfl rfl rfl ?_
      refine TL.assign rfl rfl (v := SV.v (gt ss1 x1)) rfl ?_
      refine TL.done ?_
      refine TC.seq ?_
      refine TC.region ?_
      refine TL.move rfl rfl (v := SV.v (gt ss1 x1)) rfl ?_
      refine TL.len (RdM.inn (RdM.old h1) h2) Try.underlying22 rfl rfl rfl ?_
      refine TL.move rfl rfl (v := .int .i64 0) rfl ?_
      refine TL.done ?_
      refine TC.loop1 (σ := Int × Int) (γ := Unit) (Γ' := (fun p q => match p, q with | (out2, x2), _ => [(0, .int .i64 n_1), (5, .int .i64 out2), (10, SV.v s1), (11, .int .i64 (lists1.length : Int)), (12, .int .i64 x1), (16, SV.v (gt ss1 x1)), (17, .int .i64 ((gt lists1 x1).length : Int)), (18, .int .i64 x2)])) (L' := (fun p q => match p, q with | (out2, x2), _ => [])) (Γb := (fun p q => match p, q with | (out2, x2), _ => [(0, .int .i64 n_1), (5, .int .i64 out2), (10, SV.v s1), (11, .int .i64 (lists1.length : Int)), (12, .int .i64 x1), (16, SV.v (gt ss1 x1)), (17, .int .i64 ((gt lists1 x1).length : Int)), (18, .int .i64 x2)])) (Lb := (fun p q => match p, q with | (out2, x2), _ => [])) ((out1, 0)) (()) ⟨rfl, rfl, rfl, rfl, rfl, rfl, rfl, rfl, trivial⟩ [] rfl ?_ ?_
      · rintro ⟨out2, x2⟩ _
        refine TC.seq ?_
        refine TC.region ?_
        refine TL.bin .i64 x2 ((gt lists1 x1).length : Int) rfl rfl rfl rfl (v := .bool (decide (x2 < ((gt lists1 x1).length : Int)))) rfl ?_
        refine TL.done ?_
        refine TC.seq ?_
        refine TC.cond (b := (decide (x2 < ((gt lists1 x1).length : Int)))) rfl (fun c3 => ?_) (fun c4 => ?_)
        · refine TC.skip ?_
          refine TC.seq ?_
          refine TC.block (NoEx.loop1 rfl) ?_
          refine TC.seq ?_
          refine TC.region ?_
          refine TL.chk fun h3 => ?_
          refine TL.ixs x2 x2.toNat (RdM.inn (RdM.old h1) h2) h3 Try.underlying22 Try.sizeOf2 rfl rfl rfl rfl (by omega) ?_
          refine TL.loadE (RdM.inn (RdM.old h1) h2) Try.isAgg2 x2.toNat 0 (gt_spec h3) (v := .int .i64 (gt (gt lists1 x1) x2)) rfl (by simp only [show Ei.sz = 1 from rfl]; omega) rfl rfl rfl ?_
          refine TL.assign rfl rfl (v := .int .i64 (gt (gt lists1 x1) x2)) rfl ?_
          refine TL.done ?_
          refine TC.region ?_
          refine TL.move rfl rfl (v := .int .i64 out2) rfl ?_
          refine TL.move rfl rfl (v := .int .i64 n_1) rfl ?_
          refine TL.bin .i64 out2 n_1 rfl rfl rfl rfl (v := .int .i64 (w64 (out2 * n_1))) rfl ?_
          refine TL.move rfl rfl (v := .int .i64 (gt (gt lists1 x1) x2)) rfl ?_
          refine TL.bin .i64 (w64 (out2 * n_1)) (gt (gt lists1 x1) x2) rfl rfl rfl rfl (v := .int .i64 (w64 ((w64 (out2 * n_1)) + (gt (gt lists1 x1) x2)))) rfl ?_
          refine TL.assign rfl rfl (v := .int .i64 (w64 ((w64 (out2 * n_1)) + (gt (gt lists1 x1) x2)))) rfl ?_
          refine TL.done ?_
          refine TC.region ?_
          refine TL.bin .i64 x2 1 rfl rfl rfl rfl (v := .int .i64 (w64 (x2 + 1))) rfl ?_
          refine TL.move rfl rfl (v := .int .i64 (w64 (x2 + 1))) rfl ?_
          refine TL.done ?_
          exact TC.next1 (((w64 ((w64 (out2 * n_1)) + (gt (gt lists1 x1) x2))), (w64 (x2 + 1)))) (()) ⟨rfl, rfl, rfl, rfl, rfl, rfl, rfl, rfl, trivial⟩ [] rfl
        · exact TC.brk1 ((out2, x2)) (()) ⟨rfl, rfl, rfl, rfl, rfl, rfl, rfl, rfl, trivial⟩ [] rfl
      · rintro ⟨out2, x2⟩ _
        refine TC.region ?_
        refine TL.bin .i64 x1 1 rfl rfl rfl rfl (v := .int .i64 (w64 (x1 + 1))) rfl ?_
        refine TL.move rfl rfl (v := .int .i64 (w64 (x1 + 1))) rfl ?_
        refine TL.done ?_
        exact TC.next1 ((out2, (w64 (x1 + 1)))) (()) ⟨rfl, rfl, rfl, rfl, rfl, trivial⟩ [] rfl
    · exact TC.brk1 ((out1, x1)) (()) ⟨rfl, rfl, rfl, rfl, rfl, trivial⟩ [] rfl
  · rintro ⟨out1, x1⟩ _
    refine TC.seq ?_
    refine TC.region ?_
    refine TL.move rfl rfl (v := .int .i64 out1) rfl ?_
    refine TL.assign rfl rfl (v := .int .i64 out1) rfl ?_
    refine TL.done ?_
    exact TC.retF (Fin.body (fin1 (.inr rfl) rfl (.tmp rfl) [] rfl ⟨rfl, rfl⟩))

end Go.Proofs.Ytjjfoofjipafiaa.G

/- impl.Tensor).at, as a pure function. -/
set_option linter.unusedVariables false
namespace Go.Proofs.Ytjjfoofjipafiaa.G
open Go Go.Sx Go.Proofs

def impl_Tensor_at.f (t1 : Int) (t2 : Int) (t3 : Int) (t4 : Int) (t5 : List Int) (lists1 : List (List Int)) : Option Int := (G.impl_place.f t2 lists1).bind (fun r_1 => chk r_1 t5.length (some (gt t5 r_1)))

def impl_Tensor_at.R (r : Int) (v : Value) (L : List Asn) : Prop := v = .int .i64 r ∧ L = []

set_option maxRecDepth 100000 in
set_option maxHeartbeats 4000000 in
theorem impl_Tensor_at.calls (w : World) (b_1 : Nat) (t1 : Int) (t2 : Int) (t3 : Int) (t4 : Int) (s1 : SV) (t5 : List Int) (s2 : SV) (ss1 : List SV) (lists1 : List (List Int)) (h2 : At (hp w) b_1 [.one (.int .i64 t1), .one (.int .i64 t2), .one (.int .i64 t3), .one (.int .i64 t4), .one (SV.v s1)]) (h1 : Reads Ei (hp w) s1 t5) (h3 : ReadsM Ei (hp w) s2 ss1 lists1) :
    ∀ r, impl_Tensor_at.f t1 t2 t3 t4 t5 lists1 = some r → Calls Try.prog 59 #[bp b_1 0, SV.v s2] w (Ret w (impl_Tensor_at.R r)) := by

  refine calls_T (n := 17) (Γ := [(0, bp b_1 0), (1, SV.v s2)]) (R := impl_Tensor_at.R) Try.func59 rfl rfl (Nat.le_of_ble_eq_true rfl) ⟨rfl, rfl, trivial⟩ ?_
  unfold impl_Tensor_at.f
  refine TC.seq ?_
  refine TC.region ?_
  refine TL.assign rfl rfl (v := .int .i64 0) rfl ?_
  refine TL.done ?_
  refine TC.seq ?_
  refine TC.wk (Γ' := [(0, bp b_1 0), (1, SV.v s2)]) ⟨rfl, rfl, trivial⟩ ?_
  refine TC.bindE fun r_1 hr1 => ?_
  refine TC.chk fun h4 => ?_
  refine TC.draw [bp b_1 0, bp b_1 0, bp b_1 4, SV.v s1, bp b_1 0, bp b_1 0, bp b_1 1, .int .i64 t2, SV.v s2, .int .i64 r_1, ep s1 r_1.toNat, .int .i64 (gt t5 r_1), .int .i64 (gt t5 r_1)] 13 [] (by kernel_rfl) rfl rfl rfl rfl ?_ ?_
  · refine ⟨?_, ?_, ?_, ?_, ?_, ?_, ?_, ?_, ?_, ?_, ?_, ?_, ?_, trivial⟩
    · refine TL.move rfl rfl (v := bp b_1 0) rfl ?_
      refine TL.done ?_
      exact TC.nrm () () ⟨rfl, trivial⟩ [] (by kernel_rfl)
    · refine TL.nilCheck rfl rfl rfl ?_
      refine TL.done ?_
      exact TC.nrm () () ⟨rfl, trivial⟩ [] (by kernel_rfl)
    · refine TL.fa Try.underlying24 rfl Try.sizeOf22 rfl 4 rfl rfl rfl rfl ?_
      refine TL.done ?_
      exact TC.nrm () () ⟨rfl, trivial⟩ [] (by kernel_rfl)
    · refine TL.load1 4 (Src.at h2) Try.isAgg22 rfl rfl rfl rfl rfl ?_
      refine TL.done ?_
      exact TC.nrm () () ⟨rfl, trivial⟩ [] (by kernel_rfl)
    · refine TL.move rfl rfl (v := bp b_1 0) rfl ?_
      refine TL.done ?_
      exact TC.nrm () () ⟨rfl, trivial⟩ [] (by kernel_rfl)
    · refine TL.nilCheck rfl rfl rfl ?_
      refine TL.done ?_
      exact TC.nrm () () ⟨rfl, trivial⟩ [] (by kernel_rfl)
    · refine TL.fa Try.underlying24 rfl Try.sizeOf2 rfl 1 rfl rfl rfl rfl ?_
      refine TL.done ?_
      exact TC.nrm () () ⟨rfl, trivial⟩ [] (by kernel_rfl)
    · refine TL.load1 1 (Src.at h2) Try.isAgg2 rfl rfl rfl rfl rfl ?_
      refine TL.done ?_
      exact TC.nrm () () ⟨rfl, trivial⟩ [] (by kernel_rfl)
    · refine TL.move rfl rfl (v := SV.v s2) rfl ?_
      refine TL.done ?_
      exact TC.nrm () () ⟨rfl, trivial⟩ [] (by kernel_rfl)
    · refine TL.callH (R := G.impl_place.R) hr1 Try.call91 rfl rfl rfl (fun w hS => G.impl_place.calls w t2 s2 ss1 lists1 ((RdM.old h3) w hS)) ?_
      rintro _ _ ⟨rfl, rfl⟩
      refine TL.done ?_
      exact TC.nrm () () ⟨rfl, trivial⟩ [] (by kernel_rfl)
    · refine TL.ixs r_1 r_1.toNat (Rd.old h1) h4 Try.underlying22 Try.sizeOf2 rfl rfl rfl rfl (by omega) ?_
      refine TL.done ?_
      exact TC.nrm () () ⟨rfl, trivial⟩ [] (by kernel_rfl)
    · refine TL.loadE (Rd.old h1) Try.isAgg2 r_1.toNat 0 (gt_spec h4) (v := .int .i64 (gt t5 r_1)) rfl (by simp only [show Ei.sz = 1 from rfl]; omega) rfl rfl rfl ?_
      refine TL.done ?_
      exact TC.nrm () () ⟨rfl, trivial⟩ [] (by kernel_rfl)
    · refine TL.assign rfl rfl (v := .int .i64 (gt t5 r_1)) rfl ?_
      refine TL.done ?_
      exact TC.nrm () () ⟨rfl, trivial⟩ [] (by kernel_rfl)
  · exact TC.retF (Fin.body (fin1 (.inr rfl) rfl (.tmp rfl) [] rfl ⟨rfl, rfl⟩))

end Go.Proofs.Ytjjfoofjipafiaa.G

/- impl.ComposeTensors$1, as a pure function. -/
set_option linter.unusedVariables false
namespace Go.Proofs.Ytjjfoofjipafiaa.G
open Go Go.Sx Go.Proofs

def impl_ComposeTensors_1.b0 (c1 : Int) (c3 : Int) (c5 : Int) (c2 : Int) (c4 : Int) (c6 : List Int) (i1 : List Int) (c7 : Int) (c8 : Int) (c9 : Int) (c10 : Int) (c11 : List Int) (j1 : List Int) : Int × Int → Option (LB (Int × Int)) := fun p => match p with | (sum1, x1) => (bif (decide (x1 < c1)) then (G.impl_digits.f x1 c3 c5).bind (fun r_1 => (G.impl_Tensor_at.f c2 c3 c4 c5 c6 ([i1, r_1] : List (List Int))).bind (fun r_2 => (G.impl_Tensor_at.f c7 c8 c9 c10 c11 ([r_1, j1] : List (List Int))).bind (fun r_3 => some (.next ((w64 (sum1 + (w64 (r_2 * r_3)))), (w64 (x1 + 1))))))) else some (.brk (sum1, x1)))

def impl_ComposeTensors_1.f (i1 : List Int) (j1 : List Int) (c1 : Int) (c2 : Int) (c3 : Int) (c4 : Int) (c5 : Int) (c6 : List Int) (c7 : Int) (c8 : Int) (c9 : Int) (c10 : Int) (c11 : List Int) : Option Int := (loop1 (impl_ComposeTensors_1.b0 c1 c3 c5 c2 c4 c6 i1 c7 c8 c9 c10 c11 j1) (0, 0)).bind (fun p => match p with | (sum1, x1) => some sum1)

def impl_ComposeTensors_1.R (r : Int) (v : Value) (L : List Asn) : Prop := v = .int .i64 r ∧ L = []

set_option maxRecDepth 100000 in
set_option maxHeartbeats 4000000 in
theorem impl_ComposeTensors_1.calls (w : World) (s1 : SV) (i1 : List Int) (s2 : SV) (j1 : List Int) (b_1 : Nat) (c1 : Int) (b_2 : Nat) (c2 : Int) (c3 : Int) (c4 : Int) (c5 : Int) (s3 : SV) (c6 : List Int) (b_3 : Nat) (c7 : Int) (c8 : Int) (c9 : Int) (c10 : Int) (s4 : SV) (c11 : List Int) (h1 : Reads Ei (hp w) s1 i1) (h2 : Reads Ei (hp w) s2 j1) (h3 : At (hp w) b_1 [.one (.int .i64 c1)]) (h5 : At (hp w) b_2 [.one (.int .i64 c2), .one (.int .i64 c3), .one (.int .i64 c4), .one (.int .i64 c5), .one (SV.v s3)]) (h4 : Reads Ei (hp w) s3 c6) (h7 : At (hp w) b_3 [.one (.int .i64 c7), .one (.int .i64 c8), .one (.int .i64 c9), .one (.int .i64 c10), .one (SV.v s4)]) (h6 : Reads Ei (hp w) s4 c11) :
    ∀ r, impl_ComposeTensors_1.f i1 j1 c1 c2 c3 c4 c5 c6 c7 c8 c9 c10 c11 = some r → Calls Try.prog 68 #[SV.v s1, SV.v s2, bp b_1 0, bp b_2 0, bp b_3 0] w (Ret w (impl_ComposeTensors_1.R r)) := by

  refine calls_T (n := 34) (Γ := [(0, SV.v s1), (1, SV.v s2), (2, bp b_1 0), (3, bp b_2 0), (4, bp b_3 0)]) (R := impl_ComposeTensors_1.R) Try.func68 rfl rfl (Nat.le_of_ble_eq_true rfl) ⟨rfl, rfl, rfl, rfl, rfl, trivial⟩ ?_
  unfold impl_ComposeTensors_1.f
  refine TC.seq ?_
  refine TC.region ?_
  refine TL.assign rfl rfl (v := .int .i64 0) rfl ?_
  refine TL.done ?_
  refine TC.seq ?_
  refine TC.region ?_
  refine TL.assign rfl rfl (v := .int .i64 0) rfl ?_
  refine TL.done ?_
  refine TC.seq ?_
  refine TC.seq ?_
  refine TC.region ?_
  refine TL.load1 0 (Src.at h3) Try.isAgg2 rfl rfl rfl rfl rfl ?_
  refine TL.move rfl rfl (v := .int .i64 0) rfl ?_
  refine TL.done ?_
  refine TC.loop1 (σ := Int × Int) (γ := Unit) (Γ' := (fun p q => match p, q with | (sum1, x1), _ => [(0, SV.v s1), (1, SV.v s2), (3, bp b_2 0), (4, bp b_3 0), (8, .int .i64 sum1), (11, .int .i64 c1), (12, .int .i64 x1)])) (L' := (fun p q => match p, q with | (sum1, x1), _ => [])) (Γb := (fun p q => match p, q with | (sum1, x1), _ => [(0, SV.v s1), (1, SV.v s2), (3, bp b_2 0), (4, bp b_3 0), (8, .int .i64 sum1), (11, .int .i64 c1), (12, .int .i64 x1)])) (Lb := (fun p q => match p, q with | (sum1, x1), _ => [])) ((0, 0)) (()) ⟨rfl, rfl, rfl, rfl, rfl, rfl, rfl, trivial⟩ [] rfl ?_ ?_
  · rintro ⟨sum1, x1⟩ _
    refine TC.seq ?_
    refine TC.region ?_
    refine TL.bin .i64 x1 c1 rfl rfl rfl rfl (v := .bool (decide (x1 < c1))) rfl ?_
    refine TL.done ?_
    refine TC.seq ?_
    refine TC.cond (b := (decide (x1 < c1))) rfl (fun c12 => ?_) (fun c13 => ?_)
    · refine TC.skip ?_
      refine TC.seq ?_
      refine TC.block (NoEx.loop1 rfl) ?_
      refine TC.seq ?_
      refine TC.region ?_
      refine TL.move rfl rfl (v := .int .i64 x1) rfl ?_
      refine TL.assign rfl rfl (v := .int .i64 x1) rfl ?_
      refine TL.done ?_
      refine TC.seq ?_
      refine TC.region ?_
      refine TL.move rfl rfl (v := .int .i64 x1) rfl ?_
      refine TL.fa Try.underlying24 rfl Try.sizeOf2 rfl 1 rfl rfl rfl rfl ?_
      refine TL.load1 1 (Src.at h5) Try.isAgg2 rfl rfl rfl rfl rfl ?_
      refine TL.fa Try.underlying24 rfl Try.sizeOf2 rfl 3 rfl rfl rfl rfl ?_
      refine TL.load1 3 (Src.at h5) Try.isAgg2 rfl rfl rfl rfl rfl ?_
      refine TL.call (R := G.impl_digits.R) Try.call69 rfl rfl rfl (fun w hS => G.impl_digits.calls w x1 c3 c5) ?_
      rintro r_1 _ _ ⟨s5, rfl, rfl⟩
      refine TL.assign rfl rfl (v := SV.v s5) rfl ?_
      refine TL.done ?_
      refine TC.region ?_
      refine TL.move rfl rfl (v := .int .i64 sum1) rfl ?_
      refine TL.move rfl rfl (v := SV.v s1) rfl ?_
      refine TL.move rfl rfl (v := SV.v s5) rfl ?_
      refine TL.blit Ev ([s1, s5] : List SV) Try.underlying96 Try.sizeOf22 Try.zeroValue22 rfl rfl rfl [(0, SV.v s1), (1, SV.v s5)] rfl ⟨rfl, rfl, rfl, rfl, trivial⟩ rfl rfl fun s6 => ?_
      refine TL.call (R := G.impl_Tensor_at.R) Try.call59 rfl rfl rfl (fun w hS => G.impl_Tensor_at.calls w b_2 c2 c3 c4 c5 s3 c6 s6 ([s1, s5] : List SV) ([i1, r_1] : List (List Int)) ((Src.at h5) w hS) ((Rd.old h4) w hS) ((RdM.view (Rd.row 0 rfl) (RdL.cons (Rd.old h1) (RdL.cons (Rd.row 1 rfl) RdL.nil))) w hS)) ?_
      rintro r_2 _ _ ⟨rfl, rfl⟩
      refine TL.move rfl rfl (v := SV.v s5) rfl ?_
      refine TL.move rfl rfl (v := SV.v s2) rfl ?_
      refine TL.blit Ev ([s5, s2] : List SV) Try.underlying96 Try.sizeOf22 Try.zeroValue22 rfl rfl rfl [(0, SV.v s5), (1, SV.v s2)] rfl ⟨rfl, rfl, rfl, rfl, trivial⟩ rfl rfl fun s7 => ?_
      refine TL.call (R := G.impl_Tensor_at.R) Try.call59 rfl rfl rfl (fun w hS => G.impl_Tensor_at.calls w b_3 c7 c8 c9 c10 s4 c11 s7 ([s5, s2] : List SV) ([r_1, j1] : List (List Int)) ((Src.at h7) w hS) ((Rd.old h6) w hS) ((RdM.view (Rd.row 0 rfl) (RdL.cons (Rd.row 2 rfl) (RdL.cons (Rd.old h2) RdL.nil))) w hS)) ?_
      rintro r_3 _ _ ⟨rfl, rfl⟩
      refine TL.bin .i64 r_2 r_3 rfl rfl rfl rfl (v := .int .i64 (w64 (r_2 * r_3))) rfl ?_
      refine TL.bin .i64 sum1 (w64 (r_2 * r_3)) rfl rfl rfl rfl (v := .int .i64 (w64 (sum1 + (w64 (r_2 * r_3))))) rfl ?_
      refine TL.assign rfl rfl (v := .int .i64 (w64 (sum1 + (w64 (r_2 * r_3))))) rfl ?_
      refine TL.done ?_
      refine TC.region ?_
      refine TL.bin .i64 x1 1 rfl rfl rfl rfl (v := .int .i64 (w64 (x1 + 1))) rfl ?_
      refine TL.move rfl rfl (v := .int .i64 (w64 (x1 + 1))) rfl ?_
      refine TL.done ?_
      exact TC.next1 (((w64 (sum1 + (w64 (r_2 * r_3)))), (w64 (x1 + 1)))) (()) ⟨rfl, rfl, rfl, rfl, rfl, rfl, rfl, trivial⟩ [] rfl
    · exact TC.brk1 ((sum1, x1)) (()) ⟨rfl, rfl, rfl, rfl, rfl, rfl, rfl, trivial⟩ [] rfl
  · rintro ⟨sum1, x1⟩ _
    refine TC.seq ?_
    refine TC.region ?_
    refine TL.move rfl rfl (v := .int .i64 sum1) rfl ?_
    refine TL.assign rfl rfl (v := .int .i64 sum1) rfl ?_
    refine TL.done ?_
    exact TC.retF (Fin.body (fin1 (.inr rfl) rfl (.tmp rfl) [] rfl ⟨rfl, rfl⟩))

end Go.Proofs.Ytjjfoofjipafiaa.G

/- impl.ComposeTensors, as a pure function. -/
set_option linter.unusedVariables false
namespace Go.Proofs.Ytjjfoofjipafiaa.G
open Go Go.Sx Go.Proofs

def impl_ComposeTensors.f (t1 : Int) (t2 : Int) (t3 : Int) (t4 : Int) (t5 : List Int) (u1 : Int) (u2 : Int) (u3 : Int) (u4 : Int) (u5 : List Int) : Option (Int × Int × Int × Int × (List Int) × Int) := (G.impl_bothOk.f t1 t2 t3 t4 t5 u1 u2 u3 u4 u5 (t4 == u3)).bind (fun r_1 => (bif (r_1 != 0) then some (0, 0, 0, 0, ([] : List Int), r_1) else (G.impl_powerOf.f t2 t4).bind (fun r_2 => (G.impl_tensor.f t1 t2 t3 u4 (fun x0_ x1_ => G.impl_ComposeTensors_1.f x0_ x1_ r_2 t1 t2 t3 t4 t5 u1 u2 u3 u4 u5)).bind (fun p => match p with | (r_3, r_4, r_5, r_6, r_7, r_8) => some (r_3, r_4, r_5, r_6, r_7, r_8)))))

def impl_ComposeTensors.R (r : Int × Int × Int × Int × (List Int) × Int) (v : Value) (L : List Asn) : Prop := ∃ (s0 : SV), v = .tuple #[sval [.one (.int .i64 r.1), .one (.int .i64 r.2.1), .one (.int .i64 r.2.2.1), .one (.int .i64 r.2.2.2.1), .one (SV.v s0)], .int .i64 r.2.2.2.2.2] ∧ L = [row Ei 2 s0 r.2.2.2.2.1]

set_option maxRecDepth 100000 in
set_option maxHeartbeats 4000000 in
theorem impl_ComposeTensors.calls (w : World) (t1 : Int) (t2 : Int) (t3 : Int) (t4 : Int) (s1 : SV) (t5 : List Int) (u1 : Int) (u2 : Int) (u3 : Int) (u4 : Int) (s2 : SV) (u5 : List Int) (h1 : Reads Ei (hp w) s1 t5) (h2 : Reads Ei (hp w) s2 u5) :
    ∀ r, impl_ComposeTensors.f t1 t2 t3 t4 t5 u1 u2 u3 u4 u5 = some r → Calls Try.prog 28 #[sval [.one (.int .i64 t1), .one (.int .i64 t2), .one (.int .i64 t3), .one (.int .i64 t4), .one (SV.v s1)], sval [.one (.int .i64 u1), .one (.int .i64 u2), .one (.int .i64 u3), .one (.int .i64 u4), .one (SV.v s2)]] w (Ret w (impl_ComposeTensors.R r)) := by

  refine calls_T (n := 37) (Γ := [(0, sval [.one (.int .i64 t1), .one (.int .i64 t2), .one (.int .i64 t3), .one (.int .i64 t4), .one (SV.v s1)]), (1, sval [.one (.int .i64 u1), .one (.int .i64 u2), .one (.int .i64 u3), .one (.int .i64 u4), .one (SV.v s2)])]) (R := impl_ComposeTensors.R) Try.func28 rfl rfl (Nat.le_of_ble_eq_true rfl) ⟨rfl, rfl, trivial⟩ ?_
  unfold impl_ComposeTensors.f
  refine TC.seq ?_
  refine TC.region ?_
  refine TL.box [.one (.int .i64 t1), .one (.int .i64 t2), .one (.int .i64 t3), .one (.int .i64 t4), .one (SV.v s1)] rfl rfl rfl rfl fun b_1 => ?_
  refine TL.box [.one (.int .i64 u1), .one (.int .i64 u2), .one (.int .i64 u3), .one (.int .i64 u4), .one (SV.v s2)] rfl rfl rfl rfl fun b_2 => ?_
  refine TL.alloc [.one (.int .i64 0), .one (.int .i64 0), .one (.int .i64 0), .one (.int .i64 0), .one (SV.v ⟨none, 0, 0⟩)] rfl rfl Try.zeroValue24 rfl fun b_3 => ?_
  refine TL.assign rfl rfl (v := .int .i64 0) rfl ?_
  refine TL.done ?_
  refine TC.seq ?_
  refine TC.seq ?_
  refine TC.region ?_
  refine TL.loadM 0 5 (Src.box 2 rfl) Try.isAgg24 Try.sizeOf24 (mid := [.one (.int .i64 t1), .one (.int .i64 t2), .one (.int .i64 t3), .one (.int .i64 t4), .one (SV.v s1)]) rfl rfl rfl rfl rfl rfl ?_
  refine TL.loadM 0 5 (Src.box 1 rfl) Try.isAgg24 Try.sizeOf24 (mid := [.one (.int .i64 u1), .one (.int .i64 u2), .one (.int .i64 u3), .one (.int .i64 u4), .one (SV.v s2)]) rfl rfl rfl rfl rfl rfl ?_
  refine TL.fa Try.underlying24 rfl Try.sizeOf2 rfl 3 rfl rfl rfl rfl ?_
  refine TL.load1 3 (Src.box 2 rfl) Try.isAgg2 rfl rfl rfl rfl rfl ?_
  refine TL.fa Try.underlying24 rfl Try.sizeOf2 rfl 2 rfl rfl rfl rfl ?_
  refine TL.load1 2 (Src.box 1 rfl) Try.isAgg2 rfl rfl rfl rfl rfl ?_
  refine TL.bin .i64 t4 u3 rfl rfl rfl rfl (v := .bool (t4 == u3)) rfl ?_
  refine TL.call (R := G.impl_bothOk.R) Try.call61 rfl rfl rfl (fun w hS => G.impl_bothOk.calls w t1 t2 t3 t4 s1 t5 u1 u2 u3 u4 s2 u5 (t4 == u3) ((Rd.old h1) w hS) ((Rd.old h2) w hS)) ?_
  rintro r_1 _ _ ⟨rfl, rfl⟩
  refine TL.assign rfl rfl (v := .int .i64 r_1) rfl ?_
  refine TL.done ?_
  refine TC.seq ?_
  refine TC.region ?_
  refine TL.move rfl rfl (v := .int .i64 r_1) rfl ?_
  refine TL.bin .i64 r_1 0 rfl rfl rfl rfl (v := .bool (r_1 != 0)) rfl ?_
  refine TL.done ?_
  refine TC.cond (b := (r_1 != 0)) rfl (fun c1 => ?_) (fun c2 => ?_)
  · refine TC.seq ?_
    refine TC.region ?_
    refine TL.buildS (segs0 := [.one (.int .i64 0), .one (.int .i64 0), .one (.int .i64 0), .one (.int .i64 0), .one (SV.v ⟨none, 0, 0⟩)]) (segs := [.one (.int .i64 0), .one (.int .i64 0), .one (.int .i64 0), .one (.int .i64 0), .one (SV.v ⟨none, 0, 0⟩)]) [1, 1, 1, 1, 1] Try.underlying24 ⟨Try.sizeOf2, Try.sizeOf2, Try.sizeOf2, Try.sizeOf2, Try.sizeOf22, trivial⟩ Try.zeroValue24 rfl [] rfl (fun pl hpl => by subst hpl; exact rfl) rfl rfl ?_
    refine TL.move rfl rfl (v := .int .i64 r_1) rfl ?_
    refine TL.stM (news := [.one (.int .i64 0), .one (.int .i64 0), .one (.int .i64 0), .one (.int .i64 0), .one (SV.v ⟨none, 0, 0⟩)]) 0 0 5 rfl Try.sizeOf24 (ones_one rfl (ones_one rfl (ones_one rfl (ones_one rfl (ones_one rfl ones_nil))))) rfl rfl rfl rfl rfl rfl ?_
    refine TL.assign rfl rfl (v := .int .i64 r_1) rfl ?_
    refine TL.done ?_
    refine TC.nilrow Ei 2 ?_
    exact TC.retF (Fin.body (fin2 (.inr rfl) rfl (.cellN rfl (Src.box 1 rfl) Try.isAgg24 Try.sizeOf24 rfl) (.tmp rfl) [0] rfl ⟨⟨none, 0, 0⟩, rfl, rfl⟩))
  · refine TC.skip ?_
    refine TC.seq ?_
    refine TC.region ?_
    refine TL.fa Try.underlying24 rfl Try.sizeOf2 rfl 1 rfl rfl rfl rfl ?_
    refine TL.load1 1 (Src.box 2 rfl) Try.isAgg2 rfl rfl rfl rfl rfl ?_
    refine TL.fa Try.underlying24 rfl Try.sizeOf2 rfl 3 rfl rfl rfl rfl ?_
    refine TL.load1 3 (Src.box 2 rfl) Try.isAgg2 rfl rfl rfl rfl rfl ?_
    refine TL.call (R := G.impl_powerOf.R) Try.call67 rfl rfl rfl (fun w hS => G.impl_powerOf.calls w t2 t4) ?_
    rintro r_2 _ _ ⟨rfl, rfl⟩
    refine TL.alloc [.one (.int .i64 0)] rfl rfl Try.zeroValue2 rfl fun b_4 => ?_
    refine TL.st1 0 0 rfl Try.sizeOf2 rfl rfl rfl rfl rfl rfl rfl ?_
    refine TL.done ?_
    refine TC.seq ?_
    refine TC.region ?_
    refine TL.fa Try.underlying24 rfl Try.sizeOf2 rfl 0 rfl rfl rfl rfl ?_
    refine TL.load1 0 (Src.box 3 rfl) Try.isAgg2 rfl rfl rfl rfl rfl ?_
    refine TL.fa Try.underlying24 rfl Try.sizeOf2 rfl 1 rfl rfl rfl rfl ?_
    refine TL.load1 1 (Src.box 3 rfl) Try.isAgg2 rfl rfl rfl rfl rfl ?_
    refine TL.fa Try.underlying24 rfl Try.sizeOf2 rfl 2 rfl rfl rfl rfl ?_
    refine TL.load1 2 (Src.box 3 rfl) Try.isAgg2 rfl rfl rfl rfl rfl ?_
    refine TL.fa Try.underlying24 rfl Try.sizeOf2 rfl 3 rfl rfl rfl rfl ?_
    refine TL.load1 3 (Src.box 2 rfl) Try.isAgg2 rfl rfl rfl rfl rfl ?_
    refine TL.makeFunc rfl rfl (us := []) (vs := [bp b_4 0, bp b_1 0, bp b_2 0]) rfl rfl ?_
    refine TL.call (R := G.impl_tensor.R) Try.call47 rfl rfl rfl (fun w hS => G.impl_tensor.calls w t1 t2 t3 u4 68 [] [bp b_4 0, bp b_1 0, bp b_2 0] (fun x0_ x1_ => G.impl_ComposeTensors_1.f x0_ x1_ r_2 t1 t2 t3 t4 t5 u1 u2 u3 u4 u5) Try.call68 (fun w_ hle_ s1_ x0_ s2_ x1_ h0_ h1_ r_ hr_ => G.impl_ComposeTensors_1.calls w_ s1_ x0_ s2_ x1_ b_4 r_2 b_1 t1 t2 t3 t4 s1 t5 b_2 u1 u2 u3 u4 s2 u5 h0_ h1_ (((Src.box 0 rfl) w hS).mono hle_) (((Src.box 3 rfl) w hS).mono hle_) (((Rd.old h1) w hS).mono hle_) (((Src.box 2 rfl) w hS).mono hle_) (((Rd.old h2) w hS).mono hle_) r_ hr_)) ?_
    rintro ⟨r_3, r_4, r_5, r_6, r_7, r_8⟩ _ _ ⟨s3, rfl, rfl⟩
    refine TL.extract rfl rfl rfl (v := sval [.one (.int .i64 r_3), .one (.int .i64 r_4), .one (.int .i64 r_5), .one (.int .i64 r_6), .one (SV.v s3)]) rfl ?_
    refine TL.extract rfl rfl rfl (v := .int .i64 r_8) rfl ?_
    refine TL.stM (news := [.one (.int .i64 r_3), .one (.int .i64 r_4), .one (.int .i64 r_5), .one (.int .i64 r_6), .one (SV.v s3)]) 2 0 5 rfl Try.sizeOf24 (ones_one rfl (ones_one rfl (ones_one rfl (ones_one rfl (ones_one rfl ones_nil))))) rfl rfl rfl rfl rfl rfl ?_
    refine TL.assign rfl rfl (v := .int .i64 r_8) rfl ?_
    refine TL.done ?_
    exact TC.retF (Fin.body (fin2 (.inr rfl) rfl (.cellN rfl (Src.box 2 rfl) Try.isAgg24 Try.sizeOf24 rfl) (.tmp rfl) [0] rfl ⟨s3, rfl, rfl⟩))

end Go.Proofs.Ytjjfoofjipafiaa.G
