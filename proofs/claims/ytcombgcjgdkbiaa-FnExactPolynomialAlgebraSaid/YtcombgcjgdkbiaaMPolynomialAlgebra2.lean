/- Functions of the program, as pure functions. -/
import Derived.Test.YtcombgcjgdkbiaaMPolynomialAlgebra1
import Derived.Test.YtcombgcjgdkbiaaProg
/- slices.Index[[]int64,int64], as a pure function. -/
set_option linter.unusedVariables false
namespace Go.Proofs.Ytcombgcjgdkbiaa.G
open Go Go.Sx Go.Proofs

def slices_Index_int64_int64.b0 (s1 : List Int) (v_1 : Int) : Int → Option (LR Int Int) := fun x1 => (bif (decide (x1 < (s1.length : Int))) then chk x1 s1.length ((bif (v_1 == (gt s1 x1)) then some (.ret (x1)) else some (.next (w64 (x1 + 1))))) else some (.brk x1))

def slices_Index_int64_int64.f (s1 : List Int) (v_1 : Int) : Option Int := (loop (slices_Index_int64_int64.b0 s1 v_1) 0).bind (ln (fun x1 => some (-1)))

def slices_Index_int64_int64.R (r : Int) (v : Value) (L : List Asn) : Prop := v = .int .i64 r ∧ L = []

set_option maxRecDepth 100000 in
set_option maxHeartbeats 4000000 in
theorem slices_Index_int64_int64.calls (w : World) (s2 : SV) (s1 : List Int) (v_1 : Int) (h1 : Reads Ei (hp w) s2 s1) :
    ∀ r, slices_Index_int64_int64.f s1 v_1 = some r → Calls Try.prog 126 #[SV.v s2, .int .i64 v_1] w (Ret w (slices_Index_int64_int64.R r)) := by

  refine calls_T (n := 19) (Γ := [(0, SV.v s2), (1, .int .i64 v_1)]) (R := slices_Index_int64_int64.R) Try.func126 rfl rfl (Nat.le_of_ble_eq_true rfl) ⟨rfl, rfl, trivial⟩ ?_
  unfold slices_Index_int64_int64.f
  refine TC.seq ?_
  refine TC.region ?_
  refine TL.assign rfl rfl (v := .int .i64 0) rfl ?_
  refine TL.done ?_
  refine TC.seq ?_
  refine TC.seq ?_
  refine TC.region ?_
  refine TL.move rfl rfl (v := SV.v s2) rfl ?_
  refine TL.len (Rd.old h1) Try.underlying22 rfl rfl rfl ?_
  refine TL.move rfl rfl (v := .int .i64 0) rfl ?_
  refine TL.done ?_
  refine TC.loopK (σ := Int) (γ := Unit) (Γ' := (fun x1 _ => [(0, SV.v s2), (1, .int .i64 v_1), (7, .int .i64 (s1.length : Int)), (8, .int .i64 x1)])) (L' := (fun x1 _ => [])) (Γb := (fun x1 _ => [(0, SV.v s2), (1, .int .i64 v_1), (7, .int .i64 (s1.length : Int)), (8, .int .i64 x1)])) (Lb := (fun x1 _ => [])) (0) (()) ⟨rfl, rfl, rfl, rfl, trivial⟩ [] rfl ?_ ?_
  · rintro x1 _
    refine TC.seq ?_
    refine TC.region ?_
    refine TL.bin .i64 x1 (s1.length : Int) rfl rfl rfl rfl (v := .bool (decide (x1 < (s1.length : Int)))) rfl ?_
    refine TL.done ?_
    refine TC.seq ?_
    refine TC.cond (b := (decide (x1 < (s1.length : Int)))) rfl (fun c1 => ?_) (fun c2 => ?_)
    · refine TC.skip ?_
      refine TC.seq ?_
      refine TC.block (NoEx.loop rfl NoEx.body) ?_
      refine TC.seq ?_
      refine TC.region ?_
      refine TL.move rfl rfl (v := .int .i64 x1) rfl ?_
      refine TL.assign rfl rfl (v := .int .i64 x1) rfl ?_
      refine TL.done ?_
      refine TC.seq ?_
      refine TC.region ?_
      refine TL.move rfl rfl (v := .int .i64 v_1) rfl ?_
      refine TL.move rfl rfl (v := SV.v s2) rfl ?_
      refine TL.move rfl rfl (v := .int .i64 x1) rfl ?_
      refine TL.chk fun h2 => ?_
      refine TL.ixs x1 x1.toNat (Rd.old h1) h2 Try.underlying22 Try.sizeOf2 rfl rfl rfl rfl (by omega) ?_
      refine TL.loadE (Rd.old h1) Try.isAgg2 x1.toNat 0 (gt_spec h2) (v := .int .i64 (gt s1 x1)) rfl (by simp only [show Ei.sz = 1 from rfl]; omega) rfl rfl rfl ?_
      refine TL.bin .i64 v_1 (gt s1 x1) rfl rfl rfl rfl (v := .bool (v_1 == (gt s1 x1))) rfl ?_
      refine TL.done ?_
      refine TC.cond (b := (v_1 == (gt s1 x1))) rfl (fun c3 => ?_) (fun c4 => ?_)
      · refine TC.seq ?_
        refine TC.region ?_
        refine TL.move rfl rfl (v := .int .i64 x1) rfl ?_
        refine TL.assign rfl rfl (v := .int .i64 x1) rfl ?_
        refine TL.done ?_
        exact TC.retF (Fin.loop Far.ret (Fin.body (fin1 (.inr rfl) rfl (.tmp rfl) [] rfl ⟨rfl, rfl⟩)))
      · refine TC.skip ?_
        refine TC.region ?_
        refine TL.bin .i64 x1 1 rfl rfl rfl rfl (v := .int .i64 (w64 (x1 + 1))) rfl ?_
        refine TL.move rfl rfl (v := .int .i64 (w64 (x1 + 1))) rfl ?_
        refine TL.done ?_
        exact TC.next ((w64 (x1 + 1))) (()) ⟨rfl, rfl, rfl, rfl, trivial⟩ [] rfl
    · exact TC.brk (x1) (()) ⟨rfl, rfl, rfl, rfl, trivial⟩ [] rfl
  · rintro x1 _
    refine TC.seq ?_
    refine TC.region ?_
    refine TL.assign rfl rfl (v := .int .i64 (-1)) rfl ?_
    refine TL.done ?_
    exact TC.retF (Fin.body (fin1 (.inr rfl) rfl (.tmp rfl) [] rfl ⟨rfl, rfl⟩))

end Go.Proofs.Ytcombgcjgdkbiaa.G

/- slices.Contains[[]int64,int64], as a pure function. -/
set_option linter.unusedVariables false
namespace Go.Proofs.Ytcombgcjgdkbiaa.G
open Go Go.Sx Go.Proofs

def slices_Contains_int64_int64.f (s1 : List Int) (v_1 : Int) : Option Bool := (G.slices_Index_int64_int64.f s1 v_1).bind (fun r_1 => some (decide (r_1 ≥ 0)))

def slices_Contains_int64_int64.R (r : Bool) (v : Value) (L : List Asn) : Prop := v = .bool r ∧ L = []

set_option maxRecDepth 100000 in
set_option maxHeartbeats 4000000 in
theorem slices_Contains_int64_int64.calls (w : World) (s2 : SV) (s1 : List Int) (v_1 : Int) (h1 : Reads Ei (hp w) s2 s1) :
    ∀ r, slices_Contains_int64_int64.f s1 v_1 = some r → Calls Try.prog 117 #[SV.v s2, .int .i64 v_1] w (Ret w (slices_Contains_int64_int64.R r)) := by

  refine calls_T (n := 9) (Γ := [(0, SV.v s2), (1, .int .i64 v_1)]) (R := slices_Contains_int64_int64.R) Try.func117 rfl rfl (Nat.le_of_ble_eq_true rfl) ⟨rfl, rfl, trivial⟩ ?_
  unfold slices_Contains_int64_int64.f
  refine TC.seq ?_
  refine TC.region ?_
  refine TL.assign rfl rfl (v := .bool false) rfl ?_
  refine TL.done ?_
  refine TC.seq ?_
  refine TC.region ?_
  refine TL.move rfl rfl (v := SV.v s2) rfl ?_
  refine TL.move rfl rfl (v := .int .i64 v_1) rfl ?_
  refine TL.call (R := G.slices_Index_int64_int64.R) Try.call126 rfl rfl rfl (fun w hS => G.slices_Index_int64_int64.calls w s2 s1 v_1 ((Rd.old h1) w hS)) ?_
  rintro r_1 _ _ ⟨rfl, rfl⟩
  refine TL.bin .i64 r_1 0 rfl rfl rfl rfl (v := .bool (decide (r_1 ≥ 0))) rfl ?_
  refine TL.assign rfl rfl (v := .bool (decide (r_1 ≥ 0))) rfl ?_
  refine TL.done ?_
  exact TC.retF (Fin.body (fin1 (.inr rfl) rfl (.tmp rfl) [] rfl ⟨rfl, rfl⟩))

end Go.Proofs.Ytcombgcjgdkbiaa.G

/- impl.isPrime, as a pure function. -/
set_option linter.unusedVariables false
namespace Go.Proofs.Ytcombgcjgdkbiaa.G
open Go Go.Sx Go.Proofs

def impl_isPrime.f (p1 : Int) : Option Bool := (G.slices_Contains_int64_int64.f ([2, 3, 5, 7, 11, 13] : List Int) p1).bind (fun r_1 => some r_1)

def impl_isPrime.R (r : Bool) (v : Value) (L : List Asn) : Prop := v = .bool r ∧ L = []

set_option maxRecDepth 100000 in
set_option maxHeartbeats 4000000 in
theorem impl_isPrime.calls (w : World) (p1 : Int) :
    ∀ r, impl_isPrime.f p1 = some r → Calls Try.prog 76 #[.int .i64 p1] w (Ret w (impl_isPrime.R r)) := by

  refine calls_T (n := 6) (Γ := [(0, .int .i64 p1)]) (R := impl_isPrime.R) Try.func76 rfl rfl (Nat.le_of_ble_eq_true rfl) ⟨rfl, trivial⟩ ?_
  unfold impl_isPrime.f
  refine TC.seq ?_
  refine TC.region ?_
  refine TL.assign rfl rfl (v := .bool false) rfl ?_
  refine TL.done ?_
  refine TC.seq ?_
  refine TC.region ?_
  refine TL.blit Ei ([2, 3, 5, 7, 11, 13] : List Int) Try.underlying22 Try.sizeOf2 Try.zeroValue2 rfl rfl rfl [(0, .int .i64 2), (1, .int .i64 3), (2, .int .i64 5), (3, .int .i64 7), (4, .int .i64 11), (5, .int .i64 13)] rfl ⟨rfl, rfl, rfl, rfl, rfl, rfl, rfl, rfl, rfl, rfl, rfl, rfl, trivial⟩ rfl rfl fun s1 => ?_
  refine TL.move rfl rfl (v := .int .i64 p1) rfl ?_
  refine TL.call (R := G.slices_Contains_int64_int64.R) Try.call117 rfl rfl rfl (fun w hS => G.slices_Contains_int64_int64.calls w s1 ([2, 3, 5, 7, 11, 13] : List Int) p1 ((Rd.row 0 rfl) w hS)) ?_
  rintro r_1 _ _ ⟨rfl, rfl⟩
  refine TL.assign rfl rfl (v := .bool r_1) rfl ?_
  refine TL.done ?_
  exact TC.retF (Fin.body (fin1 (.inr rfl) rfl (.tmp rfl) [] rfl ⟨rfl, rfl⟩))

end Go.Proofs.Ytcombgcjgdkbiaa.G

/- slices.IndexFunc[[]int64,int64], as a pure function. -/
set_option linter.unusedVariables false
namespace Go.Proofs.Ytcombgcjgdkbiaa.G
open Go Go.Sx Go.Proofs

def slices_IndexFunc_int64_int64.b0 (s1 : List Int) (f2 : Int → Option Bool) : Int → Option (LR Int Int) := fun x1 => (bif (decide (x1 < (s1.length : Int))) then chk x1 s1.length ((f2 (gt s1 x1)).bind (fun r_1 => (bif r_1 then some (.ret (x1)) else some (.next (w64 (x1 + 1)))))) else some (.brk x1))

def slices_IndexFunc_int64_int64.f (s1 : List Int) (f2 : Int → Option Bool) : Option Int := (loop (slices_IndexFunc_int64_int64.b0 s1 f2) 0).bind (ln (fun x1 => some (-1)))

def slices_IndexFunc_int64_int64.R (r : Int) (v : Value) (L : List Asn) : Prop := v = .int .i64 r ∧ L = []

set_option maxRecDepth 100000 in
set_option maxHeartbeats 4000000 in
theorem slices_IndexFunc_int64_int64.calls (w : World) (s2 : SV) (s1 : List Int) (f1 : Nat) (fst1 : List Value) (cap1 : List Value) (f2 : Int → Option Bool) (h1 : Reads Ei (hp w) s2 s1) (hc1 : ∀ (args_ : Array Value) (w_ : World), (callFunc f1 args_).run Try.prog w_ = .ok (.enter f1 args_) w_) (hf1 : ∀ w_, Hle (hp w) (hp w_) → ∀ (x0_ : Int), ∀ r_, f2 x0_ = some r_ → Calls Try.prog f1 (fst1 ++ ([.int .i64 x0_] : List Value) ++ cap1).toArray w_ (Ret w_ (fun (v_ : Value) (L_ : List Asn) => v_ = .bool r_ ∧ L_ = []))) :
    ∀ r, slices_IndexFunc_int64_int64.f s1 f2 = some r → Calls Try.prog 123 #[SV.v s2, .func (.func f1) fst1.toArray cap1.toArray] w (Ret w (slices_IndexFunc_int64_int64.R r)) := by

  refine calls_T (n := 19) (Γ := [(0, SV.v s2), (1, .func (.func f1) fst1.toArray cap1.toArray)]) (R := slices_IndexFunc_int64_int64.R) Try.func123 rfl rfl (Nat.le_of_ble_eq_true rfl) ⟨rfl, rfl, trivial⟩ ?_
  unfold slices_IndexFunc_int64_int64.f
  refine TC.seq ?_
  refine TC.region ?_
  refine TL.assign rfl rfl (v := .int .i64 0) rfl ?_
  refine TL.done ?_
  refine TC.seq ?_
  refine TC.seq ?_
  refine TC.region ?_
  refine TL.move rfl rfl (v := SV.v s2) rfl ?_
  refine TL.len (Rd.old h1) Try.underlying22 rfl rfl rfl ?_
  refine TL.move rfl rfl (v := .int .i64 0) rfl ?_
  refine TL.done ?_
  refine TC.loopK (σ := Int) (γ := Unit) (Γ' := (fun x1 _ => [(0, SV.v s2), (1, .func (.func f1) fst1.toArray cap1.toArray), (7, .int .i64 (s1.length : Int)), (8, .int .i64 x1)])) (L' := (fun x1 _ => [])) (Γb := (fun x1 _ => [(0, SV.v s2), (1, .func (.func f1) fst1.toArray cap1.toArray), (7, .int .i64 (s1.length : Int)), (8, .int .i64 x1)])) (Lb := (fun x1 _ => [])) (0) (()) ⟨rfl, rfl, rfl, rfl, trivial⟩ [] rfl ?_ ?_
  · rintro x1 _
    refine TC.seq ?_
    refine TC.region ?_
    refine TL.bin .i64 x1 (s1.length : Int) rfl rfl rfl rfl (v := .bool (decide (x1 < (s1.length : Int)))) rfl ?_
    refine TL.done ?_
    refine TC.seq ?_
    refine TC.cond (b := (decide (x1 < (s1.length : Int)))) rfl (fun c1 => ?_) (fun c2 => ?_)
    · refine TC.skip ?_
      refine TC.seq ?_
      refine TC.block (NoEx.loop rfl NoEx.body) ?_
      refine TC.seq ?_
      refine TC.region ?_
      refine TL.move rfl rfl (v := .int .i64 x1) rfl ?_
      refine TL.assign rfl rfl (v := .int .i64 x1) rfl ?_
      refine TL.done ?_
      refine TC.seq ?_
      refine TC.region ?_
      refine TL.move rfl rfl (v := .func (.func f1) fst1.toArray cap1.toArray) rfl ?_
      refine TL.move rfl rfl (v := SV.v s2) rfl ?_
      refine TL.move rfl rfl (v := .int .i64 x1) rfl ?_
      refine TL.chk fun h2 => ?_
      refine TL.ixs x1 x1.toNat (Rd.old h1) h2 Try.underlying22 Try.sizeOf2 rfl rfl rfl rfl (by omega) ?_
      refine TL.loadE (Rd.old h1) Try.isAgg2 x1.toNat 0 (gt_spec h2) (v := .int .i64 (gt s1 x1)) rfl (by simp only [show Ei.sz = 1 from rfl]; omega) rfl rfl rfl ?_
      refine TL.callv (R := (fun r_ => (fun (v_ : Value) (L_ : List Asn) => v_ = .bool r_ ∧ L_ = []))) (vs := [.int .i64 (gt s1 x1)]) hc1 rfl rfl rfl rfl (fun w hS => hf1 w hS.iw (gt s1 x1)) ?_
      rintro r_1 _ _ ⟨rfl, rfl⟩
      refine TL.done ?_
      refine TC.cond (b := r_1) rfl (fun c3 => ?_) (fun c4 => ?_)
      · refine TC.seq ?_
        refine TC.region ?_
        refine TL.move rfl rfl (v := .int .i64 x1) rfl ?_
        refine TL.assign rfl rfl (v := .int .i64 x1) rfl ?_
        refine TL.done ?_
        exact TC.retF (Fin.loop Far.ret (Fin.body (fin1 (.inr rfl) rfl (.tmp rfl) [] rfl ⟨rfl, rfl⟩)))
      · refine TC.skip ?_
        refine TC.region ?_
        refine TL.bin .i64 x1 1 rfl rfl rfl rfl (v := .int .i64 (w64 (x1 + 1))) rfl ?_
        refine TL.move rfl rfl (v := .int .i64 (w64 (x1 + 1))) rfl ?_
        refine TL.done ?_
        exact TC.next ((w64 (x1 + 1))) (()) ⟨rfl, rfl, rfl, rfl, trivial⟩ [] rfl
    · exact TC.brk (x1) (()) ⟨rfl, rfl, rfl, rfl, trivial⟩ [] rfl
  · rintro x1 _
    refine TC.seq ?_
    refine TC.region ?_
    refine TL.assign rfl rfl (v := .int .i64 (-1)) rfl ?_
    refine TL.done ?_
    exact TC.retF (Fin.body (fin1 (.inr rfl) rfl (.tmp rfl) [] rfl ⟨rfl, rfl⟩))

end Go.Proofs.Ytcombgcjgdkbiaa.G

/- slices.ContainsFunc[[]int64,int64], as a pure function. -/
set_option linter.unusedVariables false
namespace Go.Proofs.Ytcombgcjgdkbiaa.G
open Go Go.Sx Go.Proofs

def slices_ContainsFunc_int64_int64.f (s1 : List Int) (f2 : Int → Option Bool) : Option Bool := (G.slices_IndexFunc_int64_int64.f s1 f2).bind (fun r_1 => some (decide (r_1 ≥ 0)))

def slices_ContainsFunc_int64_int64.R (r : Bool) (v : Value) (L : List Asn) : Prop := v = .bool r ∧ L = []

set_option maxRecDepth 100000 in
set_option maxHeartbeats 4000000 in
theorem slices_ContainsFunc_int64_int64.calls (w : World) (s2 : SV) (s1 : List Int) (f1 : Nat) (fst1 : List Value) (cap1 : List Value) (f2 : Int → Option Bool) (h1 : Reads Ei (hp w) s2 s1) (hc1 : ∀ (args_ : Array Value) (w_ : World), (callFunc f1 args_).run Try.prog w_ = .ok (.enter f1 args_) w_) (hf1 : ∀ w_, Hle (hp w) (hp w_) → ∀ (x0_ : Int), ∀ r_, f2 x0_ = some r_ → Calls Try.prog f1 (fst1 ++ ([.int .i64 x0_] : List Value) ++ cap1).toArray w_ (Ret w_ (fun (v_ : Value) (L_ : List Asn) => v_ = .bool r_ ∧ L_ = []))) :
    ∀ r, slices_ContainsFunc_int64_int64.f s1 f2 = some r → Calls Try.prog 99 #[SV.v s2, .func (.func f1) fst1.toArray cap1.toArray] w (Ret w (slices_ContainsFunc_int64_int64.R r)) := by

  refine calls_T (n := 9) (Γ := [(0, SV.v s2), (1, .func (.func f1) fst1.toArray cap1.toArray)]) (R := slices_ContainsFunc_int64_int64.R) Try.func99 rfl rfl (Nat.le_of_ble_eq_true rfl) ⟨rfl, rfl, trivial⟩ ?_
  unfold slices_ContainsFunc_int64_int64.f
  refine TC.seq ?_
  refine TC.region ?_
  refine TL.assign rfl rfl (v := .bool false) rfl ?_
  refine TL.done ?_
  refine TC.seq ?_
  refine TC.region ?_
  refine TL.move rfl rfl (v := SV.v s2) rfl ?_
  refine TL.move rfl rfl (v := .func (.func f1) fst1.toArray cap1.toArray) rfl ?_
  refine TL.call (R := G.slices_IndexFunc_int64_int64.R) Try.call123 rfl rfl rfl (fun w hS => G.slices_IndexFunc_int64_int64.calls w s2 s1 f1 fst1 cap1 f2 ((Rd.old h1) w hS) hc1 (fun w_ hle_ => hf1 w_ (hS.iw.trans hle_))) ?_
  rintro r_1 _ _ ⟨rfl, rfl⟩
  refine TL.bin .i64 r_1 0 rfl rfl rfl rfl (v := .bool (decide (r_1 ≥ 0))) rfl ?_
  refine TL.assign rfl rfl (v := .bool (decide (r_1 ≥ 0))) rfl ?_
  refine TL.done ?_
  exact TC.retF (Fin.body (fin1 (.inr rfl) rfl (.tmp rfl) [] rfl ⟨rfl, rfl⟩))

end Go.Proofs.Ytcombgcjgdkbiaa.G

/- impl.polynomialOk$1, as a pure function. -/
set_option linter.unusedVariables false
namespace Go.Proofs.Ytcombgcjgdkbiaa.G
open Go Go.Sx Go.Proofs

def impl_polynomialOk_1.f (c1 : Int) (c2 : Int) : Option Bool := (G.impl_in.f c1 0 (w64 (c2 - 1))).bind (fun r_1 => some (!r_1))

def impl_polynomialOk_1.R (r : Bool) (v : Value) (L : List Asn) : Prop := v = .bool r ∧ L = []

set_option maxRecDepth 100000 in
set_option maxHeartbeats 4000000 in
theorem impl_polynomialOk_1.calls (w : World) (c1 : Int) (b_1 : Nat) (c2 : Int) (h1 : At (hp w) b_1 [.one (.int .i64 c2)]) :
    ∀ r, impl_polynomialOk_1.f c1 c2 = some r → Calls Try.prog 109 #[.int .i64 c1, bp b_1 0] w (Ret w (impl_polynomialOk_1.R r)) := by

  refine calls_T (n := 9) (Γ := [(0, .int .i64 c1), (1, bp b_1 0)]) (R := impl_polynomialOk_1.R) Try.func109 rfl rfl (Nat.le_of_ble_eq_true rfl) ⟨rfl, rfl, trivial⟩ ?_
  unfold impl_polynomialOk_1.f
  refine TC.seq ?_
  refine TC.region ?_
  refine TL.assign rfl rfl (v := .bool false) rfl ?_
  refine TL.done ?_
  refine TC.seq ?_
  refine TC.region ?_
  refine TL.move rfl rfl (v := .int .i64 c1) rfl ?_
  refine TL.load1 0 (Src.at h1) Try.isAgg2 rfl rfl rfl rfl rfl ?_
  refine TL.bin .i64 c2 1 rfl rfl rfl rfl (v := .int .i64 (w64 (c2 - 1))) rfl ?_
  refine TL.call (R := G.impl_in.R) Try.call57 rfl rfl rfl (fun w hS => G.impl_in.calls w c1 0 (w64 (c2 - 1))) ?_
  rintro r_1 _ _ ⟨rfl, rfl⟩
  refine TL.not r_1 rfl rfl rfl ?_
  refine TL.assign rfl rfl (v := .bool (!r_1)) rfl ?_
  refine TL.done ?_
  exact TC.retF (Fin.body (fin1 (.inr rfl) rfl (.tmp rfl) [] rfl ⟨rfl, rfl⟩))

end Go.Proofs.Ytcombgcjgdkbiaa.G

/- impl.polynomialOk, as a pure function. -/
set_option linter.unusedVariables false
namespace Go.Proofs.Ytcombgcjgdkbiaa.G
open Go Go.Sx Go.Proofs

def impl_polynomialOk.f (p1 : Int) (list_1 : List Int) : Option Bool := (G.impl_isPrime.f p1).bind (fun r_1 => (bif r_1 then (G.impl_in.f (list_1.length : Int) 1 6).bind (fun r_2 => some r_2) else some false).bind (fun b_2 => (bif b_2 then (G.slices_ContainsFunc_int64_int64.f list_1 (fun x0_ => G.impl_polynomialOk_1.f x0_ p1)).bind (fun r_3 => some (!r_3)) else some false).bind (fun b_3 => some b_3)))

def impl_polynomialOk.R (r : Bool) (v : Value) (L : List Asn) : Prop := v = .bool r ∧ L = []

set_option maxRecDepth 100000 in
set_option maxHeartbeats 4000000 in
theorem impl_polynomialOk.calls (w : World) (p1 : Int) (s1 : SV) (list_1 : List Int) (h1 : Reads Ei (hp w) s1 list_1) :
    ∀ r, impl_polynomialOk.f p1 list_1 = some r → Calls Try.prog 52 #[.int .i64 p1, SV.v s1] w (Ret w (impl_polynomialOk.R r)) := by

  refine calls_T (n := 18) (Γ := [(0, .int .i64 p1), (1, SV.v s1)]) (R := impl_polynomialOk.R) Try.func52 rfl rfl (Nat.le_of_ble_eq_true rfl) ⟨rfl, rfl, trivial⟩ ?_
  unfold impl_polynomialOk.f
  refine TC.seq ?_
  refine TC.region ?_
  refine TL.box [.one (.int .i64 p1)] rfl rfl rfl rfl fun b_1 => ?_
  refine TL.assign rfl rfl (v := .bool false) rfl ?_
  refine TL.done ?_
  refine TC.seq ?_
  refine TC.region ?_
  refine TL.load1 0 (Src.box 0 rfl) Try.isAgg2 rfl rfl rfl rfl rfl ?_
  refine TL.call (R := G.impl_isPrime.R) Try.call76 rfl rfl rfl (fun w hS => G.impl_isPrime.calls w p1) ?_
  rintro r_1 _ _ ⟨rfl, rfl⟩
  refine TL.move rfl rfl (v := .bool r_1) rfl ?_
  refine TL.cutJ (σ := Bool) (γ := Unit) (Γ' := fun b_2 _ => [(11, .bool b_2), (0, .int .i64 p1), (1, SV.v s1), (2, bp b_1 0), (4, .bool false), (5, .int .i64 p1), (6, .bool r_1), (7, .bool r_1)]) (L' := fun _ _ => [box b_1 2 [.one (.int .i64 p1)]]) 4 ?_ ?_
  · refine TL.ifb (t := 7) (b := r_1) rfl (fun c1 => ?_) (fun c2 => ?_)
    · refine TL.move rfl rfl (v := SV.v s1) rfl ?_
      refine TL.len (Rd.old h1) Try.underlying22 rfl rfl rfl ?_
      refine TL.call (R := G.impl_in.R) Try.call57 rfl rfl rfl (fun w hS => G.impl_in.calls w (list_1.length : Int) 1 6) ?_
      rintro r_2 _ _ ⟨rfl, rfl⟩
      refine TL.pick rfl rfl (b := true) rfl (r := .bool r_2) rfl ?_
      refine TL.done ?_
      exact TC.nrm (r_2) () ⟨rfl, rfl, rfl, rfl, rfl, rfl, rfl, (by rw [c1]; rfl), trivial⟩ [0] rfl
    · refine TL.skip rfl rfl (by decide) ?_
      refine TL.skip rfl rfl (by decide) ?_
      refine TL.skip rfl rfl (by decide) ?_
      refine TL.pick rfl rfl (b := false) rfl (r := .bool false) rfl ?_
      refine TL.done ?_
      exact TC.nrm (false) () ⟨rfl, rfl, rfl, rfl, rfl, rfl, rfl, (by rw [c2]; rfl), trivial⟩ [0] rfl
  · rintro b_2 _
    refine TL.move rfl rfl (v := .bool b_2) rfl ?_
    refine TL.cutJ (σ := Bool) (γ := Unit) (Γ' := fun b_3 _ => [(17, .bool b_3), (0, .int .i64 p1), (1, SV.v s1), (2, bp b_1 0), (4, .bool false), (5, .int .i64 p1), (6, .bool r_1), (7, .bool r_1), (11, .bool b_2), (12, .bool b_2)]) (L' := fun _ _ => [box b_1 2 [.one (.int .i64 p1)]]) 5 ?_ ?_
    · refine TL.ifb (t := 12) (b := b_2) rfl (fun c3 => ?_) (fun c4 => ?_)
      · refine TL.move rfl rfl (v := SV.v s1) rfl ?_
        refine TL.makeFunc rfl rfl (us := []) (vs := [bp b_1 0]) rfl rfl ?_
        refine TL.call (R := G.slices_ContainsFunc_int64_int64.R) Try.call99 rfl rfl rfl (fun w hS => G.slices_ContainsFunc_int64_int64.calls w s1 list_1 109 [] [bp b_1 0] (fun x0_ => G.impl_polynomialOk_1.f x0_ p1) ((Rd.old h1) w hS) Try.call109 (fun w_ hle_ x0_ r_ hr_ => G.impl_polynomialOk_1.calls w_ x0_ b_1 p1 (((Src.box 0 rfl) w hS).mono hle_) r_ hr_)) ?_
        rintro r_3 _ _ ⟨rfl, rfl⟩
        refine TL.not r_3 rfl rfl rfl ?_
        refine TL.pick rfl rfl (b := true) rfl (r := .bool (!r_3)) rfl ?_
        refine TL.done ?_
        exact TC.nrm ((!r_3)) () ⟨rfl, rfl, rfl, rfl, rfl, rfl, rfl, rfl, rfl, (by rw [c3]; rfl), trivial⟩ [0] rfl
      · refine TL.skip rfl rfl (by decide) ?_
        refine TL.skip rfl rfl (by decide) ?_
        refine TL.skip rfl rfl (by decide) ?_
        refine TL.skip rfl rfl (by decide) ?_
        refine TL.pick rfl rfl (b := false) rfl (r := .bool false) rfl ?_
        refine TL.done ?_
        exact TC.nrm (false) () ⟨rfl, rfl, rfl, rfl, rfl, rfl, rfl, rfl, rfl, (by rw [c4]; rfl), trivial⟩ [0] rfl
    · rintro b_3 _
      refine TL.assign rfl rfl (v := .bool b_3) rfl ?_
      refine TL.done ?_
      exact TC.retF (Fin.body (fin1 (.inr rfl) rfl (.tmp rfl) [] rfl ⟨rfl, rfl⟩))

end Go.Proofs.Ytcombgcjgdkbiaa.G

/- impl.vector, as a pure function. -/
set_option linter.unusedVariables false
namespace Go.Proofs.Ytcombgcjgdkbiaa.G
open Go Go.Sx Go.Proofs

def impl_vector.b0 (row_1 : List Int) : (Nat → UInt8) × Int → Option (LB ((Nat → UInt8) × Int)) := fun p => match p with | (v_1, x1) => (bif (decide (x1 < (row_1.length : Int))) then chk x1 row_1.length (chk x1 6 (some (.next ((upd v_1 x1.toNat (UInt8.ofInt (gt row_1 x1))), (w64 (x1 + 1)))))) else some (.brk (v_1, x1)))

def impl_vector.f (row_1 : List Int) : Option (Nat → UInt8) := (loop1 (impl_vector.b0 row_1) ((fun _ => (0 : UInt8)), 0)).bind (fun p => match p with | (v_1, x1) => some v_1)

def impl_vector.R (r : Nat → UInt8) (v : Value) (L : List Asn) : Prop := v = sval [.arr 6 (enf u8v r)] ∧ L = []

set_option maxRecDepth 100000 in
set_option maxHeartbeats 4000000 in
theorem impl_vector.calls (w : World) (s1 : SV) (row_1 : List Int) (h1 : Reads Ei (hp w) s1 row_1) :
    ∀ r, impl_vector.f row_1 = some r → Calls Try.prog 86 #[SV.v s1] w (Ret w (impl_vector.R r)) := by

  refine calls_T (n := 20) (Γ := [(0, SV.v s1)]) (R := impl_vector.R) Try.func86 rfl rfl (Nat.le_of_ble_eq_true rfl) ⟨rfl, trivial⟩ ?_
  unfold impl_vector.f
  refine TC.seq ?_
  refine TC.region ?_
  refine TL.alloc [.arr 6 (enf u8v (fun _ => (0 : UInt8)))] rfl rfl Try.zeroValue43 rfl fun b_1 => ?_
  refine TL.done ?_
  refine TC.seq ?_
  refine TC.region ?_
  refine TL.buildA (segs0 := [.arr 6 (enf u8v (fun _ => (0 : UInt8)))]) (segs := [.arr 6 (enf u8v (fun _ => (0 : UInt8)))]) Try.underlying43 Try.sizeOf5 Try.zeroValue43 rfl [] rfl rfl rfl rfl ?_
  refine TL.alloc [.arr 6 (enf u8v (fun _ => (0 : UInt8)))] rfl rfl Try.zeroValue43 rfl fun b_2 => ?_
  refine TL.stM (news := [.arr 6 (enf u8v (fun _ => (0 : UInt8)))]) 0 0 1 rfl Try.sizeOf43 (ones_arr (fun _ => rfl) ones_nil) rfl rfl rfl rfl rfl rfl ?_
  refine TL.done ?_
  refine TC.seq ?_
  refine TC.seq ?_
  refine TC.region ?_
  refine TL.move rfl rfl (v := SV.v s1) rfl ?_
  refine TL.len (Rd.old h1) Try.underlying22 rfl rfl rfl ?_
  refine TL.move rfl rfl (v := .int .i64 0) rfl ?_
  refine TL.done ?_
  refine TC.loop1 (σ := (Nat → UInt8) × Int) (γ := Unit) (Γ' := (fun p q => match p, q with | (v_1, x1), _ => [(2, bp b_1 0), (3, bp b_2 0), (7, SV.v s1), (8, .int .i64 (row_1.length : Int)), (9, .int .i64 x1)])) (L' := (fun p q => match p, q with | (v_1, x1), _ => [box b_1 43 [.arr 6 (enf u8v (fun _ => (0 : UInt8)))], box b_2 43 [.arr 6 (enf u8v v_1)]])) (Γb := (fun p q => match p, q with | (v_1, x1), _ => [(2, bp b_1 0), (3, bp b_2 0), (7, SV.v s1), (8, .int .i64 (row_1.length : Int)), (9, .int .i64 x1)])) (Lb := (fun p q => match p, q with | (v_1, x1), _ => [box b_1 43 [.arr 6 (enf u8v (fun _ => (0 : UInt8)))], box b_2 43 [.arr 6 (enf u8v v_1)]])) (((fun _ => (0 : UInt8)), 0)) (()) ⟨rfl, rfl, rfl, rfl, rfl, trivial⟩ [1, 0] rfl ?_ ?_
  · rintro ⟨v_1, x1⟩ _
    refine TC.seq ?_
    refine TC.region ?_
    refine TL.bin .i64 x1 (row_1.length : Int) rfl rfl rfl rfl (v := .bool (decide (x1 < (row_1.length : Int)))) rfl ?_
    refine TL.done ?_
    refine TC.seq ?_
    refine TC.cond (b := (decide (x1 < (row_1.length : Int)))) rfl (fun c1 => ?_) (fun c2 => ?_)
    · refine TC.skip ?_
      refine TC.seq ?_
      refine TC.block (NoEx.loop1 rfl) ?_
      refine TC.seq ?_
      refine TC.region ?_
      refine TL.move rfl rfl (v := .int .i64 x1) rfl ?_
      refine TL.chk fun h2 => ?_
      refine TL.ixs x1 x1.toNat (Rd.old h1) h2 Try.underlying22 Try.sizeOf2 rfl rfl rfl rfl (by omega) ?_
      refine TL.loadE (Rd.old h1) Try.isAgg2 x1.toNat 0 (gt_spec h2) (v := .int .i64 (gt row_1 x1)) rfl (by simp only [show Ei.sz = 1 from rfl]; omega) rfl rfl rfl ?_
      refine TL.assign rfl rfl (v := .int .i64 x1) rfl ?_
      refine TL.assign rfl rfl (v := .int .i64 (gt row_1 x1)) rfl ?_
      refine TL.done ?_
      refine TC.region ?_
      refine TL.move rfl rfl (v := .int .i64 x1) rfl ?_
      refine TL.move rfl rfl (v := .int .i64 (gt row_1 x1)) rfl ?_
      refine TL.conv .i64 .u8 (gt row_1 x1) _ rfl rfl rfl Try.underlying2 Try.underlying5 (v := u8v (UInt8.ofInt (gt row_1 x1))) (conv_i64_u8 _) ?_
      refine TL.chk fun h3 => ?_
      refine TL.ixa x1 x1.toNat h3 Try.underlying43 Try.sizeOf5 rfl rfl rfl rfl (by omega) ?_
      refine TL.stA (e := u8v) (z := (UInt8.ofInt (gt row_1 x1))) 1 0 x1.toNat rfl Try.sizeOf5 rfl (by omega) (s := 0) rfl (by omega) rfl rfl rfl rfl rfl ?_
      refine TL.done ?_
      refine TC.region ?_
      refine TL.bin .i64 x1 1 rfl rfl rfl rfl (v := .int .i64 (w64 (x1 + 1))) rfl ?_
      refine TL.move rfl rfl (v := .int .i64 (w64 (x1 + 1))) rfl ?_
      refine TL.done ?_
      exact TC.next1 (((upd v_1 x1.toNat (UInt8.ofInt (gt row_1 x1))), (w64 (x1 + 1)))) (()) ⟨rfl, rfl, rfl, rfl, rfl, trivial⟩ [0, 0] rfl
    · exact TC.brk1 ((v_1, x1)) (()) ⟨rfl, rfl, rfl, rfl, rfl, trivial⟩ [0, 0] rfl
  · rintro ⟨v_1, x1⟩ _
    refine TC.seq ?_
    refine TC.region ?_
    refine TL.loadM 0 1 (Src.box 1 rfl) Try.isAgg43 Try.sizeOf43 (mid := [.arr 6 (enf u8v v_1)]) rfl rfl rfl rfl rfl rfl ?_
    refine TL.stM (news := [.arr 6 (enf u8v v_1)]) 0 0 1 rfl Try.sizeOf43 (ones_arr (fun _ => rfl) ones_nil) rfl rfl rfl rfl rfl rfl ?_
    refine TL.done ?_
    exact TC.retF (Fin.body (fin1 (.inr rfl) rfl (.cellN rfl (Src.box 0 rfl) Try.isAgg43 Try.sizeOf43 rfl) [] rfl ⟨rfl, rfl⟩))

end Go.Proofs.Ytcombgcjgdkbiaa.G

/- impl.rest, as a pure function. -/
set_option linter.unusedVariables false
namespace Go.Proofs.Ytcombgcjgdkbiaa.G
open Go Go.Sx Go.Proofs

def impl_rest.f (n_1 : Int) (p1 : Int) : Option Int := nz p1 (some (Int.tmod (w64 ((Int.tmod n_1 p1) + p1)) p1))

def impl_rest.R (r : Int) (v : Value) (L : List Asn) : Prop := v = .int .i64 r ∧ L = []

set_option maxRecDepth 100000 in
set_option maxHeartbeats 4000000 in
theorem impl_rest.calls (w : World) (n_1 : Int) (p1 : Int) :
    ∀ r, impl_rest.f n_1 p1 = some r → Calls Try.prog 128 #[.int .i64 n_1, .int .i64 p1] w (Ret w (impl_rest.R r)) := by

  refine calls_T (n := 12) (Γ := [(0, .int .i64 n_1), (1, .int .i64 p1)]) (R := impl_rest.R) Try.func128 rfl rfl (Nat.le_of_ble_eq_true rfl) ⟨rfl, rfl, trivial⟩ ?_
  unfold impl_rest.f
  refine TC.seq ?_
  refine TC.region ?_
  refine TL.assign rfl rfl (v := .int .i64 0) rfl ?_
  refine TL.done ?_
  refine TC.seq ?_
  refine TC.region ?_
  refine TL.move rfl rfl (v := .int .i64 n_1) rfl ?_
  refine TL.move rfl rfl (v := .int .i64 p1) rfl ?_
  refine TL.nz fun z1 => ?_
  refine TL.rem .i64 n_1 p1 z1 rfl rfl rfl rfl ?_
  refine TL.move rfl rfl (v := .int .i64 p1) rfl ?_
  refine TL.bin .i64 (Int.tmod n_1 p1) p1 rfl rfl rfl rfl (v := .int .i64 (w64 ((Int.tmod n_1 p1) + p1))) rfl ?_
  refine TL.move rfl rfl (v := .int .i64 p1) rfl ?_
  refine TL.rem .i64 (w64 ((Int.tmod n_1 p1) + p1)) p1 z1 rfl rfl rfl rfl ?_
  refine TL.assign rfl rfl (v := .int .i64 (Int.tmod (w64 ((Int.tmod n_1 p1) + p1)) p1)) rfl ?_
  refine TL.done ?_
  exact TC.retF (Fin.body (fin1 (.inr rfl) rfl (.tmp rfl) [] rfl ⟨rfl, rfl⟩))

end Go.Proofs.Ytcombgcjgdkbiaa.G

/- impl.lessTimes, as a pure function. -/
set_option linter.unusedVariables false
namespace Go.Proofs.Ytcombgcjgdkbiaa.G
open Go Go.Sx Go.Proofs

def impl_lessTimes.b0 (row_1 : List Int) (other1 : List Int) (by_1 : Int) (p1 : Int) : (List Int) × Int → Option (LB ((List Int) × Int)) := fun p => match p with | (out1, x1) => (bif (decide (x1 < (row_1.length : Int))) then chk x1 row_1.length (chk x1 other1.length ((G.impl_rest.f (w64 ((gt row_1 x1) - (w64 (by_1 * (gt other1 x1))))) p1).bind (fun r_1 => small (out1.length + ([r_1] : List Int).length) (some (.next ((out1 ++ ([r_1] : List Int)), (w64 (x1 + 1)))))))) else some (.brk (out1, x1)))

def impl_lessTimes.f (row_1 : List Int) (other1 : List Int) (by_1 : Int) (p1 : Int) : Option (List Int) := (loop1 (impl_lessTimes.b0 row_1 other1 by_1 p1) (([] : List Int), 0)).bind (fun p => match p with | (out1, x1) => some out1)

def impl_lessTimes.R (r : List Int) (v : Value) (L : List Asn) : Prop := ∃ (s0 : SV), v = SV.v s0 ∧ L = [row Ei 2 s0 r]

set_option maxRecDepth 100000 in
set_option maxHeartbeats 4000000 in
theorem impl_lessTimes.calls (w : World) (s1 : SV) (row_1 : List Int) (s2 : SV) (other1 : List Int) (by_1 : Int) (p1 : Int) (h1 : Reads Ei (hp w) s1 row_1) (h2 : Reads Ei (hp w) s2 other1) :
    ∀ r, impl_lessTimes.f row_1 other1 by_1 p1 = some r → Calls Try.prog 119 #[SV.v s1, SV.v s2, .int .i64 by_1, .int .i64 p1] w (Ret w (impl_lessTimes.R r)) := by

  refine calls_T (n := 35) (Γ := [(0, SV.v s1), (1, SV.v s2), (2, .int .i64 by_1), (3, .int .i64 p1)]) (R := impl_lessTimes.R) Try.func119 rfl rfl (Nat.le_of_ble_eq_true rfl) ⟨rfl, rfl, rfl, rfl, trivial⟩ ?_
  unfold impl_lessTimes.f
  refine TC.seq ?_
  refine TC.region ?_
  refine TL.assign rfl rfl (v := SV.v ⟨none, 0, 0⟩) rfl ?_
  refine TL.done ?_
  refine TC.seq ?_
  refine TC.region ?_
  refine TL.bslice0 Ei Try.underlying22 Try.sizeOf2 rfl rfl fun s3 => ?_
  refine TL.assign rfl rfl (v := SV.v s3) rfl ?_
  refine TL.done ?_
  refine TC.seq ?_
  refine TC.seq ?_
  refine TC.region ?_
  refine TL.move rfl rfl (v := SV.v s1) rfl ?_
  refine TL.len (Rd.old h1) Try.underlying22 rfl rfl rfl ?_
  refine TL.move rfl rfl (v := .int .i64 0) rfl ?_
  refine TL.done ?_
  refine TC.loop1 (σ := (List Int) × Int) (γ := SV) (Γ' := (fun p q => match p, q with | (out1, x1), s4 => [(1, SV.v s2), (2, .int .i64 by_1), (3, .int .i64 p1), (9, SV.v s4), (13, SV.v s1), (14, .int .i64 (row_1.length : Int)), (15, .int .i64 x1)])) (L' := (fun p q => match p, q with | (out1, x1), s4 => [row Ei 2 s4 out1])) (Γb := (fun p q => match p, q with | (out1, x1), s4 => [(1, SV.v s2), (2, .int .i64 by_1), (3, .int .i64 p1), (9, SV.v s4), (13, SV.v s1), (14, .int .i64 (row_1.length : Int)), (15, .int .i64 x1)])) (Lb := (fun p q => match p, q with | (out1, x1), s4 => [row Ei 2 s4 out1])) ((([] : List Int), 0)) (s3) ⟨rfl, rfl, rfl, rfl, rfl, rfl, rfl, trivial⟩ [0] rfl ?_ ?_
  · rintro ⟨out1, x1⟩ s4
    refine TC.seq ?_
    refine TC.region ?_
    refine TL.bin .i64 x1 (row_1.length : Int) rfl rfl rfl rfl (v := .bool (decide (x1 < (row_1.length : Int)))) rfl ?_
    refine TL.done ?_
    refine TC.seq ?_
    refine TC.cond (b := (decide (x1 < (row_1.length : Int)))) rfl (fun c1 => ?_) (fun c2 => ?_)
    · refine TC.skip ?_
      refine TC.seq ?_
      refine TC.block (NoEx.loop1 rfl) ?_
      refine TC.seq ?_
      refine TC.region ?_
      refine TL.move rfl rfl (v := .int .i64 x1) rfl ?_
      refine TL.chk fun h3 => ?_
      refine TL.ixs x1 x1.toNat (Rd.old h1) h3 Try.underlying22 Try.sizeOf2 rfl rfl rfl rfl (by omega) ?_
      refine TL.loadE (Rd.old h1) Try.isAgg2 x1.toNat 0 (gt_spec h3) (v := .int .i64 (gt row_1 x1)) rfl (by simp only [show Ei.sz = 1 from rfl]; omega) rfl rfl rfl ?_
      refine TL.assign rfl rfl (v := .int .i64 x1) rfl ?_
      refine TL.assign rfl rfl (v := .int .i64 (gt row_1 x1)) rfl ?_
      refine TL.done ?_
      refine TC.region ?_
      refine TL.move rfl rfl (v := SV.v s4) rfl ?_
      refine TL.move rfl rfl (v := .int .i64 (gt row_1 x1)) rfl ?_
      refine TL.move rfl rfl (v := .int .i64 by_1) rfl ?_
      refine TL.move rfl rfl (v := SV.v s2) rfl ?_
      refine TL.move rfl rfl (v := .int .i64 x1) rfl ?_
      refine TL.chk fun h4 => ?_
      refine TL.ixs x1 x1.toNat (Rd.old h2) h4 Try.underlying22 Try.sizeOf2 rfl rfl rfl rfl (by omega) ?_
      refine TL.loadE (Rd.old h2) Try.isAgg2 x1.toNat 0 (gt_spec h4) (v := .int .i64 (gt other1 x1)) rfl (by simp only [show Ei.sz = 1 from rfl]; omega) rfl rfl rfl ?_
      refine TL.bin .i64 by_1 (gt other1 x1) rfl rfl rfl rfl (v := .int .i64 (w64 (by_1 * (gt other1 x1)))) rfl ?_
      refine TL.bin .i64 (gt row_1 x1) (w64 (by_1 * (gt other1 x1))) rfl rfl rfl rfl (v := .int .i64 (w64 ((gt row_1 x1) - (w64 (by_1 * (gt other1 x1)))))) rfl ?_
      refine TL.move rfl rfl (v := .int .i64 p1) rfl ?_
      refine TL.call (R := G.impl_rest.R) Try.call128 rfl rfl rfl (fun w hS => G.impl_rest.calls w (w64 ((gt row_1 x1) - (w64 (by_1 * (gt other1 x1))))) p1) ?_
      rintro r_1 _ _ ⟨rfl, rfl⟩
      refine TL.blit Ei ([r_1] : List Int) Try.underlying22 Try.sizeOf2 Try.zeroValue2 rfl rfl rfl [(0, .int .i64 r_1)] rfl ⟨rfl, rfl, trivial⟩ rfl rfl fun s5 => ?_
      refine TL.small fun h5 => ?_
      refine TL.append 1 rfl (Rd.row 0 rfl) Try.underlying22 (info_of Try.type2) (zv := (Try.t2.zero.getD (.bool false))) rfl rfl rfl (by decide) h5 rfl rfl rfl rfl fun s6 => ?_
      refine TL.assign rfl rfl (v := SV.v s6) rfl ?_
      refine TL.done ?_
      refine TC.region ?_
      refine TL.bin .i64 x1 1 rfl rfl rfl rfl (v := .int .i64 (w64 (x1 + 1))) rfl ?_
      refine TL.move rfl rfl (v := .int .i64 (w64 (x1 + 1))) rfl ?_
      refine TL.done ?_
      exact TC.next1 (((out1 ++ ([r_1] : List Int)), (w64 (x1 + 1)))) (s6) ⟨rfl, rfl, rfl, rfl, rfl, rfl, rfl, trivial⟩ [1] rfl
    · exact TC.brk1 ((out1, x1)) (s4) ⟨rfl, rfl, rfl, rfl, rfl, rfl, rfl, trivial⟩ [0] rfl
  · rintro ⟨out1, x1⟩ s4
    refine TC.seq ?_
    refine TC.region ?_
    refine TL.move rfl rfl (v := SV.v s4) rfl ?_
    refine TL.assign rfl rfl (v := SV.v s4) rfl ?_
    refine TL.done ?_
    exact TC.retF (Fin.body (fin1 (.inr rfl) rfl (.tmp rfl) [0] rfl ⟨s4, rfl, rfl⟩))

end Go.Proofs.Ytcombgcjgdkbiaa.G

/- impl.shifted, as a pure function. -/
set_option linter.unusedVariables false
namespace Go.Proofs.Ytcombgcjgdkbiaa.G
open Go Go.Sx Go.Proofs

def impl_shifted.f (p1 : Int) (list_1 : List Int) (row_1 : List Int) : Option (List Int) := chk (w64 ((row_1.length : Int) - 1)) row_1.length (grd (decide (0 ≤ 0) && decide (0 ≤ (w64 ((row_1.length : Int) - 1))) && decide ((w64 ((row_1.length : Int) - 1)) ≤ (row_1.length : Int))) (small (([0] : List Int).length + ((row_1.drop 0).take (((w64 ((row_1.length : Int) - 1)).toNat) - 0)).length) ((G.impl_lessTimes.f (([0] : List Int) ++ ((row_1.drop 0).take (((w64 ((row_1.length : Int) - 1)).toNat) - 0))) list_1 (gt row_1 (w64 ((row_1.length : Int) - 1))) p1).bind (fun r_1 => some r_1))))

def impl_shifted.R (r : List Int) (v : Value) (L : List Asn) : Prop := ∃ (s0 : SV), v = SV.v s0 ∧ L = [row Ei 2 s0 r]

set_option maxRecDepth 100000 in
set_option maxHeartbeats 4000000 in
theorem impl_shifted.calls (w : World) (p1 : Int) (s1 : SV) (list_1 : List Int) (s2 : SV) (row_1 : List Int) (h1 : Reads Ei (hp w) s1 list_1) (h2 : Reads Ei (hp w) s2 row_1) :
    ∀ r, impl_shifted.f p1 list_1 row_1 = some r → Calls Try.prog 87 #[.int .i64 p1, SV.v s1, SV.v s2] w (Ret w (impl_shifted.R r)) := by

  refine calls_T (n := 28) (Γ := [(0, .int .i64 p1), (1, SV.v s1), (2, SV.v s2)]) (R := impl_shifted.R) Try.func87 rfl rfl (Nat.le_of_ble_eq_true rfl) ⟨rfl, rfl, rfl, trivial⟩ ?_
  unfold impl_shifted.f
  refine TC.seq ?_
  refine TC.region ?_
  refine TL.assign rfl rfl (v := SV.v ⟨none, 0, 0⟩) rfl ?_
  refine TL.done ?_
  refine TC.seq ?_
  refine TC.region ?_
  refine TL.move rfl rfl (v := SV.v s2) rfl ?_
  refine TL.move rfl rfl (v := SV.v s2) rfl ?_
  refine TL.len (Rd.old h2) Try.underlying22 rfl rfl rfl ?_
  refine TL.bin .i64 (row_1.length : Int) 1 rfl rfl rfl rfl (v := .int .i64 (w64 ((row_1.length : Int) - 1))) rfl ?_
  refine TL.chk fun h3 => ?_
  refine TL.ixs (w64 ((row_1.length : Int) - 1)) ((w64 ((row_1.length : Int) - 1)).toNat) (Rd.old h2) h3 Try.underlying22 Try.sizeOf2 rfl rfl rfl rfl (by omega) ?_
  refine TL.loadE (Rd.old h2) Try.isAgg2 (w64 ((row_1.length : Int) - 1)).toNat 0 (gt_spec h3) (v := .int .i64 (gt row_1 (w64 ((row_1.length : Int) - 1)))) rfl (by simp only [show Ei.sz = 1 from rfl]; omega) rfl rfl rfl ?_
  refine TL.blit Ei ([0] : List Int) Try.underlying22 Try.sizeOf2 Try.zeroValue2 rfl rfl rfl [(0, .int .i64 0)] rfl ⟨rfl, rfl, trivial⟩ rfl rfl fun s3 => ?_
  refine TL.assign rfl rfl (v := .int .i64 (gt row_1 (w64 ((row_1.length : Int) - 1)))) rfl ?_
  refine TL.assign rfl rfl (v := SV.v s3) rfl ?_
  refine TL.done ?_
  refine TC.seq ?_
  refine TC.region ?_
  refine TL.move rfl rfl (v := SV.v s3) rfl ?_
  refine TL.move rfl rfl (v := SV.v s2) rfl ?_
  refine TL.move rfl rfl (v := SV.v s2) rfl ?_
  refine TL.len (Rd.old h2) Try.underlying22 rfl rfl rfl ?_
  refine TL.bin .i64 (row_1.length : Int) 1 rfl rfl rfl rfl (v := .int .i64 (w64 ((row_1.length : Int) - 1))) rfl ?_
  refine TL.grd fun h4 => ?_
  refine TL.slice (li := none) (hi' := (some (w64 ((row_1.length : Int) - 1)))) (l := 0) (h := ((w64 ((row_1.length : Int) - 1)).toNat)) (Rd.old h2) Try.underlying22 Try.sizeOf2 rfl rfl (by have h_ := h4; simp only [Bool.and_eq_true, decide_eq_true_eq] at h_; first | rfl | (simp only [Option.getD_none, Option.getD_some]; omega)) (by have h_ := h4; simp only [Bool.and_eq_true, decide_eq_true_eq] at h_; first | rfl | (simp only [Option.getD_none, Option.getD_some]; omega)) (by have h_ := h4; simp only [Bool.and_eq_true, decide_eq_true_eq] at h_; omega) (by have h_ := h4; simp only [Bool.and_eq_true, decide_eq_true_eq] at h_; omega) rfl rfl rfl ?_
  refine TL.small fun h5 => ?_
  refine TL.append 0 rfl (Rd.cut (Rd.old h2) (by have h_ := h4; simp only [Bool.and_eq_true, decide_eq_true_eq] at h_; omega) (by have h_ := h4; simp only [Bool.and_eq_true, decide_eq_true_eq] at h_; omega)) Try.underlying22 (info_of Try.type2) (zv := (Try.t2.zero.getD (.bool false))) rfl rfl rfl (by decide) h5 rfl rfl rfl rfl fun s4 => ?_
  refine TL.assign rfl rfl (v := SV.v s4) rfl ?_
  refine TL.done ?_
  refine TC.seq ?_
  refine TC.region ?_
  refine TL.move rfl rfl (v := SV.v s4) rfl ?_
  refine TL.move rfl rfl (v := SV.v s1) rfl ?_
  refine TL.move rfl rfl (v := .int .i64 (gt row_1 (w64 ((row_1.length : Int) - 1)))) rfl ?_
  refine TL.move rfl rfl (v := .int .i64 p1) rfl ?_
  refine TL.call (R := G.impl_lessTimes.R) Try.call119 rfl rfl rfl (fun w hS => G.impl_lessTimes.calls w s4 (([0] : List Int) ++ ((row_1.drop 0).take (((w64 ((row_1.length : Int) - 1)).toNat) - 0))) s1 list_1 (gt row_1 (w64 ((row_1.length : Int) - 1))) p1 ((Rd.row 0 rfl) w hS) ((Rd.old h1) w hS)) ?_
  rintro r_1 _ _ ⟨s5, rfl, rfl⟩
  refine TL.assign rfl rfl (v := SV.v s5) rfl ?_
  refine TL.done ?_
  exact TC.retF (Fin.body (fin1 (.inr rfl) rfl (.tmp rfl) [0] rfl ⟨s5, rfl, rfl⟩))

end Go.Proofs.Ytcombgcjgdkbiaa.G

/- impl.PolynomialAlgebra, as a pure function. -/
set_option linter.unusedVariables false
namespace Go.Proofs.Ytcombgcjgdkbiaa.G
open Go Go.Sx Go.Proofs

def impl_PolynomialAlgebra.b0 (list_1 : List Int) (x1 : Int) (row_1 : List Int) : (Nat → UInt8) × Int → Option (LB ((Nat → UInt8) × Int)) := fun p => match p with | (a_2, x2) => (bif (decide (x2 < (list_1.length : Int))) then ((bif ((decide ((w64 (x1 - x2)) ≥ 0)) && (decide ((w64 (x1 - x2)) < (list_1.length : Int)))) then (G.impl_vector.f row_1).bind (fun r_2 => chk x2 6 (chk (w64 (x1 - x2)) 6 (some (updN a_2 (x2.toNat * 36 + (w64 (x1 - x2)).toNat * 6) 6 r_2)))) else some a_2)).bind (fun a_3 => some (.next (a_3, (w64 (x2 + 1))))) else some (.brk (a_2, x2)))

def impl_PolynomialAlgebra.b1 (list_1 : List Int) (p1 : Int) : (Nat → UInt8) × (List Int) × Int → Option (LB ((Nat → UInt8) × (List Int) × Int)) := fun p => match p with | (a_1, row_1, x1) => (bif (decide (x1 < (w64 ((w64 (2 * (list_1.length : Int))) - 1)))) then (loop1 (impl_PolynomialAlgebra.b0 list_1 x1 row_1) (a_1, 0)).bind (fun p => match p with | (a_2, x2) => (G.impl_shifted.f p1 list_1 row_1).bind (fun r_3 => some (.next (a_2, r_3, (w64 (x1 + 1)))))) else some (.brk (a_1, row_1, x1)))

def impl_PolynomialAlgebra.f (p1 : Int) (list_1 : List Int) : Option (Int × Int × (Nat → UInt8) × (Nat → UInt8) × Int) := (G.impl_polynomialOk.f p1 list_1).bind (fun r_1 => (bif (!r_1) then some (0, 0, (fun _ => (0 : UInt8)), (fun _ => (0 : UInt8)), 2) else chk (w64 ((list_1.length : Int) - 1)) 6 (small list_1.length (chk 0 ((List.replicate (list_1.length : Int).toNat (0 : Int)).length) ((loop1 (impl_PolynomialAlgebra.b1 list_1 p1) ((fun _ => (0 : UInt8)), ((List.replicate (list_1.length : Int).toNat (0 : Int)).set 0 1), 0)).bind (fun p => match p with | (a_1, row_1, x1) => some (p1, (list_1.length : Int), a_1, (upd (fun _ => (0 : UInt8)) ((w64 ((list_1.length : Int) - 1)).toNat) (1 : UInt8)), 0)))))))

def impl_PolynomialAlgebra.R (r : Int × Int × (Nat → UInt8) × (Nat → UInt8) × Int) (v : Value) (L : List Asn) : Prop := v = .tuple #[sval [.one (.int .i64 r.1), .one (.int .i64 r.2.1), .arr 216 (enf u8v r.2.2.1), .arr 6 (enf u8v r.2.2.2.1)], .int .i64 r.2.2.2.2] ∧ L = []

set_option maxRecDepth 100000 in
set_option maxHeartbeats 4000000 in
theorem impl_PolynomialAlgebra.calls (w : World) (p1 : Int) (s1 : SV) (list_1 : List Int) (h1 : Reads Ei (hp w) s1 list_1) :
    ∀ r, impl_PolynomialAlgebra.f p1 list_1 = some r → Calls Try.prog 34 #[.int .i64 p1, SV.v s1] w (Ret w (impl_PolynomialAlgebra.R r)) := by

  refine calls_T (n := 64) (Γ := [(0, .int .i64 p1), (1, SV.v s1)]) (R := impl_PolynomialAlgebra.R) Try.func34 rfl rfl (Nat.le_of_ble_eq_true rfl) ⟨rfl, rfl, trivial⟩ ?_
  unfold impl_PolynomialAlgebra.f
  refine TC.seq ?_
  refine TC.region ?_
  refine TL.alloc [.one (.int .i64 0), .one (.int .i64 0), .arr 216 (enf u8v (fun _ => (0 : UInt8))), .arr 6 (enf u8v (fun _ => (0 : UInt8)))] rfl rfl Try.zeroValue45 rfl fun b_1 => ?_
  refine TL.assign rfl rfl (v := .int .i64 0) rfl ?_
  refine TL.done ?_
  refine TC.seq ?_
  refine TC.seq ?_
  refine TC.region ?_
  refine TL.move rfl rfl (v := .int .i64 p1) rfl ?_
  refine TL.move rfl rfl (v := SV.v s1) rfl ?_
  refine TL.call (R := G.impl_polynomialOk.R) Try.call52 rfl rfl rfl (fun w hS => G.impl_polynomialOk.calls w p1 s1 list_1 ((Rd.old h1) w hS)) ?_
  rintro r_1 _ _ ⟨rfl, rfl⟩
  refine TL.not r_1 rfl rfl rfl ?_
  refine TL.done ?_
  refine TC.cond (b := (!r_1)) rfl (fun c1 => ?_) (fun c2 => ?_)
  · refine TC.seq ?_
    refine TC.region ?_
    refine TL.buildS (segs0 := [.one (.int .i64 0), .one (.int .i64 0), .arr 216 (enf u8v (fun _ => (0 : UInt8))), .arr 6 (enf u8v (fun _ => (0 : UInt8)))]) (segs := [.one (.int .i64 0), .one (.int .i64 0), .arr 216 (enf u8v (fun _ => (0 : UInt8))), .arr 6 (enf u8v (fun _ => (0 : UInt8)))]) [1, 1, 216, 6] Try.underlying45 ⟨Try.sizeOf2, Try.sizeOf2, Try.sizeOf42, Try.sizeOf43, trivial⟩ Try.zeroValue45 rfl [] rfl (fun pl hpl => by subst hpl; exact rfl) rfl rfl ?_
    refine TL.stM (news := [.one (.int .i64 0), .one (.int .i64 0), .arr 216 (enf u8v (fun _ => (0 : UInt8))), .arr 6 (enf u8v (fun _ => (0 : UInt8)))]) 0 0 4 rfl Try.sizeOf45 (ones_one rfl (ones_one rfl (ones_arr (fun _ => rfl) (ones_arr (fun _ => rfl) ones_nil)))) rfl rfl rfl rfl rfl rfl ?_
    refine TL.assign rfl rfl (v := .int .i64 2) rfl ?_
    refine TL.done ?_
    exact TC.retF (Fin.body (fin2 (.inr rfl) rfl (.cellN rfl (Src.box 0 rfl) Try.isAgg45 Try.sizeOf45 rfl) (.tmp rfl) [] rfl ⟨rfl, rfl⟩))
  · refine TC.skip ?_
    refine TC.seq ?_
    refine TC.region ?_
    refine TL.move rfl rfl (v := SV.v s1) rfl ?_
    refine TL.len (Rd.old h1) Try.underlying22 rfl rfl rfl ?_
    refine TL.assign rfl rfl (v := .int .i64 (list_1.length : Int)) rfl ?_
    refine TL.done ?_
    refine TC.seq ?_
    refine TC.region ?_
    refine TL.move rfl rfl (v := .int .i64 p1) rfl ?_
    refine TL.move rfl rfl (v := .int .i64 (list_1.length : Int)) rfl ?_
    refine TL.buildS (segs0 := [.one (.int .i64 0), .one (.int .i64 0), .arr 216 (enf u8v (fun _ => (0 : UInt8))), .arr 6 (enf u8v (fun _ => (0 : UInt8)))]) (segs := [.one (.int .i64 p1), .one (.int .i64 (list_1.length : Int)), .arr 216 (enf u8v (fun _ => (0 : UInt8))), .arr 6 (enf u8v (fun _ => (0 : UInt8)))]) [1, 1, 216, 6] Try.underlying45 ⟨Try.sizeOf2, Try.sizeOf2, Try.sizeOf42, Try.sizeOf43, trivial⟩ Try.zeroValue45 rfl [(0, .int .i64 p1), (1, .int .i64 (list_1.length : Int))] rfl (fun pl hpl => by subst hpl; exact fill_one 0 rfl rfl rfl rfl (fill_one 1 rfl rfl rfl rfl (rfl))) rfl rfl ?_
    refine TL.alloc [.one (.int .i64 0), .one (.int .i64 0), .arr 216 (enf u8v (fun _ => (0 : UInt8))), .arr 6 (enf u8v (fun _ => (0 : UInt8)))] rfl rfl Try.zeroValue45 rfl fun b_2 => ?_
    refine TL.stM (news := [.one (.int .i64 p1), .one (.int .i64 (list_1.length : Int)), .arr 216 (enf u8v (fun _ => (0 : UInt8))), .arr 6 (enf u8v (fun _ => (0 : UInt8)))]) 0 0 4 rfl Try.sizeOf45 (ones_one rfl (ones_one rfl (ones_arr (fun _ => rfl) (ones_arr (fun _ => rfl) ones_nil)))) rfl rfl rfl rfl rfl rfl ?_
    refine TL.done ?_
    refine TC.seq ?_
    refine TC.region ?_
    refine TL.move rfl rfl (v := .int .i64 (list_1.length : Int)) rfl ?_
    refine TL.bin .i64 (list_1.length : Int) 1 rfl rfl rfl rfl (v := .int .i64 (w64 ((list_1.length : Int) - 1))) rfl ?_
    refine TL.fa Try.underlying45 rfl Try.sizeOf43 rfl 218 rfl rfl rfl rfl ?_
    refine TL.chk fun h2 => ?_
    refine TL.ixa (w64 ((list_1.length : Int) - 1)) (218 + (w64 ((list_1.length : Int) - 1)).toNat) h2 Try.underlying43 Try.sizeOf5 rfl rfl rfl rfl (by omega) ?_
    refine TL.stA (e := u8v) (z := (1 : UInt8)) 0 3 ((w64 ((list_1.length : Int) - 1)).toNat) rfl Try.sizeOf5 rfl (by omega) (s := 218) rfl (by omega) rfl rfl rfl rfl rfl ?_
    refine TL.done ?_
    refine TC.seq ?_
    refine TC.region ?_
    refine TL.move rfl rfl (v := .int .i64 (list_1.length : Int)) rfl ?_
    refine TL.small fun h3 => ?_
    refine TL.mkslice Ei (0 : Int) (list_1.length : Int) Try.underlying22 (info_of Try.type2) (zv := (Try.t2.zero.getD (.bool false))) rfl rfl rfl (by simp [Ei, flat, Seg.cells]) (by decide) (by omega) (by omega) rfl rfl rfl rfl fun s2 => ?_
    refine TL.assign rfl rfl (v := SV.v s2) rfl ?_
    refine TL.done ?_
    refine TC.seq ?_
    refine TC.region ?_
    refine TL.move rfl rfl (v := SV.v s2) rfl ?_
    refine TL.chk fun h5 => ?_
    refine TL.ixs 0 0 (Rd.row 0 rfl) h5 Try.underlying22 Try.sizeOf2 rfl rfl rfl rfl rfl ?_
    refine TL.stE 0 (0) 1 (v := .int .i64 1) rfl Try.sizeOf2 rfl rfl rfl (by have h_ := h5; omega) rfl rfl rfl rfl ?_
    refine TL.done ?_
    refine TC.seq ?_
    refine TC.seq ?_
    refine TC.region ?_
    refine TL.move rfl rfl (v := .int .i64 (list_1.length : Int)) rfl ?_
    refine TL.bin .i64 2 (list_1.length : Int) rfl rfl rfl rfl (v := .int .i64 (w64 (2 * (list_1.length : Int)))) rfl ?_
    refine TL.bin .i64 (w64 (2 * (list_1.length : Int))) 1 rfl rfl rfl rfl (v := .int .i64 (w64 ((w64 (2 * (list_1.length : Int))) - 1))) rfl ?_
    refine TL.move rfl rfl (v := .int .i64 0) rfl ?_
    refine TL.done ?_
    refine TC.loop1 (σ := (Nat → UInt8) × (List Int) × Int) (γ := SV) (Γ' := (fun p q => match p, q with | (a_1, row_1, x1), s3 => [(0, .int .i64 p1), (1, SV.v s1), (4, bp b_1 0), (6, .int .i64 (list_1.length : Int)), (7, bp b_2 0), (8, SV.v s3), (32, .int .i64 (w64 ((w64 (2 * (list_1.length : Int))) - 1))), (33, .int .i64 x1)])) (L' := (fun p q => match p, q with | (a_1, row_1, x1), s3 => [box b_1 45 [.one (.int .i64 0), .one (.int .i64 0), .arr 216 (enf u8v (fun _ => (0 : UInt8))), .arr 6 (enf u8v (fun _ => (0 : UInt8)))], box b_2 45 [.one (.int .i64 p1), .one (.int .i64 (list_1.length : Int)), .arr 216 (enf u8v a_1), .arr 6 (enf u8v (upd (fun _ => (0 : UInt8)) ((w64 ((list_1.length : Int) - 1)).toNat) (1 : UInt8)))], row Ei 2 s3 row_1])) (Γb := (fun p q => match p, q with | (a_1, row_1, x1), s3 => [(0, .int .i64 p1), (1, SV.v s1), (4, bp b_1 0), (6, .int .i64 (list_1.length : Int)), (7, bp b_2 0), (8, SV.v s3), (32, .int .i64 (w64 ((w64 (2 * (list_1.length : Int))) - 1))), (33, .int .i64 x1)])) (Lb := (fun p q => match p, q with | (a_1, row_1, x1), s3 => [box b_1 45 [.one (.int .i64 0), .one (.int .i64 0), .arr 216 (enf u8v (fun _ => (0 : UInt8))), .arr 6 (enf u8v (fun _ => (0 : UInt8)))], box b_2 45 [.one (.int .i64 p1), .one (.int .i64 (list_1.length : Int)), .arr 216 (enf u8v a_1), .arr 6 (enf u8v (upd (fun _ => (0 : UInt8)) ((w64 ((list_1.length : Int) - 1)).toNat) (1 : UInt8)))], row Ei 2 s3 row_1])) (((fun _ => (0 : UInt8)), ((List.replicate (list_1.length : Int).toNat (0 : Int)).set 0 1), 0)) (s2) ⟨rfl, rfl, rfl, rfl, rfl, rfl, rfl, rfl, trivial⟩ [2, 1, 0] rfl ?_ ?_
    · rintro ⟨a_1, row_1, x1⟩ s3
      refine TC.seq ?_
      refine TC.region ?_
      refine TL.bin .i64 x1 (w64 ((w64 (2 * (list_1.length : Int))) - 1)) rfl rfl rfl rfl (v := .bool (decide (x1 < (w64 ((w64 (2 * (list_1.length : Int))) - 1))))) rfl ?_
      refine TL.done ?_
      refine TC.seq ?_
      refine TC.cond (b := (decide (x1 < (w64 ((w64 (2 * (list_1.length : Int))) - 1))))) rfl (fun c3 => ?_) (fun c4 => ?_)
      · refine TC.skip ?_
        refine TC.seq ?_
        refine TC.block (NoEx.loop1 rfl) ?_
        refine TC.seq ?_
        refine TC.region ?_
        refine TL.move rfl rfl (v := .int .i64 x1) rfl ?_
        refine TL.assign rfl rfl (v := .int .i64 x1) rfl ?_
        refine TL.done ?_
        refine TC.seq ?_
        refine TC.seq ?_
        refine TC.region ?_
        refine TL.move rfl rfl (v := .int .i64 (list_1.length : Int)) rfl ?_
        refine TL.move rfl rfl (v := .int .i64 0) rfl ?_
        refine TL.done ?_
        refine TC.loop1 (σ := (Nat → UInt8) × Int) (γ := Unit) (Γ' := (fun p q => match p, q with | (a_2, x2), _ => [(0, .int .i64 p1), (1, SV.v s1), (4, bp b_1 0), (6, .int .i64 (list_1.length : Int)), (7, bp b_2 0), (8, SV.v s3), (9, .int .i64 x1), (32, .int .i64 (w64 ((w64 (2 * (list_1.length : Int))) - 1))), (33, .int .i64 x1), (36, .int .i64 (list_1.length : Int)), (37, .int .i64 x2)])) (L' := (fun p q => match p, q with | (a_2, x2), _ => [box b_1 45 [.one (.int .i64 0), .one (.int .i64 0), .arr 216 (enf u8v (fun _ => (0 : UInt8))), .arr 6 (enf u8v (fun _ => (0 : UInt8)))], box b_2 45 [.one (.int .i64 p1), .one (.int .i64 (list_1.length : Int)), .arr 216 (enf u8v a_2), .arr 6 (enf u8v (upd (fun _ => (0 : UInt8)) ((w64 ((list_1.length : Int) - 1)).toNat) (1 : UInt8)))], row Ei 2 s3 row_1])) (Γb := (fun p q => match p, q with | (a_2, x2), _ => [(0, .int .i64 p1), (1, SV.v s1), (4, bp b_1 0), (6, .int .i64 (list_1.length : Int)), (7, bp b_2 0), (8, SV.v s3), (9, .int .i64 x1), (32, .int .i64 (w64 ((w64 (2 * (list_1.length : Int))) - 1))), (33, .int .i64 x1), (36, .int .i64 (list_1.length : Int)), (37, .int .i64 x2)])) (Lb := (fun p q => match p, q with | (a_2, x2), _ => [box b_1 45 [.one (.int .i64 0), .one (.int .i64 0), .arr 216 (enf u8v (fun _ => (0 : UInt8))), .arr 6 (enf u8v (fun _ => (0 : UInt8)))], box b_2 45 [.one (.int .i64 p1), .one (.int .i64 (list_1.length : Int)), .arr 216 (enf u8v a_2), .arr 6 (enf u8v (upd (fun _ => (0 : UInt8)) ((w64 ((list_1.length : Int) - 1)).toNat) (1 : UInt8)))], row Ei 2 s3 row_1])) ((a_1, 0)) (()) ⟨rfl, rfl, rfl, rfl, rfl, rfl, rfl, rfl, rfl, rfl, rfl, trivial⟩ [0, 0, 0] rfl ?_ ?_
        · rintro ⟨a_2, x2⟩ _
          refine TC.seq ?_
          refine TC.region ?_
          refine TL.bin .i64 x2 (list_1.length : Int) rfl rfl rfl rfl (v := .bool (decide (x2 < (list_1.length : Int)))) rfl ?_
          refine TL.done ?_
          refine TC.seq ?_
          refine TC.cond (b := (decide (x2 < (list_1.length : Int)))) rfl (fun c5 => ?_) (fun c6 => ?_)
          · refine TC.skip ?_
            refine TC.seq ?_
            refine TC.block (NoEx.loop1 rfl) ?_
            refine TC.seq ?_
            refine TC.region ?_
            refine TL.move rfl rfl (v := .int .i64 x2) rfl ?_
            refine TL.assign rfl rfl (v := .int .i64 x2) rfl ?_
            refine TL.done ?_
            refine TC.seq ?_
            refine TC.region ?_
            refine TL.move rfl rfl (v := .int .i64 x1) rfl ?_
            refine TL.move rfl rfl (v := .int .i64 x2) rfl ?_
            refine TL.bin .i64 x1 x2 rfl rfl rfl rfl (v := .int .i64 (w64 (x1 - x2))) rfl ?_
            refine TL.assign rfl rfl (v := .int .i64 (w64 (x1 - x2))) rfl ?_
            refine TL.done ?_
            refine TC.seq ?_
            refine TC.region ?_
            refine TL.move rfl rfl (v := .int .i64 (w64 (x1 - x2))) rfl ?_
            refine TL.bin .i64 (w64 (x1 - x2)) 0 rfl rfl rfl rfl (v := .bool (decide ((w64 (x1 - x2)) ≥ 0))) rfl ?_
            refine TL.move rfl rfl (v := .bool (decide ((w64 (x1 - x2)) ≥ 0))) rfl ?_
            refine TL.cutU 4 [(49, .bool ((decide ((w64 (x1 - x2)) ≥ 0)) && (decide ((w64 (x1 - x2)) < (list_1.length : Int))))), (0, .int .i64 p1), (1, SV.v s1), (4, bp b_1 0), (6, .int .i64 (list_1.length : Int)), (7, bp b_2 0), (8, SV.v s3), (9, .int .i64 x1), (32, .int .i64 (w64 ((w64 (2 * (list_1.length : Int))) - 1))), (33, .int .i64 x1), (36, .int .i64 (list_1.length : Int)), (37, .int .i64 x2), (38, .bool (decide (x2 < (list_1.length : Int)))), (39, .int .i64 x2), (10, .int .i64 x2), (40, .int .i64 x1), (41, .int .i64 x2), (42, .int .i64 (w64 (x1 - x2))), (11, .int .i64 (w64 (x1 - x2))), (43, .int .i64 (w64 (x1 - x2))), (44, .bool (decide ((w64 (x1 - x2)) ≥ 0))), (45, .bool (decide ((w64 (x1 - x2)) ≥ 0)))] [box b_1 45 [.one (.int .i64 0), .one (.int .i64 0), .arr 216 (enf u8v (fun _ => (0 : UInt8))), .arr 6 (enf u8v (fun _ => (0 : UInt8)))], box b_2 45 [.one (.int .i64 p1), .one (.int .i64 (list_1.length : Int)), .arr 216 (enf u8v a_2), .arr 6 (enf u8v (upd (fun _ => (0 : UInt8)) ((w64 ((list_1.length : Int) - 1)).toNat) (1 : UInt8)))], row Ei 2 s3 row_1] ?_ ?_
            · refine TL.cases (t := 45) (b := (decide ((w64 (x1 - x2)) ≥ 0))) rfl (fun c7 => ?_) (fun c8 => ?_)
              · refine TL.move rfl rfl (v := .int .i64 (w64 (x1 - x2))) rfl ?_
                refine TL.move rfl rfl (v := .int .i64 (list_1.length : Int)) rfl ?_
                refine TL.bin .i64 (w64 (x1 - x2)) (list_1.length : Int) rfl rfl rfl rfl (v := .bool (decide ((w64 (x1 - x2)) < (list_1.length : Int)))) rfl ?_
                refine TL.pick rfl rfl (b := true) rfl (r := .bool (decide ((w64 (x1 - x2)) < (list_1.length : Int)))) rfl ?_
                refine TL.done ?_
                exact TC.nrm () () ⟨(by rw [c7]; rfl), rfl, rfl, rfl, rfl, rfl, rfl, rfl, rfl, rfl, rfl, rfl, rfl, rfl, rfl, rfl, rfl, rfl, rfl, rfl, rfl, (by rw [c7]; rfl), trivial⟩ [0, 0, 0] rfl
              · refine TL.skip rfl rfl (by decide) ?_
                refine TL.skip rfl rfl (by decide) ?_
                refine TL.skip rfl rfl (by decide) ?_
                refine TL.pick rfl rfl (b := false) rfl (r := .bool false) rfl ?_
                refine TL.done ?_
                exact TC.nrm () () ⟨(by rw [c8]; rfl), rfl, rfl, rfl, rfl, rfl, rfl, rfl, rfl, rfl, rfl, rfl, rfl, rfl, rfl, rfl, rfl, rfl, rfl, rfl, rfl, (by rw [c8]; rfl), trivial⟩ [0, 0, 0] rfl
            · refine TL.done ?_
              refine TC.join1 (σ := (Nat → UInt8)) (γ := Unit) (Γ' := (fun a_3 _ => [(0, .int .i64 p1), (1, SV.v s1), (4, bp b_1 0), (6, .int .i64 (list_1.length : Int)), (7, bp b_2 0), (8, SV.v s3), (9, .int .i64 x1), (32, .int .i64 (w64 ((w64 (2 * (list_1.length : Int))) - 1))), (33, .int .i64 x1), (36, .int .i64 (list_1.length : Int)), (37, .int .i64 x2)])) (L' := (fun a_3 _ => [box b_1 45 [.one (.int .i64 0), .one (.int .i64 0), .arr 216 (enf u8v (fun _ => (0 : UInt8))), .arr 6 (enf u8v (fun _ => (0 : UInt8)))], box b_2 45 [.one (.int .i64 p1), .one (.int .i64 (list_1.length : Int)), .arr 216 (enf u8v a_3), .arr 6 (enf u8v (upd (fun _ => (0 : UInt8)) ((w64 ((list_1.length : Int) - 1)).toNat) (1 : UInt8)))], row Ei 2 s3 row_1])) ?_ ?_
              · refine TC.cond (b := ((decide ((w64 (x1 - x2)) ≥ 0)) && (decide ((w64 (x1 - x2)) < (list_1.length : Int))))) rfl (fun c9 => ?_) (fun c10 => ?_)
                · refine TC.wk (Γ' := [(0, .int .i64 p1), (1, SV.v s1), (4, bp b_1 0), (6, .int .i64 (list_1.length : Int)), (7, bp b_2 0), (8, SV.v s3), (9, .int .i64 x1), (32, .int .i64 (w64 ((w64 (2 * (list_1.length : Int))) - 1))), (33, .int .i64 x1), (36, .int .i64 (list_1.length : Int)), (37, .int .i64 x2), (38, .bool (decide (x2 < (list_1.length : Int)))), (39, .int .i64 x2), (10, .int .i64 x2), (40, .int .i64 x1), (41, .int .i64 x2), (42, .int .i64 (w64 (x1 - x2))), (11, .int .i64 (w64 (x1 - x2))), (43, .int .i64 (w64 (x1 - x2))), (44, .bool (decide ((w64 (x1 - x2)) ≥ 0))), (45, .bool (decide ((w64 (x1 - x2)) ≥ 0))), (49, .bool ((decide ((w64 (x1 - x2)) ≥ 0)) && (decide ((w64 (x1 - x2)) < (list_1.length : Int)))))]) ⟨rfl, rfl, rfl, rfl, rfl, rfl, rfl, rfl, rfl, rfl, rfl, rfl, rfl, rfl, rfl, rfl, rfl, rfl, rfl, rfl, rfl, rfl, trivial⟩ ?_
                  refine TC.bindE ?_
                  rintro r_2 hr1
                  refine TC.chk fun h6 => ?_
                  refine TC.chk fun h7 => ?_
                  refine TC.drawG [(0, .int .i64 p1), (1, SV.v s1), (4, bp b_1 0), (6, .int .i64 (list_1.length : Int)), (7, bp b_2 0), (8, SV.v s3), (9, .int .i64 x1), (32, .int .i64 (w64 ((w64 (2 * (list_1.length : Int))) - 1))), (33, .int .i64 x1), (36, .int .i64 (list_1.length : Int)), (37, .int .i64 x2), (38, .bool (decide (x2 < (list_1.length : Int)))), (39, .int .i64 x2), (10, .int .i64 x2), (40, .int .i64 x1), (41, .int .i64 x2), (42, .int .i64 (w64 (x1 - x2))), (11, .int .i64 (w64 (x1 - x2))), (43, .int .i64 (w64 (x1 - x2))), (44, .bool (decide ((w64 (x1 - x2)) ≥ 0))), (45, .bool (decide ((w64 (x1 - x2)) ≥ 0))), (49, .bool ((decide ((w64 (x1 - x2)) ≥ 0)) && (decide ((w64 (x1 - x2)) < (list_1.length : Int)))))] [] ⟨rfl, rfl, rfl, rfl, rfl, rfl, rfl, rfl, rfl, rfl, rfl, rfl, rfl, rfl, rfl, rfl, rfl, rfl, rfl, rfl, rfl, rfl, trivial⟩ trivial (fun l_ g1 => [box b_1 45 [.one (.int .i64 0), .one (.int .i64 0), .arr 216 (enf u8v (fun _ => (0 : UInt8))), .arr 6 (enf u8v (fun _ => (0 : UInt8)))], (bif nb l_ 7 then box b_2 45 [.one (.int .i64 p1), .one (.int .i64 (list_1.length : Int)), .arr 216 (enf u8v (updN a_2 (x2.toNat * 36 + (w64 (x1 - x2)).toNat * 6) 6 r_2)), .arr 6 (enf u8v (upd (fun _ => (0 : UInt8)) ((w64 ((list_1.length : Int) - 1)).toNat) (1 : UInt8)))] else box b_2 45 [.one (.int .i64 p1), .one (.int .i64 (list_1.length : Int)), .arr 216 (enf u8v a_2), .arr 6 (enf u8v (upd (fun _ => (0 : UInt8)) ((w64 ((list_1.length : Int) - 1)).toNat) (1 : UInt8)))]), row Ei 2 s3 row_1]) (fun g1 => [.int .i64 x2, .int .i64 (w64 (x1 - x2)), SV.v s3, sval [.arr 6 (enf u8v r_2)], bp b_2 2, bp b_2 (2 + x2.toNat * 36), bp b_2 (2 + (x2.toNat * 36 + (w64 (x1 - x2)).toNat * 6)), undef]) [[], [], [], [2], [], [0, 4], [0, 1, 2, 3, 4, 5], [0, 1, 2, 3, 4, 5, 6]] [[some false, none, none, none, none, some false, some false, some false], [none, some false, none, none, none, none, some false, some false], [none, none, some false, some false, none, none, some false, some false], [none, none, some true, some false, none, none, some false, some false], [none, none, none, none, some false, some false, some false, some false], [some true, none, none, none, some true, some false, some false, some false], [some true, some true, some true, some true, some true, some true, some false, some false], [some true, some true, some true, some true, some true, some true, some true, some false]] (by kernel_rfl) (fun _ => rfl) rfl rfl rfl rfl rfl (fun _ _ => ⟨⟨⟨⟨⟨⟨⟨⟨trivial, rfl⟩, rfl⟩, rfl⟩, rfl⟩, rfl⟩, rfl⟩, rfl⟩, rfl⟩) 0 [0, 0, 0] (fun _ => rfl) ?_ ?_
                  · refine ⟨rfl, ?_, rfl, ?_, rfl, ?_, rfl, ?_, rfl, ?_, rfl, ?_, rfl, ?_, rfl, ?_, trivial⟩
                    · intro b1_ b2_ b3_ b4_ g1
                      refine TL.move rfl rfl (v := .int .i64 x2) rfl ?_
                      refine TL.done ?_
                      exact TC.nrm () [] ⟨rfl, trivial⟩ [0, 0, 0] rfl
                    · intro b0_ b2_ b3_ b4_ b5_ g1
                      refine TL.move rfl rfl (v := .int .i64 (w64 (x1 - x2))) rfl ?_
                      refine TL.done ?_
                      exact TC.nrm () [] ⟨rfl, trivial⟩ [0, 0, 0] rfl
                    · intro b0_ b1_ b4_ b5_ g1
                      refine TL.move rfl rfl (v := SV.v s3) rfl ?_
                      refine TL.done ?_
                      exact TC.nrm () [] ⟨rfl, trivial⟩ [0, 0, 0] rfl
                    · intro b0_ b1_ b4_ b5_ g1
                      refine TL.asL [box b_1 45 [.one (.int .i64 0), .one (.int .i64 0), .arr 216 (enf u8v (fun _ => (0 : UInt8))), .arr 6 (enf u8v (fun _ => (0 : UInt8)))], box b_2 45 [.one (.int .i64 p1), .one (.int .i64 (list_1.length : Int)), .arr 216 (enf u8v a_2), .arr 6 (enf u8v (upd (fun _ => (0 : UInt8)) ((w64 ((list_1.length : Int) - 1)).toNat) (1 : UInt8)))], row Ei 2 s3 row_1] rfl ?_
                      refine TL.callH (R := G.impl_vector.R) hr1 Try.call86 rfl rfl rfl (fun w hS => G.impl_vector.calls w s3 row_1 ((Rd.row 2 rfl) w hS)) ?_
                      rintro _ _ ⟨rfl, rfl⟩
                      refine TL.done ?_
                      exact TC.nrm () [] ⟨rfl, trivial⟩ [0, 0, 0] rfl
                    · intro b0_ b1_ b2_ b3_ g1
                      refine TL.asL [box b_1 45 [.one (.int .i64 0), .one (.int .i64 0), .arr 216 (enf u8v (fun _ => (0 : UInt8))), .arr 6 (enf u8v (fun _ => (0 : UInt8)))], box b_2 45 [.one (.int .i64 p1), .one (.int .i64 (list_1.length : Int)), .arr 216 (enf u8v a_2), .arr 6 (enf u8v (upd (fun _ => (0 : UInt8)) ((w64 ((list_1.length : Int) - 1)).toNat) (1 : UInt8)))], row Ei 2 s3 row_1] rfl ?_
                      refine TL.fa Try.underlying45 rfl Try.sizeOf42 rfl 2 rfl rfl rfl rfl ?_
                      refine TL.done ?_
                      exact TC.nrm () [] ⟨rfl, trivial⟩ [0, 0, 0] rfl
                    · intro b1_ b2_ b3_ g1
                      refine TL.asL [box b_1 45 [.one (.int .i64 0), .one (.int .i64 0), .arr 216 (enf u8v (fun _ => (0 : UInt8))), .arr 6 (enf u8v (fun _ => (0 : UInt8)))], box b_2 45 [.one (.int .i64 p1), .one (.int .i64 (list_1.length : Int)), .arr 216 (enf u8v a_2), .arr 6 (enf u8v (upd (fun _ => (0 : UInt8)) ((w64 ((list_1.length : Int) - 1)).toNat) (1 : UInt8)))], row Ei 2 s3 row_1] rfl ?_
                      refine TL.ixa x2 (2 + x2.toNat * 36) h6 Try.underlying42 Try.sizeOf33 rfl rfl rfl rfl (by omega) ?_
                      refine TL.done ?_
                      exact TC.nrm () [] ⟨rfl, trivial⟩ [0, 0, 0] rfl
                    · intro g1
                      refine TL.asL [box b_1 45 [.one (.int .i64 0), .one (.int .i64 0), .arr 216 (enf u8v (fun _ => (0 : UInt8))), .arr 6 (enf u8v (fun _ => (0 : UInt8)))], box b_2 45 [.one (.int .i64 p1), .one (.int .i64 (list_1.length : Int)), .arr 216 (enf u8v a_2), .arr 6 (enf u8v (upd (fun _ => (0 : UInt8)) ((w64 ((list_1.length : Int) - 1)).toNat) (1 : UInt8)))], row Ei 2 s3 row_1] rfl ?_
                      refine TL.ixa (w64 (x1 - x2)) (2 + (x2.toNat * 36 + (w64 (x1 - x2)).toNat * 6)) h7 Try.underlying33 Try.sizeOf32 rfl rfl rfl rfl (by omega) ?_
                      refine TL.done ?_
                      exact TC.nrm () [] ⟨rfl, trivial⟩ [0, 0, 0] rfl
                    · intro g1
                      refine TL.asL [box b_1 45 [.one (.int .i64 0), .one (.int .i64 0), .arr 216 (enf u8v (fun _ => (0 : UInt8))), .arr 6 (enf u8v (fun _ => (0 : UInt8)))], box b_2 45 [.one (.int .i64 p1), .one (.int .i64 (list_1.length : Int)), .arr 216 (enf u8v a_2), .arr 6 (enf u8v (upd (fun _ => (0 : UInt8)) ((w64 ((list_1.length : Int) - 1)).toNat) (1 : UInt8)))], row Ei 2 s3 row_1] rfl ?_
                      refine TL.stS (e := u8v) 1 2 (x2.toNat * 36 + (w64 (x1 - x2)).toNat * 6) rfl Try.sizeOf32 (fun _ => rfl) rfl (by omega) (s := 2) rfl (by omega) rfl rfl rfl ?_
                      refine TL.done ?_
                      exact TC.nrm () [] trivial [0, 0, 0] rfl
                  · intro g1
                    refine TC.asL [box b_1 45 [.one (.int .i64 0), .one (.int .i64 0), .arr 216 (enf u8v (fun _ => (0 : UInt8))), .arr 6 (enf u8v (fun _ => (0 : UInt8)))], box b_2 45 [.one (.int .i64 p1), .one (.int .i64 (list_1.length : Int)), .arr 216 (enf u8v (updN a_2 (x2.toNat * 36 + (w64 (x1 - x2)).toNat * 6) 6 r_2)), .arr 6 (enf u8v (upd (fun _ => (0 : UInt8)) ((w64 ((list_1.length : Int) - 1)).toNat) (1 : UInt8)))], row Ei 2 s3 row_1] rfl ?_
                    exact TC.nrm ((updN a_2 (x2.toNat * 36 + (w64 (x1 - x2)).toNat * 6) 6 r_2)) (()) ⟨rfl, rfl, rfl, rfl, rfl, rfl, rfl, rfl, rfl, rfl, rfl, trivial⟩ [0, 0, 0] rfl
                · refine TC.skip ?_
                  exact TC.nrm (a_2) (()) ⟨rfl, rfl, rfl, rfl, rfl, rfl, rfl, rfl, rfl, rfl, rfl, trivial⟩ [0, 0, 0] rfl
              · rintro a_3 _
                refine TC.region ?_
                refine TL.bin .i64 x2 1 rfl rfl rfl rfl (v := .int .i64 (w64 (x2 + 1))) rfl ?_
                refine TL.move rfl rfl (v := .int .i64 (w64 (x2 + 1))) rfl ?_
                refine TL.done ?_
                exact TC.next1 ((a_3, (w64 (x2 + 1)))) (()) ⟨rfl, rfl, rfl, rfl, rfl, rfl, rfl, rfl, rfl, rfl, rfl, trivial⟩ [0, 0, 0] rfl
          · exact TC.brk1 ((a_2, x2)) (()) ⟨rfl, rfl, rfl, rfl, rfl, rfl, rfl, rfl, rfl, rfl, rfl, trivial⟩ [0, 0, 0] rfl
        · rintro ⟨a_2, x2⟩ _
          refine TC.region ?_
          refine TL.move rfl rfl (v := .int .i64 p1) rfl ?_
          refine TL.move rfl rfl (v := SV.v s1) rfl ?_
          refine TL.move rfl rfl (v := SV.v s3) rfl ?_
          refine TL.call (R := G.impl_shifted.R) Try.call87 rfl rfl rfl (fun w hS => G.impl_shifted.calls w p1 s1 list_1 s3 row_1 ((Rd.old h1) w hS) ((Rd.row 2 rfl) w hS)) ?_
          rintro r_3 _ _ ⟨s4, rfl, rfl⟩
          refine TL.assign rfl rfl (v := SV.v s4) rfl ?_
          refine TL.done ?_
          refine TC.region ?_
          refine TL.bin .i64 x1 1 rfl rfl rfl rfl (v := .int .i64 (w64 (x1 + 1))) rfl ?_
          refine TL.move rfl rfl (v := .int .i64 (w64 (x1 + 1))) rfl ?_
          refine TL.done ?_
          exact TC.next1 ((a_2, r_3, (w64 (x1 + 1)))) (s4) ⟨rfl, rfl, rfl, rfl, rfl, rfl, rfl, rfl, trivial⟩ [1, 1, 0] rfl
      · exact TC.brk1 ((a_1, row_1, x1)) (s3) ⟨rfl, rfl, rfl, rfl, rfl, rfl, rfl, rfl, trivial⟩ [0, 0, 0] rfl
    · rintro ⟨a_1, row_1, x1⟩ s3
      refine TC.seq ?_
      refine TC.region ?_
      refine TL.loadM 0 4 (Src.box 1 rfl) Try.isAgg45 Try.sizeOf45 (mid := [.one (.int .i64 p1), .one (.int .i64 (list_1.length : Int)), .arr 216 (enf u8v a_1), .arr 6 (enf u8v (upd (fun _ => (0 : UInt8)) ((w64 ((list_1.length : Int) - 1)).toNat) (1 : UInt8)))]) rfl rfl rfl rfl rfl rfl ?_
      refine TL.stM (news := [.one (.int .i64 p1), .one (.int .i64 (list_1.length : Int)), .arr 216 (enf u8v a_1), .arr 6 (enf u8v (upd (fun _ => (0 : UInt8)) ((w64 ((list_1.length : Int) - 1)).toNat) (1 : UInt8)))]) 0 0 4 rfl Try.sizeOf45 (ones_one rfl (ones_one rfl (ones_arr (fun _ => rfl) (ones_arr (fun _ => rfl) ones_nil)))) rfl rfl rfl rfl rfl rfl ?_
      refine TL.assign rfl rfl (v := .int .i64 0) rfl ?_
      refine TL.done ?_
      exact TC.retF (Fin.body (fin2 (.inr rfl) rfl (.cellN rfl (Src.box 0 rfl) Try.isAgg45 Try.sizeOf45 rfl) (.tmp rfl) [] rfl ⟨rfl, rfl⟩))

end Go.Proofs.Ytcombgcjgdkbiaa.G

/- laws.FnExactPolynomialAlgebra, as a pure function. -/
set_option linter.unusedVariables false
namespace Go.Proofs.Ytcombgcjgdkbiaa.G
open Go Go.Sx Go.Proofs

def laws_FnExactPolynomialAlgebra.f (aP1 : Int) (aList1 : List Int) : Option Bool := (bif (decide ((aList1.length : Int) > 1048576)) then some true else (G.laws_toInt64S.f aList1).bind (fun r_1 => (G.spec_PolynomialAlgebra.f aP1 r_1).bind (fun p => match p with | (r_2, r_3, r_4, r_5, r_6) => (G.laws_toInt64S.f aList1).bind (fun r_7 => (G.impl_PolynomialAlgebra.f aP1 r_7).bind (fun p => match p with | (r_8, r_9, r_10, r_11, r_12) => (G.laws_eqAlgebra.f r_8 r_9 r_10 r_11 r_2 r_3 r_4 r_5).bind (fun r_13 => (bif ((!r_13) || (r_12 != r_6)) then some false else (G.laws_toInt64S.f aList1).bind (fun r_14 => (G.laws_eqInt64S.f r_7 r_14).bind (fun r_15 => (bif (!r_15) then some false else some true))))))))))

def laws_FnExactPolynomialAlgebra.R (r : Bool) (v : Value) (L : List Asn) : Prop := v = .bool r ∧ L = []

set_option maxRecDepth 100000 in
set_option maxHeartbeats 4000000 in
theorem laws_FnExactPolynomialAlgebra.calls (w : World) (aP1 : Int) (s1 : SV) (aList1 : List Int) (h1 : Reads Ei (hp w) s1 aList1) :
    ∀ r, laws_FnExactPolynomialAlgebra.f aP1 aList1 = some r → Calls Try.prog 9 #[.int .i64 aP1, SV.v s1] w (Ret w (laws_FnExactPolynomialAlgebra.R r)) := by

  refine calls_T (n := 42) (Γ := [(0, .int .i64 aP1), (1, SV.v s1)]) (R := laws_FnExactPolynomialAlgebra.R) Try.func9 rfl rfl (Nat.le_of_ble_eq_true rfl) ⟨rfl, rfl, trivial⟩ ?_
  unfold laws_FnExactPolynomialAlgebra.f
  refine TC.seq ?_
  refine TC.region ?_
  refine TL.assign rfl rfl (v := .bool false) rfl ?_
  refine TL.done ?_
  refine TC.seq ?_
  refine TC.seq ?_
  refine TC.region ?_
  refine TL.move rfl rfl (v := SV.v s1) rfl ?_
  refine TL.len (Rd.old h1) Try.underlying22 rfl rfl rfl ?_
  refine TL.bin .i64 (aList1.length : Int) 1048576 rfl rfl rfl rfl (v := .bool (decide ((aList1.length : Int) > 1048576))) rfl ?_
  refine TL.done ?_
  refine TC.cond (b := (decide ((aList1.length : Int) > 1048576))) rfl (fun c1 => ?_) (fun c2 => ?_)
  · refine TC.seq ?_
    refine TC.region ?_
    refine TL.assign rfl rfl (v := .bool true) rfl ?_
    refine TL.done ?_
    exact TC.retF (Fin.body (fin1 (.inr rfl) rfl (.tmp rfl) [] rfl ⟨rfl, rfl⟩))
  · refine TC.skip ?_
    refine TC.seq ?_
    refine TC.region ?_
    refine TL.move rfl rfl (v := .int .i64 aP1) rfl ?_
    refine TL.move rfl rfl (v := SV.v s1) rfl ?_
    refine TL.call (R := G.laws_toInt64S.R) Try.call16 rfl rfl rfl (fun w hS => G.laws_toInt64S.calls w s1 aList1 ((Rd.old h1) w hS)) ?_
    rintro r_1 _ _ ⟨s2, rfl, rfl⟩
    refine TL.call (R := G.spec_PolynomialAlgebra.R) Try.call33 rfl rfl rfl (fun w hS => G.spec_PolynomialAlgebra.calls w aP1 s2 r_1 ((Rd.row 0 rfl) w hS)) ?_
    rintro ⟨r_2, r_3, r_4, r_5, r_6⟩ _ _ ⟨rfl, rfl⟩
    refine TL.move rfl rfl (v := .tuple #[sval [.one (.int .i64 r_2), .one (.int .i64 r_3), .arr 216 (enf u8v r_4), .arr 6 (enf u8v r_5)], .int .i64 r_6]) rfl ?_
    refine TL.extract rfl rfl rfl (v := sval [.one (.int .i64 r_2), .one (.int .i64 r_3), .arr 216 (enf u8v r_4), .arr 6 (enf u8v r_5)]) rfl ?_
    refine TL.extract rfl rfl rfl (v := .int .i64 r_6) rfl ?_
    refine TL.alloc [.one (.int .i64 0), .one (.int .i64 0), .arr 216 (enf u8v (fun _ => (0 : UInt8))), .arr 6 (enf u8v (fun _ => (0 : UInt8)))] rfl rfl Try.zeroValue45 rfl fun b_1 => ?_
    refine TL.stM (news := [.one (.int .i64 r_2), .one (.int .i64 r_3), .arr 216 (enf u8v r_4), .arr 6 (enf u8v r_5)]) 0 0 4 rfl Try.sizeOf45 (ones_one rfl (ones_one rfl (ones_arr (fun _ => rfl) (ones_arr (fun _ => rfl) ones_nil)))) rfl rfl rfl rfl rfl rfl ?_
    refine TL.assign rfl rfl (v := .int .i64 r_6) rfl ?_
    refine TL.done ?_
    refine TC.seq ?_
    refine TC.region ?_
    refine TL.move rfl rfl (v := SV.v s1) rfl ?_
    refine TL.call (R := G.laws_toInt64S.R) Try.call16 rfl rfl rfl (fun w hS => G.laws_toInt64S.calls w s1 aList1 ((Rd.old h1) w hS)) ?_
    rintro r_7 _ _ ⟨s3, rfl, rfl⟩
    refine TL.assign rfl rfl (v := SV.v s3) rfl ?_
    refine TL.done ?_
    refine TC.seq ?_
    refine TC.region ?_
    refine TL.move rfl rfl (v := .int .i64 aP1) rfl ?_
    refine TL.move rfl rfl (v := SV.v s3) rfl ?_
    refine TL.call (R := G.impl_PolynomialAlgebra.R) Try.call34 rfl rfl rfl (fun w hS => G.impl_PolynomialAlgebra.calls w aP1 s3 r_7 ((Rd.row 0 rfl) w hS)) ?_
    rintro ⟨r_8, r_9, r_10, r_11, r_12⟩ _ _ ⟨rfl, rfl⟩
    refine TL.move rfl rfl (v := .tuple #[sval [.one (.int .i64 r_8), .one (.int .i64 r_9), .arr 216 (enf u8v r_10), .arr 6 (enf u8v r_11)], .int .i64 r_12]) rfl ?_
    refine TL.extract rfl rfl rfl (v := sval [.one (.int .i64 r_8), .one (.int .i64 r_9), .arr 216 (enf u8v r_10), .arr 6 (enf u8v r_11)]) rfl ?_
    refine TL.extract rfl rfl rfl (v := .int .i64 r_12) rfl ?_
    refine TL.alloc [.one (.int .i64 0), .one (.int .i64 0), .arr 216 (enf u8v (fun _ => (0 : UInt8))), .arr 6 (enf u8v (fun _ => (0 : UInt8)))] rfl rfl Try.zeroValue45 rfl fun b_2 => ?_
    refine TL.stM (news := [.one (.int .i64 r_8), .one (.int .i64 r_9), .arr 216 (enf u8v r_10), .arr 6 (enf u8v r_11)]) 0 0 4 rfl Try.sizeOf45 (ones_one rfl (ones_one rfl (ones_arr (fun _ => rfl) (ones_arr (fun _ => rfl) ones_nil)))) rfl rfl rfl rfl rfl rfl ?_
    refine TL.assign rfl rfl (v := .int .i64 r_12) rfl ?_
    refine TL.done ?_
    refine TC.seq ?_
    refine TC.seq ?_
    refine TC.region ?_
    refine TL.loadM 0 4 (Src.box 0 rfl) Try.isAgg45 Try.sizeOf45 (mid := [.one (.int .i64 r_8), .one (.int .i64 r_9), .arr 216 (enf u8v r_10), .arr 6 (enf u8v r_11)]) rfl rfl rfl rfl rfl rfl ?_
    refine TL.loadM 0 4 (Src.box 2 rfl) Try.isAgg45 Try.sizeOf45 (mid := [.one (.int .i64 r_2), .one (.int .i64 r_3), .arr 216 (enf u8v r_4), .arr 6 (enf u8v r_5)]) rfl rfl rfl rfl rfl rfl ?_
    refine TL.call (R := G.laws_eqAlgebra.R) Try.call32 rfl rfl rfl (fun w hS => G.laws_eqAlgebra.calls w r_8 r_9 r_10 r_11 r_2 r_3 r_4 r_5) ?_
    rintro r_13 _ _ ⟨rfl, rfl⟩
    refine TL.not r_13 rfl rfl rfl ?_
    refine TL.move rfl rfl (v := .bool (!r_13)) rfl ?_
    refine TL.cutU 4 [(36, .bool ((!r_13) || (r_12 != r_6))), (0, .int .i64 aP1), (1, SV.v s1), (4, .bool false), (10, SV.v s1), (11, .int .i64 (aList1.length : Int)), (12, .bool (decide ((aList1.length : Int) > 1048576))), (14, .int .i64 aP1), (15, SV.v s1), (16, SV.v s2), (17, .tuple #[sval [.one (.int .i64 r_2), .one (.int .i64 r_3), .arr 216 (enf u8v r_4), .arr 6 (enf u8v r_5)], .int .i64 r_6]), (13, .tuple #[sval [.one (.int .i64 r_2), .one (.int .i64 r_3), .arr 216 (enf u8v r_4), .arr 6 (enf u8v r_5)], .int .i64 r_6]), (18, sval [.one (.int .i64 r_2), .one (.int .i64 r_3), .arr 216 (enf u8v r_4), .arr 6 (enf u8v r_5)]), (19, .int .i64 r_6), (5, bp b_1 0), (6, .int .i64 r_6), (20, SV.v s1), (21, SV.v s3), (7, SV.v s3), (23, .int .i64 aP1), (24, SV.v s3), (25, .tuple #[sval [.one (.int .i64 r_8), .one (.int .i64 r_9), .arr 216 (enf u8v r_10), .arr 6 (enf u8v r_11)], .int .i64 r_12]), (22, .tuple #[sval [.one (.int .i64 r_8), .one (.int .i64 r_9), .arr 216 (enf u8v r_10), .arr 6 (enf u8v r_11)], .int .i64 r_12]), (26, sval [.one (.int .i64 r_8), .one (.int .i64 r_9), .arr 216 (enf u8v r_10), .arr 6 (enf u8v r_11)]), (27, .int .i64 r_12), (8, bp b_2 0), (9, .int .i64 r_12), (28, sval [.one (.int .i64 r_8), .one (.int .i64 r_9), .arr 216 (enf u8v r_10), .arr 6 (enf u8v r_11)]), (29, sval [.one (.int .i64 r_2), .one (.int .i64 r_3), .arr 216 (enf u8v r_4), .arr 6 (enf u8v r_5)]), (30, .bool r_13), (31, .bool (!r_13)), (32, .bool (!r_13))] [box b_2 45 [.one (.int .i64 r_8), .one (.int .i64 r_9), .arr 216 (enf u8v r_10), .arr 6 (enf u8v r_11)], row Ei 2 s3 r_7, box b_1 45 [.one (.int .i64 r_2), .one (.int .i64 r_3), .arr 216 (enf u8v r_4), .arr 6 (enf u8v r_5)], row Ei 2 s2 r_1] ?_ ?_
    · refine TL.cases (t := 32) (b := (!r_13)) rfl (fun c3 => ?_) (fun c4 => ?_)
      · refine TL.skip rfl rfl (by decide) ?_
        refine TL.skip rfl rfl (by decide) ?_
        refine TL.skip rfl rfl (by decide) ?_
        refine TL.pick rfl rfl (b := true) rfl (r := .bool true) rfl ?_
        refine TL.done ?_
        exact TC.nrm () () ⟨(by rw [c3]; rfl), rfl, rfl, rfl, rfl, rfl, rfl, rfl, rfl, rfl, rfl, rfl, rfl, rfl, rfl, rfl, rfl, rfl, rfl, rfl, rfl, rfl, rfl, rfl, rfl, rfl, rfl, rfl, rfl, rfl, rfl, (by rw [c3]; rfl), trivial⟩ [0, 0, 0, 0] rfl
      · refine TL.move rfl rfl (v := .int .i64 r_12) rfl ?_
        refine TL.move rfl rfl (v := .int .i64 r_6) rfl ?_
        refine TL.bin .i64 r_12 r_6 rfl rfl rfl rfl (v := .bool (r_12 != r_6)) rfl ?_
        refine TL.pick rfl rfl (b := false) rfl (r := .bool (r_12 != r_6)) rfl ?_
        refine TL.done ?_
        exact TC.nrm () () ⟨(by rw [c4]; rfl), rfl, rfl, rfl, rfl, rfl, rfl, rfl, rfl, rfl, rfl, rfl, rfl, rfl, rfl, rfl, rfl, rfl, rfl, rfl, rfl, rfl, rfl, rfl, rfl, rfl, rfl, rfl, rfl, rfl, rfl, (by rw [c4]; rfl), trivial⟩ [0, 0, 0, 0] rfl
    · refine TL.done ?_
      refine TC.cond (b := ((!r_13) || (r_12 != r_6))) rfl (fun c5 => ?_) (fun c6 => ?_)
      · refine TC.seq ?_
        refine TC.region ?_
        refine TL.assign rfl rfl (v := .bool false) rfl ?_
        refine TL.done ?_
        exact TC.retF (Fin.body (fin1 (.inr rfl) rfl (.tmp rfl) [] rfl ⟨rfl, rfl⟩))
      · refine TC.skip ?_
        refine TC.seq ?_
        refine TC.seq ?_
        refine TC.region ?_
        refine TL.move rfl rfl (v := SV.v s3) rfl ?_
        refine TL.move rfl rfl (v := SV.v s1) rfl ?_
        refine TL.call (R := G.laws_toInt64S.R) Try.call16 rfl rfl rfl (fun w hS => G.laws_toInt64S.calls w s1 aList1 ((Rd.old h1) w hS)) ?_
        rintro r_14 _ _ ⟨s4, rfl, rfl⟩
        refine TL.call (R := G.laws_eqInt64S.R) Try.call18 rfl rfl rfl (fun w hS => G.laws_eqInt64S.calls w s3 r_7 s4 r_14 ((Rd.row 2 rfl) w hS) ((Rd.row 0 rfl) w hS)) ?_
        rintro r_15 _ _ ⟨rfl, rfl⟩
        refine TL.not r_15 rfl rfl rfl ?_
        refine TL.done ?_
        refine TC.cond (b := (!r_15)) rfl (fun c7 => ?_) (fun c8 => ?_)
        · refine TC.seq ?_
          refine TC.region ?_
          refine TL.assign rfl rfl (v := .bool false) rfl ?_
          refine TL.done ?_
          exact TC.retF (Fin.body (fin1 (.inr rfl) rfl (.tmp rfl) [] rfl ⟨rfl, rfl⟩))
        · refine TC.skip ?_
          refine TC.seq ?_
          refine TC.region ?_
          refine TL.assign rfl rfl (v := .bool true) rfl ?_
          refine TL.done ?_
          exact TC.retF (Fin.body (fin1 (.inr rfl) rfl (.tmp rfl) [] rfl ⟨rfl, rfl⟩))

end Go.Proofs.Ytcombgcjgdkbiaa.G

/- laws.szInt64S, as a pure function. -/
set_option linter.unusedVariables false
namespace Go.Proofs.Ytcombgcjgdkbiaa.G
open Go Go.Sx Go.Proofs

def laws_szInt64S.f (a_1 : List Int) (left_1 : Int) : Option Int := (bif (decide ((w64 (left_1 - (a_1.length : Int))) < 0)) then some (-1) else some (w64 (left_1 - (a_1.length : Int))))

def laws_szInt64S.R (r : Int) (v : Value) (L : List Asn) : Prop := v = .int .i64 r ∧ L = []

set_option maxRecDepth 100000 in
set_option maxHeartbeats 4000000 in
theorem laws_szInt64S.calls (w : World) (s1 : SV) (a_1 : List Int) (left_1 : Int) (h1 : Reads Ei (hp w) s1 a_1) :
    ∀ r, laws_szInt64S.f a_1 left_1 = some r → Calls Try.prog 101 #[SV.v s1, .int .i64 left_1] w (Ret w (laws_szInt64S.R r)) := by

  refine calls_T (n := 12) (Γ := [(0, SV.v s1), (1, .int .i64 left_1)]) (R := laws_szInt64S.R) Try.func101 rfl rfl (Nat.le_of_ble_eq_true rfl) ⟨rfl, rfl, trivial⟩ ?_
  unfold laws_szInt64S.f
  refine TC.seq ?_
  refine TC.region ?_
  refine TL.assign rfl rfl (v := .int .i64 0) rfl ?_
  refine TL.done ?_
  refine TC.seq ?_
  refine TC.region ?_
  refine TL.move rfl rfl (v := .int .i64 left_1) rfl ?_
  refine TL.move rfl rfl (v := SV.v s1) rfl ?_
  refine TL.len (Rd.old h1) Try.underlying22 rfl rfl rfl ?_
  refine TL.bin .i64 left_1 (a_1.length : Int) rfl rfl rfl rfl (v := .int .i64 (w64 (left_1 - (a_1.length : Int)))) rfl ?_
  refine TL.assign rfl rfl (v := .int .i64 (w64 (left_1 - (a_1.length : Int)))) rfl ?_
  refine TL.done ?_
  refine TC.seq ?_
  refine TC.seq ?_
  refine TC.region ?_
  refine TL.move rfl rfl (v := .int .i64 (w64 (left_1 - (a_1.length : Int)))) rfl ?_
  refine TL.bin .i64 (w64 (left_1 - (a_1.length : Int))) 0 rfl rfl rfl rfl (v := .bool (decide ((w64 (left_1 - (a_1.length : Int))) < 0))) rfl ?_
  refine TL.done ?_
  refine TC.cond (b := (decide ((w64 (left_1 - (a_1.length : Int))) < 0))) rfl (fun c1 => ?_) (fun c2 => ?_)
  · refine TC.seq ?_
    refine TC.region ?_
    refine TL.assign rfl rfl (v := .int .i64 (-1)) rfl ?_
    refine TL.done ?_
    exact TC.retF (Fin.body (fin1 (.inr rfl) rfl (.tmp rfl) [] rfl ⟨rfl, rfl⟩))
  · refine TC.skip ?_
    refine TC.seq ?_
    refine TC.region ?_
    refine TL.move rfl rfl (v := .int .i64 (w64 (left_1 - (a_1.length : Int)))) rfl ?_
    refine TL.assign rfl rfl (v := .int .i64 (w64 (left_1 - (a_1.length : Int)))) rfl ?_
    refine TL.done ?_
    exact TC.retF (Fin.body (fin1 (.inr rfl) rfl (.tmp rfl) [] rfl ⟨rfl, rfl⟩))

end Go.Proofs.Ytcombgcjgdkbiaa.G
