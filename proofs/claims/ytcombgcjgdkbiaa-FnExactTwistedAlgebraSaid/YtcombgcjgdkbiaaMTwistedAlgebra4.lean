/- Functions of the program, as pure functions. -/
import Derived.Test.YtcombgcjgdkbiaaMTwistedAlgebra3
import Derived.Test.YtcombgcjgdkbiaaProg
/- slices.ContainsFunc[[][]int64,[]int64], as a pure function. -/
set_option linter.unusedVariables false
namespace Go.Proofs.Ytcombgcjgdkbiaa.G
open Go Go.Sx Go.Proofs

def slices_ContainsFunc_int64_int64_129.f (s1 : List (List Int)) (f2 : (List Int) → Option Bool) : Option Bool := (G.slices_IndexFunc_int64_int64_133.f s1 f2).bind (fun r_1 => some (decide (r_1 ≥ 0)))

def slices_ContainsFunc_int64_int64_129.R (r : Bool) (v : Value) (L : List Asn) : Prop := v = .bool r ∧ L = []

set_option maxRecDepth 100000 in
set_option maxHeartbeats 4000000 in
theorem slices_ContainsFunc_int64_int64_129.calls (w : World) (s2 : SV) (ss1 : List SV) (s1 : List (List Int)) (f1 : Nat) (fst1 : List Value) (cap1 : List Value) (f2 : (List Int) → Option Bool) (h1 : ReadsM Ei (hp w) s2 ss1 s1) (hc1 : ∀ (args_ : Array Value) (w_ : World), (callFunc f1 args_).run Try.prog w_ = .ok (.enter f1 args_) w_) (hf1 : ∀ w_, Hle (hp w) (hp w_) → ∀ (s1_ : SV) (x0_ : List Int), Reads Ei (hp w_) s1_ x0_ → ∀ r_, f2 x0_ = some r_ → Calls Try.prog f1 (fst1 ++ ([SV.v s1_] : List Value) ++ cap1).toArray w_ (Ret w_ (fun (v_ : Value) (L_ : List Asn) => v_ = .bool r_ ∧ L_ = []))) :
    ∀ r, slices_ContainsFunc_int64_int64_129.f s1 f2 = some r → Calls Try.prog 129 #[SV.v s2, .func (.func f1) fst1.toArray cap1.toArray] w (Ret w (slices_ContainsFunc_int64_int64_129.R r)) := by

  refine calls_T (n := 9) (Γ := [(0, SV.v s2), (1, .func (.func f1) fst1.toArray cap1.toArray)]) (R := slices_ContainsFunc_int64_int64_129.R) Try.func129 rfl rfl (Nat.le_of_ble_eq_true rfl) ⟨rfl, rfl, trivial⟩ ?_
  unfold slices_ContainsFunc_int64_int64_129.f
  refine TC.seq ?_
  refine TC.region ?_
  refine TL.assign rfl rfl (v := .bool false) rfl ?_
  refine TL.done ?_
  refine TC.seq ?_
  refine TC.region ?_
  refine TL.move rfl rfl (v := SV.v s2) rfl ?_
  refine TL.move rfl rfl (v := .func (.func f1) fst1.toArray cap1.toArray) rfl ?_
  refine TL.call (R := G.slices_IndexFunc_int64_int64_133.R) Try.call133 rfl rfl rfl (fun w hS => G.slices_IndexFunc_int64_int64_133.calls w s2 ss1 s1 f1 fst1 cap1 f2 ((RdM.old h1) w hS) hc1 (fun w_ hle_ => hf1 w_ (hS.iw.trans hle_))) ?_
  rintro r_1 _ _ ⟨rfl, rfl⟩
  refine TL.bin .i64 r_1 0 rfl rfl rfl rfl (v := .bool (decide (r_1 ≥ 0))) rfl ?_
  refine TL.assign rfl rfl (v := .bool (decide (r_1 ≥ 0))) rfl ?_
  refine TL.done ?_
  exact TC.retF (Fin.body (fin1 (.inr rfl) rfl (.tmp rfl) [] rfl ⟨rfl, rfl⟩))

end Go.Proofs.Ytcombgcjgdkbiaa.G

/- slices.IndexFunc[[]int64,int64], as a pure function. -/
set_option linter.unusedVariables false
namespace Go.Proofs.Ytcombgcjgdkbiaa.G
open Go Go.Sx Go.Proofs

def slices_IndexFunc_int64_int64.b0 (s1 : List Int) (f2 : Int → Option Bool) : Int → Option (LR Int Int) := fun x1 => (bif (decide (x1 < (s1.length : Int))) then chk x1 s1.length ((f2 (gt s1 x1)).bind (fun r_1 => (bif r_1 then some (.ret (x1)) else some (.next (w64 (x1 + 1)))))) else some (.brk x1))

def slices_IndexFunc_int64_int64.f (s1 : List Int) (f2 : Int → Option Bool) : Option Int := (loop (slices_IndexFunc_int64_int64.b0 s1 f2) 0).bind (ln (fun x1 => some (-1)))

def slices_IndexFunc_int64_int64.R (r : Int) (v : Value) (L : List Asn) : Prop := v = .int .i64 r ∧ L = []

set_option maxRecDepth 100000 in
set_option maxHeartbeats 4000000 in
theorem slices_IndexFunc_int64_int64.calls (w : World) (s2 : SV) (s1 : List Int) (f1 : Nat) (fst1 : List Value) (cap1 : List Value) (f2 : Int → Option Bool) (h1 : Reads Ei (hp w) s2 s1) (hc1 : ∀ (args_ : Array Value) (w_ : World), (callFunc f1 args_).run Try.prog w_ = .ok (.enter f1 args_) w_) (hf1 : ∀ w_, Hle (hp w) (hp w_) → ∀ (x0_ : Int), ∀ r_, f2 x0_ = some r_ → Calls Try.prog f1 (fst1 ++ ([.int .i64 x0_] : List Value) ++ cap1).toArray w_ (Ret w_ (fun (v_ : Value) (L_ : List Asn) => v_ = .bool r_ ∧ L_ = []))) :
    ∀ r, slices_IndexFunc_int64_int64.f s1 f2 = some r → Calls Try.prog 123 #[SV.v s2, .func (.func f1) fst1.toArray cap1.toArray] w (Ret w (slices_IndexFunc_int64_int64.R r)) := by

  refine calls_T (n := 19) (Γ := [(0, SV.v s2), (1, .func (.func f1) fst1.toArray cap1.toArray)]) (R := slices_IndexFunc_int64_int64.R) Try.func123 rfl rfl (Nat.le_of_ble_eq_true rfl) ⟨rfl, rfl, trivial⟩ ?_
  unfold slices_IndexFunc_int64_int64.f
  refine TC.seq ?_
  refine TC.region ?_
  refine TL.assign rfl rfl (v := .int .i64 0) rfl ?_
  refine TL.done ?_
  refine TC.seq ?_
  refine TC.seq ?_
  refine TC.region ?_
  refine TL.move rfl rfl (v := SV.v s2) rfl ?_
  refine TL.len (Rd.old h1) Try.underlying22 rfl rfl rfl ?_
  refine TL.move rfl rfl (v := .int .i64 0) rfl ?_
  refine TL.done ?_
  refine TC.loopK (σ := Int) (γ := Unit) (Γ' := (fun x1 _ => [(0, SV.v s2), (1, .func (.func f1) fst1.toArray cap1.toArray), (7, .int .i64 (s1.length : Int)), (8, .int .i64 x1)])) (L' := (fun x1 _ => [])) (Γb := (fun x1 _ => [(0, SV.v s2), (1, .func (.func f1) fst1.toArray cap1.toArray), (7, .int .i64 (s1.length : Int)), (8, .int .i64 x1)])) (Lb := (fun x1 _ => [])) (0) (()) ⟨rfl, rfl, rfl, rfl, trivial⟩ [] rfl ?_ ?_
  · rintro x1 _
    refine TC.seq ?_
    refine TC.region ?_
    refine TL.bin .i64 x1 (s1.length : Int) rfl rfl rfl rfl (v := .bool (decide (x1 < (s1.length : Int)))) rfl ?_
    refine TL.done ?_
    refine TC.seq ?_
    refine TC.cond (b := (decide (x1 < (s1.length : Int)))) rfl (fun c1 => ?_) (fun c2 => ?_)
    · refine TC.skip ?_
      refine TC.seq ?_
      refine TC.block (NoEx.loop rfl NoEx.body) ?_
      refine TC.seq ?_
      refine TC.region ?_
      refine TL.move rfl rfl (v := .int .i64 x1) rfl ?_
      refine TL.assign rfl rfl (v := .int .i64 x1) rfl ?_
      refine TL.done ?_
      refine TC.seq ?_
      refine TC.region ?_
      refine TL.move rfl rfl (v := .func (.func f1) fst1.toArray cap1.toArray) rfl ?_
      refine TL.move rfl rfl (v := SV.v s2) rfl ?_
      refine TL.move rfl rfl (v := .int .i64 x1) rfl ?_
      refine TL.chk fun h2 => ?_
      refine TL.ixs x1 x1.toNat (Rd.old h1) h2 Try.underlying22 Try.sizeOf2 rfl rfl rfl rfl (by omega) ?_
      refine TL.loadE (Rd.old h1) Try.isAgg2 x1.toNat 0 (gt_spec h2) (v := .int .i64 (gt s1 x1)) rfl (by simp only [show Ei.sz = 1 from rfl]; omega) rfl rfl rfl ?_
      refine TL.callv (R := (fun r_ => (fun (v_ : Value) (L_ : List Asn) => v_ = .bool r_ ∧ L_ = []))) (vs := [.int .i64 (gt s1 x1)]) hc1 rfl rfl rfl rfl (fun w hS => hf1 w hS.iw (gt s1 x1)) ?_
      rintro r_1 _ _ ⟨rfl, rfl⟩
      refine TL.done ?_
      refine TC.cond (b := r_1) rfl (fun c3 => ?_) (fun c4 => ?_)
      · refine TC.seq ?_
        refine TC.region ?_
        refine TL.move rfl rfl (v := .int .i64 x1) rfl ?_
        refine TL.assign rfl rfl (v := .int .i64 x1) rfl ?_
        refine TL.done ?_
        exact TC.retF (Fin.loop Far.ret (Fin.body (fin1 (.inr rfl) rfl (.tmp rfl) [] rfl ⟨rfl, rfl⟩)))
      · refine TC.skip ?_
        refine TC.region ?_
        refine TL.bin .i64 x1 1 rfl rfl rfl rfl (v := .int .i64 (w64 (x1 + 1))) rfl ?_
        refine TL.move rfl rfl (v := .int .i64 (w64 (x1 + 1))) rfl ?_
        refine TL.done ?_
        exact TC.next ((w64 (x1 + 1))) (()) ⟨rfl, rfl, rfl, rfl, trivial⟩ [] rfl
    · exact TC.brk (x1) (()) ⟨rfl, rfl, rfl, rfl, trivial⟩ [] rfl
  · rintro x1 _
    refine TC.seq ?_
    refine TC.region ?_
    refine TL.assign rfl rfl (v := .int .i64 (-1)) rfl ?_
    refine TL.done ?_
    exact TC.retF (Fin.body (fin1 (.inr rfl) rfl (.tmp rfl) [] rfl ⟨rfl, rfl⟩))

end Go.Proofs.Ytcombgcjgdkbiaa.G

/- slices.ContainsFunc[[]int64,int64], as a pure function. -/
set_option linter.unusedVariables false
namespace Go.Proofs.Ytcombgcjgdkbiaa.G
open Go Go.Sx Go.Proofs

def slices_ContainsFunc_int64_int64.f (s1 : List Int) (f2 : Int → Option Bool) : Option Bool := (G.slices_IndexFunc_int64_int64.f s1 f2).bind (fun r_1 => some (decide (r_1 ≥ 0)))

def slices_ContainsFunc_int64_int64.R (r : Bool) (v : Value) (L : List Asn) : Prop := v = .bool r ∧ L = []

set_option maxRecDepth 100000 in
set_option maxHeartbeats 4000000 in
theorem slices_ContainsFunc_int64_int64.calls (w : World) (s2 : SV) (s1 : List Int) (f1 : Nat) (fst1 : List Value) (cap1 : List Value) (f2 : Int → Option Bool) (h1 : Reads Ei (hp w) s2 s1) (hc1 : ∀ (args_ : Array Value) (w_ : World), (callFunc f1 args_).run Try.prog w_ = .ok (.enter f1 args_) w_) (hf1 : ∀ w_, Hle (hp w) (hp w_) → ∀ (x0_ : Int), ∀ r_, f2 x0_ = some r_ → Calls Try.prog f1 (fst1 ++ ([.int .i64 x0_] : List Value) ++ cap1).toArray w_ (Ret w_ (fun (v_ : Value) (L_ : List Asn) => v_ = .bool r_ ∧ L_ = []))) :
    ∀ r, slices_ContainsFunc_int64_int64.f s1 f2 = some r → Calls Try.prog 99 #[SV.v s2, .func (.func f1) fst1.toArray cap1.toArray] w (Ret w (slices_ContainsFunc_int64_int64.R r)) := by

  refine calls_T (n := 9) (Γ := [(0, SV.v s2), (1, .func (.func f1) fst1.toArray cap1.toArray)]) (R := slices_ContainsFunc_int64_int64.R) Try.func99 rfl rfl (Nat.le_of_ble_eq_true rfl) ⟨rfl, rfl, trivial⟩ ?_
  unfold slices_ContainsFunc_int64_int64.f
  refine TC.seq ?_
  refine TC.region ?_
  refine TL.assign rfl rfl (v := .bool false) rfl ?_
  refine TL.done ?_
  refine TC.seq ?_
  refine TC.region ?_
  refine TL.move rfl rfl (v := SV.v s2) rfl ?_
  refine TL.move rfl rfl (v := .func (.func f1) fst1.toArray cap1.toArray) rfl ?_
  refine TL.call (R := G.slices_IndexFunc_int64_int64.R) Try.call123 rfl rfl rfl (fun w hS => G.slices_IndexFunc_int64_int64.calls w s2 s1 f1 fst1 cap1 f2 ((Rd.old h1) w hS) hc1 (fun w_ hle_ => hf1 w_ (hS.iw.trans hle_))) ?_
  rintro r_1 _ _ ⟨rfl, rfl⟩
  refine TL.bin .i64 r_1 0 rfl rfl rfl rfl (v := .bool (decide (r_1 ≥ 0))) rfl ?_
  refine TL.assign rfl rfl (v := .bool (decide (r_1 ≥ 0))) rfl ?_
  refine TL.done ?_
  exact TC.retF (Fin.body (fin1 (.inr rfl) rfl (.tmp rfl) [] rfl ⟨rfl, rfl⟩))

end Go.Proofs.Ytcombgcjgdkbiaa.G

/- impl.squareOk$1$1, as a pure function. -/
set_option linter.unusedVariables false
namespace Go.Proofs.Ytcombgcjgdkbiaa.G
open Go Go.Sx Go.Proofs

def impl_squareOk_1_1.f (x1 : Int) (c1 : Int) : Option Bool := (G.impl_in.f x1 0 (w64 (c1 - 1))).bind (fun r_1 => some (!r_1))

def impl_squareOk_1_1.R (r : Bool) (v : Value) (L : List Asn) : Prop := v = .bool r ∧ L = []

set_option maxRecDepth 100000 in
set_option maxHeartbeats 4000000 in
theorem impl_squareOk_1_1.calls (w : World) (x1 : Int) (b_1 : Nat) (c1 : Int) (h1 : At (hp w) b_1 [.one (.int .i64 c1)]) :
    ∀ r, impl_squareOk_1_1.f x1 c1 = some r → Calls Try.prog 131 #[.int .i64 x1, bp b_1 0] w (Ret w (impl_squareOk_1_1.R r)) := by

  refine calls_T (n := 9) (Γ := [(0, .int .i64 x1), (1, bp b_1 0)]) (R := impl_squareOk_1_1.R) Try.func131 rfl rfl (Nat.le_of_ble_eq_true rfl) ⟨rfl, rfl, trivial⟩ ?_
  unfold impl_squareOk_1_1.f
  refine TC.seq ?_
  refine TC.region ?_
  refine TL.assign rfl rfl (v := .bool false) rfl ?_
  refine TL.done ?_
  refine TC.seq ?_
  refine TC.region ?_
  refine TL.move rfl rfl (v := .int .i64 x1) rfl ?_
  refine TL.load1 0 (Src.at h1) Try.isAgg2 rfl rfl rfl rfl rfl ?_
  refine TL.bin .i64 c1 1 rfl rfl rfl rfl (v := .int .i64 (w64 (c1 - 1))) rfl ?_
  refine TL.call (R := G.impl_in.R) Try.call57 rfl rfl rfl (fun w hS => G.impl_in.calls w x1 0 (w64 (c1 - 1))) ?_
  rintro r_1 _ _ ⟨rfl, rfl⟩
  refine TL.not r_1 rfl rfl rfl ?_
  refine TL.assign rfl rfl (v := .bool (!r_1)) rfl ?_
  refine TL.done ?_
  exact TC.retF (Fin.body (fin1 (.inr rfl) rfl (.tmp rfl) [] rfl ⟨rfl, rfl⟩))

end Go.Proofs.Ytcombgcjgdkbiaa.G

/- impl.squareOk$1, as a pure function. -/
set_option linter.unusedVariables false
namespace Go.Proofs.Ytcombgcjgdkbiaa.G
open Go Go.Sx Go.Proofs

def impl_squareOk_1.f (row_1 : List Int) (c1 : Int) (c2 : Int) : Option Bool := (bif ((row_1.length : Int) != c1) then some true else (G.slices_ContainsFunc_int64_int64.f row_1 (fun x0_ => G.impl_squareOk_1_1.f x0_ c2)).bind (fun r_1 => some r_1)).bind (fun b_3 => some b_3)

def impl_squareOk_1.R (r : Bool) (v : Value) (L : List Asn) : Prop := v = .bool r ∧ L = []

set_option maxRecDepth 100000 in
set_option maxHeartbeats 4000000 in
theorem impl_squareOk_1.calls (w : World) (s1 : SV) (row_1 : List Int) (b_1 : Nat) (c1 : Int) (b_2 : Nat) (c2 : Int) (h1 : Reads Ei (hp w) s1 row_1) (h2 : At (hp w) b_1 [.one (.int .i64 c1)]) (h3 : At (hp w) b_2 [.one (.int .i64 c2)]) :
    ∀ r, impl_squareOk_1.f row_1 c1 c2 = some r → Calls Try.prog 130 #[SV.v s1, bp b_1 0, bp b_2 0] w (Ret w (impl_squareOk_1.R r)) := by

  refine calls_T (n := 14) (Γ := [(0, SV.v s1), (1, bp b_1 0), (2, bp b_2 0)]) (R := impl_squareOk_1.R) Try.func130 rfl rfl (Nat.le_of_ble_eq_true rfl) ⟨rfl, rfl, rfl, trivial⟩ ?_
  unfold impl_squareOk_1.f
  refine TC.seq ?_
  refine TC.region ?_
  refine TL.assign rfl rfl (v := .bool false) rfl ?_
  refine TL.done ?_
  refine TC.seq ?_
  refine TC.region ?_
  refine TL.move rfl rfl (v := SV.v s1) rfl ?_
  refine TL.len (Rd.old h1) Try.underlying22 rfl rfl rfl ?_
  refine TL.load1 0 (Src.at h2) Try.isAgg3 rfl rfl rfl rfl rfl ?_
  refine TL.bin .i64 (row_1.length : Int) c1 rfl rfl rfl rfl (v := .bool ((row_1.length : Int) != c1)) rfl ?_
  refine TL.move rfl rfl (v := .bool ((row_1.length : Int) != c1)) rfl ?_
  refine TL.cutJ (σ := Bool) (γ := Unit) (Γ' := fun b_3 _ => [(13, .bool b_3), (0, SV.v s1), (1, bp b_1 0), (2, bp b_2 0), (4, .bool false), (5, SV.v s1), (6, .int .i64 (row_1.length : Int)), (7, .int .i64 c1), (8, .bool ((row_1.length : Int) != c1)), (9, .bool ((row_1.length : Int) != c1))]) (L' := fun _ _ => []) 4 ?_ ?_
  · refine TL.ifb (t := 9) (b := ((row_1.length : Int) != c1)) rfl (fun c3 => ?_) (fun c4 => ?_)
    · refine TL.skip rfl rfl (by decide) ?_
      refine TL.skip rfl rfl (by decide) ?_
      refine TL.skip rfl rfl (by decide) ?_
      refine TL.pick rfl rfl (b := true) rfl (r := .bool true) rfl ?_
      refine TL.done ?_
      exact TC.nrm (true) () ⟨rfl, rfl, rfl, rfl, rfl, rfl, rfl, rfl, rfl, (by rw [c3]; rfl), trivial⟩ [] rfl
    · refine TL.move rfl rfl (v := SV.v s1) rfl ?_
      refine TL.makeFunc rfl rfl (us := []) (vs := [bp b_2 0]) rfl rfl ?_
      refine TL.call (R := G.slices_ContainsFunc_int64_int64.R) Try.call99 rfl rfl rfl (fun w hS => G.slices_ContainsFunc_int64_int64.calls w s1 row_1 131 [] [bp b_2 0] (fun x0_ => G.impl_squareOk_1_1.f x0_ c2) ((Rd.old h1) w hS) Try.call131 (fun w_ hle_ x0_ r_ hr_ => G.impl_squareOk_1_1.calls w_ x0_ b_2 c2 (((Src.at h3) w hS).mono hle_) r_ hr_)) ?_
      rintro r_1 _ _ ⟨rfl, rfl⟩
      refine TL.pick rfl rfl (b := false) rfl (r := .bool r_1) rfl ?_
      refine TL.done ?_
      exact TC.nrm (r_1) () ⟨rfl, rfl, rfl, rfl, rfl, rfl, rfl, rfl, rfl, (by rw [c4]; rfl), trivial⟩ [] rfl
  · rintro b_3 _
    refine TL.assign rfl rfl (v := .bool b_3) rfl ?_
    refine TL.done ?_
    exact TC.retF (Fin.body (fin1 (.inr rfl) rfl (.tmp rfl) [] rfl ⟨rfl, rfl⟩))

end Go.Proofs.Ytcombgcjgdkbiaa.G

/- impl.squareOk, as a pure function. -/
set_option linter.unusedVariables false
namespace Go.Proofs.Ytcombgcjgdkbiaa.G
open Go Go.Sx Go.Proofs

def impl_squareOk.f (table_1 : List (List Int)) (n_1 : Int) (p1 : Int) : Option Bool := (bif ((table_1.length : Int) == n_1) then (G.slices_ContainsFunc_int64_int64_129.f table_1 (fun x0_ => G.impl_squareOk_1.f x0_ n_1 p1)).bind (fun r_1 => some (!r_1)) else some false).bind (fun b_3 => some b_3)

def impl_squareOk.R (r : Bool) (v : Value) (L : List Asn) : Prop := v = .bool r ∧ L = []

set_option maxRecDepth 100000 in
set_option maxHeartbeats 4000000 in
theorem impl_squareOk.calls (w : World) (s1 : SV) (ss1 : List SV) (table_1 : List (List Int)) (n_1 : Int) (p1 : Int) (h1 : ReadsM Ei (hp w) s1 ss1 table_1) :
    ∀ r, impl_squareOk.f table_1 n_1 p1 = some r → Calls Try.prog 124 #[SV.v s1, .int .i64 n_1, .int .i64 p1] w (Ret w (impl_squareOk.R r)) := by

  refine calls_T (n := 17) (Γ := [(0, SV.v s1), (1, .int .i64 n_1), (2, .int .i64 p1)]) (R := impl_squareOk.R) Try.func124 rfl rfl (Nat.le_of_ble_eq_true rfl) ⟨rfl, rfl, rfl, trivial⟩ ?_
  unfold impl_squareOk.f
  refine TC.seq ?_
  refine TC.region ?_
  refine TL.box [.one (.int .i64 n_1)] rfl rfl rfl rfl fun b_1 => ?_
  refine TL.box [.one (.int .i64 p1)] rfl rfl rfl rfl fun b_2 => ?_
  refine TL.assign rfl rfl (v := .bool false) rfl ?_
  refine TL.done ?_
  refine TC.seq ?_
  refine TC.region ?_
  refine TL.move rfl rfl (v := SV.v s1) rfl ?_
  refine TL.lenM (RdM.old h1) Try.underlying53 rfl rfl rfl ?_
  refine TL.load1 0 (Src.box 1 rfl) Try.isAgg3 rfl rfl rfl rfl rfl ?_
  refine TL.bin .i64 (table_1.length : Int) n_1 rfl rfl rfl rfl (v := .bool ((table_1.length : Int) == n_1)) rfl ?_
  refine TL.move rfl rfl (v := .bool ((table_1.length : Int) == n_1)) rfl ?_
  refine TL.cutJ (σ := Bool) (γ := Unit) (Γ' := fun b_3 _ => [(16, .bool b_3), (0, SV.v s1), (1, .int .i64 n_1), (2, .int .i64 p1), (4, bp b_1 0), (5, bp b_2 0), (6, .bool false), (7, SV.v s1), (8, .int .i64 (table_1.length : Int)), (9, .int .i64 n_1), (10, .bool ((table_1.length : Int) == n_1)), (11, .bool ((table_1.length : Int) == n_1))]) (L' := fun _ _ => [box b_2 2 [.one (.int .i64 p1)], box b_1 3 [.one (.int .i64 n_1)]]) 5 ?_ ?_
  · refine TL.ifb (t := 11) (b := ((table_1.length : Int) == n_1)) rfl (fun c1 => ?_) (fun c2 => ?_)
    · refine TL.move rfl rfl (v := SV.v s1) rfl ?_
      refine TL.makeFunc rfl rfl (us := []) (vs := [bp b_1 0, bp b_2 0]) rfl rfl ?_
      refine TL.call (R := G.slices_ContainsFunc_int64_int64_129.R) Try.call129 rfl rfl rfl (fun w hS => G.slices_ContainsFunc_int64_int64_129.calls w s1 ss1 table_1 130 [] [bp b_1 0, bp b_2 0] (fun x0_ => G.impl_squareOk_1.f x0_ n_1 p1) ((RdM.old h1) w hS) Try.call130 (fun w_ hle_ s1_ x0_ h0_ r_ hr_ => G.impl_squareOk_1.calls w_ s1_ x0_ b_1 n_1 b_2 p1 h0_ (((Src.box 1 rfl) w hS).mono hle_) (((Src.box 0 rfl) w hS).mono hle_) r_ hr_)) ?_
      rintro r_1 _ _ ⟨rfl, rfl⟩
      refine TL.not r_1 rfl rfl rfl ?_
      refine TL.pick rfl rfl (b := true) rfl (r := .bool (!r_1)) rfl ?_
      refine TL.done ?_
      exact TC.nrm ((!r_1)) () ⟨rfl, rfl, rfl, rfl, rfl, rfl, rfl, rfl, rfl, rfl, rfl, (by rw [c1]; rfl), trivial⟩ [0, 0] rfl
    · refine TL.skip rfl rfl (by decide) ?_
      refine TL.skip rfl rfl (by decide) ?_
      refine TL.skip rfl rfl (by decide) ?_
      refine TL.skip rfl rfl (by decide) ?_
      refine TL.pick rfl rfl (b := false) rfl (r := .bool false) rfl ?_
      refine TL.done ?_
      exact TC.nrm (false) () ⟨rfl, rfl, rfl, rfl, rfl, rfl, rfl, rfl, rfl, rfl, rfl, (by rw [c2]; rfl), trivial⟩ [0, 0] rfl
  · rintro b_3 _
    refine TL.assign rfl rfl (v := .bool b_3) rfl ?_
    refine TL.done ?_
    exact TC.retF (Fin.body (fin1 (.inr rfl) rfl (.tmp rfl) [] rfl ⟨rfl, rfl⟩))

end Go.Proofs.Ytcombgcjgdkbiaa.G

/- impl.tabled, as a pure function. -/
set_option linter.unusedVariables false
namespace Go.Proofs.Ytcombgcjgdkbiaa.G
open Go Go.Sx Go.Proofs

def impl_tabled.f (p1 : Int) (g1 : Int) (g2 : Nat → UInt8) (table_1 : List (List Int)) : Option Int := (G.impl_primed.f p1 g1 g2).bind (fun r_1 => (bif (r_1 != 0) then some r_1 else (G.impl_Group_n.f g1 g2).bind (fun r_2 => (G.impl_squareOk.f table_1 r_2 p1).bind (fun r_3 => (bif (!r_3) then some 2 else some 0)))))

def impl_tabled.R (r : Int) (v : Value) (L : List Asn) : Prop := v = .int .i64 r ∧ L = []

set_option maxRecDepth 100000 in
set_option maxHeartbeats 4000000 in
theorem impl_tabled.calls (w : World) (p1 : Int) (g1 : Int) (g2 : Nat → UInt8) (s1 : SV) (ss1 : List SV) (table_1 : List (List Int)) (h1 : ReadsM Ei (hp w) s1 ss1 table_1) :
    ∀ r, impl_tabled.f p1 g1 g2 table_1 = some r → Calls Try.prog 104 #[.int .i64 p1, sval [.one (.int .i64 g1), .arr 36 (enf u8v g2)], SV.v s1] w (Ret w (impl_tabled.R r)) := by

  refine calls_T (n := 19) (Γ := [(0, .int .i64 p1), (1, sval [.one (.int .i64 g1), .arr 36 (enf u8v g2)]), (2, SV.v s1)]) (R := impl_tabled.R) Try.func104 rfl rfl (Nat.le_of_ble_eq_true rfl) ⟨rfl, rfl, rfl, trivial⟩ ?_
  unfold impl_tabled.f
  refine TC.seq ?_
  refine TC.region ?_
  refine TL.box [.one (.int .i64 g1), .arr 36 (enf u8v g2)] rfl rfl rfl rfl fun b_1 => ?_
  refine TL.assign rfl rfl (v := .int .i64 0) rfl ?_
  refine TL.done ?_
  refine TC.seq ?_
  refine TC.seq ?_
  refine TC.region ?_
  refine TL.move rfl rfl (v := .int .i64 p1) rfl ?_
  refine TL.loadM 0 2 (Src.box 0 rfl) Try.isAgg37 Try.sizeOf37 (mid := [.one (.int .i64 g1), .arr 36 (enf u8v g2)]) rfl rfl rfl rfl rfl rfl ?_
  refine TL.call (R := G.impl_primed.R) Try.call97 rfl rfl rfl (fun w hS => G.impl_primed.calls w p1 g1 g2) ?_
  rintro r_1 _ _ ⟨rfl, rfl⟩
  refine TL.assign rfl rfl (v := .int .i64 r_1) rfl ?_
  refine TL.done ?_
  refine TC.seq ?_
  refine TC.region ?_
  refine TL.move rfl rfl (v := .int .i64 r_1) rfl ?_
  refine TL.bin .i64 r_1 0 rfl rfl rfl rfl (v := .bool (r_1 != 0)) rfl ?_
  refine TL.done ?_
  refine TC.cond (b := (r_1 != 0)) rfl (fun c1 => ?_) (fun c2 => ?_)
  · refine TC.seq ?_
    refine TC.region ?_
    refine TL.move rfl rfl (v := .int .i64 r_1) rfl ?_
    refine TL.assign rfl rfl (v := .int .i64 r_1) rfl ?_
    refine TL.done ?_
    exact TC.retF (Fin.body (fin1 (.inr rfl) rfl (.tmp rfl) [] rfl ⟨rfl, rfl⟩))
  · refine TC.skip ?_
    refine TC.seq ?_
    refine TC.seq ?_
    refine TC.region ?_
    refine TL.move rfl rfl (v := SV.v s1) rfl ?_
    refine TL.call (R := G.impl_Group_n.R) Try.call65 rfl rfl rfl (fun w hS => G.impl_Group_n.calls w b_1 g1 g2 ((Src.box 0 rfl) w hS)) ?_
    rintro r_2 _ _ ⟨rfl, rfl⟩
    refine TL.move rfl rfl (v := .int .i64 p1) rfl ?_
    refine TL.call (R := G.impl_squareOk.R) Try.call124 rfl rfl rfl (fun w hS => G.impl_squareOk.calls w s1 ss1 table_1 r_2 p1 ((RdM.old h1) w hS)) ?_
    rintro r_3 _ _ ⟨rfl, rfl⟩
    refine TL.not r_3 rfl rfl rfl ?_
    refine TL.done ?_
    refine TC.cond (b := (!r_3)) rfl (fun c3 => ?_) (fun c4 => ?_)
    · refine TC.seq ?_
      refine TC.region ?_
      refine TL.assign rfl rfl (v := .int .i64 2) rfl ?_
      refine TL.done ?_
      exact TC.retF (Fin.body (fin1 (.inr rfl) rfl (.tmp rfl) [] rfl ⟨rfl, rfl⟩))
    · refine TC.skip ?_
      refine TC.seq ?_
      refine TC.region ?_
      refine TL.assign rfl rfl (v := .int .i64 0) rfl ?_
      refine TL.done ?_
      exact TC.retF (Fin.body (fin1 (.inr rfl) rfl (.tmp rfl) [] rfl ⟨rfl, rfl⟩))

end Go.Proofs.Ytcombgcjgdkbiaa.G

/- impl.Group).cocycle, as a pure function. -/
set_option linter.unusedVariables false
namespace Go.Proofs.Ytcombgcjgdkbiaa.G
open Go Go.Sx Go.Proofs

def impl_Group_cocycle.b0 (r_3 : Int) (x5 : Int) (x4 : List (List Int)) (x6 : Int) (x1 : Int) (x2 : Nat → UInt8) (x3 : Int) : Int → Option (LR Int (LR Int (LR Int Bool))) := fun x7 => (bif (decide (x7 < r_3)) then chk x5 x4.length (chk x6 ((gt x4 x5).length) ((G.impl_Group_times.f x1 x2 x5 x6).bind (fun r_4 => chk r_4 x4.length (chk x7 ((gt x4 r_4).length) (nz x3 (chk x6 x4.length (chk x7 ((gt x4 x6).length) ((G.impl_Group_times.f x1 x2 x6 x7).bind (fun r_5 => chk r_5 ((gt x4 x5).length) ((bif (((gt (gt x4 x5) x6) == 0) || ((Int.tmod (w64 ((gt (gt x4 x5) x6) * (gt (gt x4 r_4) x7))) x3) != (Int.tmod (w64 ((gt (gt x4 x6) x7) * (gt (gt x4 x5) r_5))) x3))) then some (.ret (.ret (.ret (false)))) else some (.next (w64 (x7 + 1)))))))))))))) else some (.brk x7))

def impl_Group_cocycle.b1 (r_2 : Int) (x1 : Int) (x2 : Nat → UInt8) (x5 : Int) (x4 : List (List Int)) (x3 : Int) : Int → Option (LR Int (LR Int Bool)) := fun x6 => (bif (decide (x6 < r_2)) then (G.impl_Group_n.f x1 x2).bind (fun r_3 => (loop (impl_Group_cocycle.b0 r_3 x5 x4 x6 x1 x2 x3) 0).bind (ln (fun x7 => some (.next (w64 (x6 + 1)))))) else some (.brk x6))

def impl_Group_cocycle.b2 (r_1 : Int) (x1 : Int) (x2 : Nat → UInt8) (x4 : List (List Int)) (x3 : Int) : Int → Option (LR Int Bool) := fun x5 => (bif (decide (x5 < r_1)) then (G.impl_Group_n.f x1 x2).bind (fun r_2 => (loop (impl_Group_cocycle.b1 r_2 x1 x2 x5 x4 x3) 0).bind (ln (fun x6 => some (.next (w64 (x5 + 1)))))) else some (.brk x5))

def impl_Group_cocycle.f (x1 : Int) (x2 : Nat → UInt8) (x3 : Int) (x4 : List (List Int)) : Option Bool := (G.impl_Group_n.f x1 x2).bind (fun r_1 => (loop (impl_Group_cocycle.b2 r_1 x1 x2 x4 x3) 0).bind (ln (fun x5 => chk 0 x4.length (chk 0 ((gt x4 0).length) (some ((gt (gt x4 0) 0) == 1))))))

def impl_Group_cocycle.R (r : Bool) (v : Value) (L : List Asn) : Prop := v = .bool r ∧ L = []

set_option maxRecDepth 100000 in
set_option maxHeartbeats 4000000 in
theorem impl_Group_cocycle.calls (w : World) (b_1 : Nat) (x1 : Int) (x2 : Nat → UInt8) (x3 : Int) (s1 : SV) (ss1 : List SV) (x4 : List (List Int)) (h1 : At (hp w) b_1 [.one (.int .i64 x1), .arr 36 (enf u8v x2)]) (h2 : ReadsM Ei (hp w) s1 ss1 x4) :
    ∀ r, impl_Group_cocycle.f x1 x2 x3 x4 = some r → Calls Try.prog 105 #[bp b_1 0, .int .i64 x3, SV.v s1] w (Ret w (impl_Group_cocycle.R r)) := by

  refine calls_T (n := 89) (Γ := [(0, bp b_1 0), (1, .int .i64 x3), (2, SV.v s1)]) (R := impl_Group_cocycle.R) Try.func105 rfl rfl (Nat.le_of_ble_eq_true rfl) ⟨rfl, rfl, rfl, trivial⟩ ?_
  unfold impl_Group_cocycle.f
  refine TC.seq ?_
  refine TC.region ?_
  refine TL.assign rfl rfl (v := .bool false) rfl ?_
  refine TL.done ?_
  refine TC.seq ?_
  refine TC.seq ?_
  refine TC.region ?_
  refine TL.move rfl rfl (v := bp b_1 0) rfl ?_
  refine TL.call (R := G.impl_Group_n.R) Try.call65 rfl rfl rfl (fun w hS => G.impl_Group_n.calls w b_1 x1 x2 ((Src.at h1) w hS)) ?_
  rintro r_1 _ _ ⟨rfl, rfl⟩
  refine TL.move rfl rfl (v := .int .i64 0) rfl ?_
  refine TL.done ?_
  refine TC.loopK (σ := Int) (γ := Unit) (Γ' := (fun x5 _ => [(0, bp b_1 0), (1, .int .i64 x3), (2, SV.v s1), (13, .int .i64 r_1), (14, .int .i64 x5)])) (L' := (fun x5 _ => [])) (Γb := (fun x5 _ => [(0, bp b_1 0), (1, .int .i64 x3), (2, SV.v s1), (13, .int .i64 r_1), (14, .int .i64 x5)])) (Lb := (fun x5 _ => [])) (0) (()) ⟨rfl, rfl, rfl, rfl, rfl, trivial⟩ [] rfl ?_ ?_
  · rintro x5 _
    refine TC.seq ?_
    refine TC.region ?_
    refine TL.bin .i64 x5 r_1 rfl rfl rfl rfl (v := .bool (decide (x5 < r_1))) rfl ?_
    refine TL.done ?_
    refine TC.seq ?_
    refine TC.cond (b := (decide (x5 < r_1))) rfl (fun c1 => ?_) (fun c2 => ?_)
    · refine TC.skip ?_
      refine TC.seq ?_
      refine TC.block (NoEx.loop rfl NoEx.body) ?_
      refine TC.seq ?_
      refine TC.region ?_
      refine TL.move rfl rfl (v := .int .i64 x5) rfl ?_
      refine TL.assign rfl rfl (v := .int .i64 x5) rfl ?_
      refine TL.done ?_
      refine TC.seq ?_
      refine TC.region ?_
      refine TL.move rfl rfl (v := bp b_1 0) rfl ?_
      refine TL.call (R := G.impl_Group_n.R) Try.call65 rfl rfl rfl (fun w hS => G.impl_Group_n.calls w b_1 x1 x2 ((Src.at h1) w hS)) ?_
      rintro r_2 _ _ ⟨rfl, rfl⟩
      refine TL.move rfl rfl (v := .int .i64 0) rfl ?_
      refine TL.done ?_
      refine TC.loopK (σ := Int) (γ := Unit) (Γ' := (fun x6 _ => [(0, bp b_1 0), (1, .int .i64 x3), (2, SV.v s1), (7, .int .i64 x5), (13, .int .i64 r_1), (14, .int .i64 x5), (18, .int .i64 r_2), (19, .int .i64 x6)])) (L' := (fun x6 _ => [])) (Γb := (fun x6 _ => [(0, bp b_1 0), (1, .int .i64 x3), (2, SV.v s1), (7, .int .i64 x5), (13, .int .i64 r_1), (14, .int .i64 x5), (18, .int .i64 r_2), (19, .int .i64 x6)])) (Lb := (fun x6 _ => [])) (0) (()) ⟨rfl, rfl, rfl, rfl, rfl, rfl, rfl, rfl, trivial⟩ [] rfl ?_ ?_
      · rintro x6 _
        refine TC.seq ?_
        refine TC.region ?_
        refine TL.bin .i64 x6 r_2 rfl rfl rfl rfl (v := .bool (decide (x6 < r_2))) rfl ?_
        refine TL.done ?_
        refine TC.seq ?_
        refine TC.cond (b := (decide (x6 < r_2))) rfl (fun c3 => ?_) (fun c4 => ?_)
        · refine TC.skip ?_
          refine TC.seq ?_
          refine TC.block (NoEx.loop rfl (NoEx.loop rfl NoEx.body)) ?_
          refine TC.seq ?_
          refine TC.region ?_
          refine TL.move rfl rfl (v := .int .i64 x6) rfl ?_
          refine TL.assign rfl rfl (v := .int .i64 x6) rfl ?_
          refine TL.done ?_
          refine TC.seq ?_
          refine TC.region ?_
          refine TL.move rfl rfl (v := bp b_1 0) rfl ?_
          refine TL.call (R := G.impl_Group_n.R) Try.call65 rfl rfl rfl (fun w hS => G.impl_Group_n.calls w b_1 x1 x2 ((Src.at h1) w hS)) ?_
          rintro r_3 _ _ ⟨rfl, rfl⟩
          refine TL.move rfl rfl (v := .int .i64 0) rfl ?_
          refine TL.done ?_
          refine TC.loopK (σ := Int) (γ := Unit) (Γ' := (fun x7 _ => [(0, bp b_1 0), (1, .int .i64 x3), (2, SV.v s1), (7, .int .i64 x5), (8, .int .i64 x6), (13, .int .i64 r_1), (14, .int .i64 x5), (18, .int .i64 r_2), (19, .int .i64 x6), (23, .int .i64 r_3), (24, .int .i64 x7)])) (L' := (fun x7 _ => [])) (Γb := (fun x7 _ => [(0, bp b_1 0), (1, .int .i64 x3), (2, SV.v s1), (7, .int .i64 x5), (8, .int .i64 x6), (13, .int .i64 r_1), (14, .int .i64 x5), (18, .int .i64 r_2), (19, .int .i64 x6), (23, .int .i64 r_3), (24, .int .i64 x7)])) (Lb := (fun x7 _ => [])) (0) (()) ⟨rfl, rfl, rfl, rfl, rfl, rfl, rfl, rfl, rfl, rfl, rfl, trivial⟩ [] rfl ?_ ?_
          · rintro x7 _
            refine TC.seq ?_
            refine TC.region ?_
            refine TL.bin .i64 x7 r_3 rfl rfl rfl rfl (v := .bool (decide (x7 < r_3))) rfl ?_
            refine TL.done ?_
            refine TC.seq ?_
            refine TC.cond (b := (decide (x7 < r_3))) rfl (fun c5 => ?_) (fun c6 => ?_)
            · refine TC.skip ?_
              refine TC.seq ?_
              refine TC.block (NoEx.loop rfl (NoEx.loop rfl (NoEx.loop rfl NoEx.body))) ?_
              refine TC.seq ?_
              refine TC.region ?_
              refine TL.move rfl rfl (v := .int .i64 x7) rfl ?_
              refine TL.assign rfl rfl (v := .int .i64 x7) rfl ?_
              refine TL.done ?_
              refine TC.seq ?_
              refine TC.wk (Γ' := [(0, bp b_1 0), (1, .int .i64 x3), (2, SV.v s1), (7, .int .i64 x5), (8, .int .i64 x6), (13, .int .i64 r_1), (14, .int .i64 x5), (18, .int .i64 r_2), (19, .int .i64 x6), (23, .int .i64 r_3), (24, .int .i64 x7), (25, .bool (decide (x7 < r_3))), (26, .int .i64 x7), (9, .int .i64 x7)]) ⟨rfl, rfl, rfl, rfl, rfl, rfl, rfl, rfl, rfl, rfl, rfl, rfl, rfl, rfl, trivial⟩ ?_
              refine TC.chk fun h3 => ?_
              refine TC.chk fun h4 => ?_
              refine TC.bindE fun r_4 hr1 => ?_
              refine TC.chk fun h5 => ?_
              refine TC.chk fun h6 => ?_
              refine TC.nz fun z1 => ?_
              refine TC.draw [SV.v s1, .int .i64 x5, ep s1 x5.toNat, SV.v (gt ss1 x5), .int .i64 x6, ep (gt ss1 x5) x6.toNat, .int .i64 (gt (gt x4 x5) x6), SV.v s1, bp b_1 0, .int .i64 x5, .int .i64 x6, .int .i64 r_4, ep s1 r_4.toNat, SV.v (gt ss1 r_4), .int .i64 x7, ep (gt ss1 r_4) x7.toNat, .int .i64 (gt (gt x4 r_4) x7), .int .i64 (w64 ((gt (gt x4 x5) x6) * (gt (gt x4 r_4) x7))), .int .i64 x3, .int .i64 (Int.tmod (w64 ((gt (gt x4 x5) x6) * (gt (gt x4 r_4) x7))) x3), .int .i64 (Int.tmod (w64 ((gt (gt x4 x5) x6) * (gt (gt x4 r_4) x7))) x3)] 21 [] (by kernel_rfl) rfl rfl rfl rfl ?_ ?_
              · refine ⟨?_, ?_, ?_, ?_, ?_, ?_, ?_, ?_, ?_, ?_, ?_, ?_, ?_, ?_, ?_, ?_, ?_, ?_, ?_, ?_, ?_, trivial⟩
                · refine TL.move rfl rfl (v := SV.v s1) rfl ?_
                  refine TL.done ?_
                  exact TC.nrm () () ⟨rfl, trivial⟩ [] rfl
                · refine TL.move rfl rfl (v := .int .i64 x5) rfl ?_
                  refine TL.done ?_
                  exact TC.nrm () () ⟨rfl, trivial⟩ [] rfl
                · refine TL.ixsM x5 x5.toNat (RdM.old h2) h3 Try.underlying53 Try.sizeOf22 rfl rfl rfl rfl (by omega) ?_
                  refine TL.done ?_
                  exact TC.nrm () () ⟨rfl, trivial⟩ [] rfl
                · refine TL.loadM2 (RdM.old h2) Try.isAgg22 x5 h3 (by omega) rfl rfl rfl ?_
                  refine TL.done ?_
                  exact TC.nrm () () ⟨rfl, trivial⟩ [] rfl
                · refine TL.move rfl rfl (v := .int .i64 x6) rfl ?_
                  refine TL.done ?_
                  exact TC.nrm () () ⟨rfl, trivial⟩ [] rfl
                · refine TL.ixs x6 x6.toNat (RdM.inn (RdM.old h2) h3) h4 Try.underlying22 Try.sizeOf2 rfl rfl rfl rfl (by omega) ?_
                  refine TL.done ?_
                  exact TC.nrm () () ⟨rfl, trivial⟩ [] rfl
                · refine TL.loadE (RdM.inn (RdM.old h2) h3) Try.isAgg2 x6.toNat 0 (gt_spec h4) (v := .int .i64 (gt (gt x4 x5) x6)) rfl (by simp only [show Ei.sz = 1 from rfl]; omega) rfl rfl rfl ?_
                  refine TL.done ?_
                  exact TC.nrm () () ⟨rfl, trivial⟩ [] rfl
                · refine TL.move rfl rfl (v := SV.v s1) rfl ?_
                  refine TL.done ?_
                  exact TC.nrm () () ⟨rfl, trivial⟩ [] rfl
                · refine TL.move rfl rfl (v := bp b_1 0) rfl ?_
                  refine TL.done ?_
                  exact TC.nrm () () ⟨rfl, trivial⟩ [] rfl
                · refine TL.move rfl rfl (v := .int .i64 x5) rfl ?_
                  refine TL.done ?_
                  exact TC.nrm () () ⟨rfl, trivial⟩ [] rfl
                · refine TL.move rfl rfl (v := .int .i64 x6) rfl ?_
                  refine TL.done ?_
                  exact TC.nrm () () ⟨rfl, trivial⟩ [] rfl
                · refine TL.callH (R := G.impl_Group_times.R) hr1 Try.call66 rfl rfl rfl (fun w hS => G.impl_Group_times.calls w b_1 x1 x2 x5 x6 ((Src.at h1) w hS)) ?_
                  rintro _ _ ⟨rfl, rfl⟩
                  refine TL.done ?_
                  exact TC.nrm () () ⟨rfl, trivial⟩ [] rfl
                · refine TL.ixsM r_4 r_4.toNat (RdM.old h2) h5 Try.underlying53 Try.sizeOf22 rfl rfl rfl rfl (by omega) ?_
                  refine TL.done ?_
                  exact TC.nrm () () ⟨rfl, trivial⟩ [] rfl
                · refine TL.loadM2 (RdM.old h2) Try.isAgg22 r_4 h5 (by omega) rfl rfl rfl ?_
                  refine TL.done ?_
                  exact TC.nrm () () ⟨rfl, trivial⟩ [] rfl
                · refine TL.move rfl rfl (v := .int .i64 x7) rfl ?_
                  refine TL.done ?_
                  exact TC.nrm () () ⟨rfl, trivial⟩ [] rfl
                · refine TL.ixs x7 x7.toNat (RdM.inn (RdM.old h2) h5) h6 Try.underlying22 Try.sizeOf2 rfl rfl rfl rfl (by omega) ?_
                  refine TL.done ?_
                  exact TC.nrm () () ⟨rfl, trivial⟩ [] rfl
                · refine TL.loadE (RdM.inn (RdM.old h2) h5) Try.isAgg2 x7.toNat 0 (gt_spec h6) (v := .int .i64 (gt (gt x4 r_4) x7)) rfl (by simp only [show Ei.sz = 1 from rfl]; omega) rfl rfl rfl ?_
                  refine TL.done ?_
                  exact TC.nrm () () ⟨rfl, trivial⟩ [] rfl
                · refine TL.bin .i64 (gt (gt x4 x5) x6) (gt (gt x4 r_4) x7) rfl rfl rfl rfl (v := .int .i64 (w64 ((gt (gt x4 x5) x6) * (gt (gt x4 r_4) x7)))) rfl ?_
                  refine TL.done ?_
                  exact TC.nrm () () ⟨rfl, trivial⟩ [] rfl
                · refine TL.move rfl rfl (v := .int .i64 x3) rfl ?_
                  refine TL.done ?_
                  exact TC.nrm () () ⟨rfl, trivial⟩ [] rfl
                · refine TL.rem .i64 (w64 ((gt (gt x4 x5) x6) * (gt (gt x4 r_4) x7))) x3 z1 rfl rfl rfl rfl ?_
                  refine TL.done ?_
                  exact TC.nrm () () ⟨rfl, trivial⟩ [] rfl
                · refine TL.assign rfl rfl (v := .int .i64 (Int.tmod (w64 ((gt (gt x4 x5) x6) * (gt (gt x4 r_4) x7))) x3)) rfl ?_
                  refine TL.done ?_
                  exact TC.nrm () () ⟨rfl, trivial⟩ [] rfl
              · refine TC.seq ?_
                refine TC.wk (Γ' := [(0, bp b_1 0), (1, .int .i64 x3), (2, SV.v s1), (7, .int .i64 x5), (8, .int .i64 x6), (13, .int .i64 r_1), (14, .int .i64 x5), (18, .int .i64 r_2), (19, .int .i64 x6), (23, .int .i64 r_3), (24, .int .i64 x7), (25, .bool (decide (x7 < r_3))), (26, .int .i64 x7), (9, .int .i64 x7), (27, SV.v s1), (28, .int .i64 x5), (29, ep s1 x5.toNat), (30, SV.v (gt ss1 x5)), (31, .int .i64 x6), (32, ep (gt ss1 x5) x6.toNat), (33, .int .i64 (gt (gt x4 x5) x6)), (34, SV.v s1), (35, bp b_1 0), (36, .int .i64 x5), (37, .int .i64 x6), (38, .int .i64 r_4), (39, ep s1 r_4.toNat), (40, SV.v (gt ss1 r_4)), (41, .int .i64 x7), (42, ep (gt ss1 r_4) x7.toNat), (43, .int .i64 (gt (gt x4 r_4) x7)), (44, .int .i64 (w64 ((gt (gt x4 x5) x6) * (gt (gt x4 r_4) x7)))), (45, .int .i64 x3), (46, .int .i64 (Int.tmod (w64 ((gt (gt x4 x5) x6) * (gt (gt x4 r_4) x7))) x3)), (10, .int .i64 (Int.tmod (w64 ((gt (gt x4 x5) x6) * (gt (gt x4 r_4) x7))) x3))]) ⟨rfl, rfl, rfl, rfl, rfl, rfl, rfl, rfl, rfl, rfl, rfl, rfl, rfl, rfl, rfl, rfl, rfl, rfl, rfl, rfl, rfl, rfl, rfl, rfl, rfl, rfl, rfl, rfl, rfl, rfl, rfl, rfl, rfl, rfl, rfl, trivial⟩ ?_
                refine TC.chk fun h7 => ?_
                refine TC.chk fun h8 => ?_
                refine TC.bindE fun r_5 hr2 => ?_
                refine TC.chk fun h9 => ?_
                refine TC.draw [SV.v s1, .int .i64 x6, ep s1 x6.toNat, SV.v (gt ss1 x6), .int .i64 x7, ep (gt ss1 x6) x7.toNat, .int .i64 (gt (gt x4 x6) x7), SV.v s1, .int .i64 x5, ep s1 x5.toNat, SV.v (gt ss1 x5), bp b_1 0, .int .i64 x6, .int .i64 x7, .int .i64 r_5, ep (gt ss1 x5) r_5.toNat, .int .i64 (gt (gt x4 x5) r_5), .int .i64 (w64 ((gt (gt x4 x6) x7) * (gt (gt x4 x5) r_5))), .int .i64 x3, .int .i64 (Int.tmod (w64 ((gt (gt x4 x6) x7) * (gt (gt x4 x5) r_5))) x3), .int .i64 (Int.tmod (w64 ((gt (gt x4 x6) x7) * (gt (gt x4 x5) r_5))) x3)] 21 [] (by kernel_rfl) rfl rfl rfl rfl ?_ ?_
                · refine ⟨?_, ?_, ?_, ?_, ?_, ?_, ?_, ?_, ?_, ?_, ?_, ?_, ?_, ?_, ?_, ?_, ?_, ?_, ?_, ?_, ?_, trivial⟩
                  · refine TL.move rfl rfl (v := SV.v s1) rfl ?_
                    refine TL.done ?_
                    exact TC.nrm () () ⟨rfl, trivial⟩ [] rfl
                  · refine TL.move rfl rfl (v := .int .i64 x6) rfl ?_
                    refine TL.done ?_
                    exact TC.nrm () () ⟨rfl, trivial⟩ [] rfl
                  · refine TL.ixsM x6 x6.toNat (RdM.old h2) h7 Try.underlying53 Try.sizeOf22 rfl rfl rfl rfl (by omega) ?_
                    refine TL.done ?_
                    exact TC.nrm () () ⟨rfl, trivial⟩ [] rfl
                  · refine TL.loadM2 (RdM.old h2) Try.isAgg22 x6 h7 (by omega) rfl rfl rfl ?_
                    refine TL.done ?_
                    exact TC.nrm () () ⟨rfl, trivial⟩ [] rfl
                  · refine TL.move rfl rfl (v := .int .i64 x7) rfl ?_
                    refine TL.done ?_
                    exact TC.nrm () () ⟨rfl, trivial⟩ [] rfl
                  · refine TL.ixs x7 x7.toNat (RdM.inn (RdM.old h2) h7) h8 Try.underlying22 Try.sizeOf2 rfl rfl rfl rfl (by omega) ?_
                    refine TL.done ?_
                    exact TC.nrm () () ⟨rfl, trivial⟩ [] rfl
                  · refine TL.loadE (RdM.inn (RdM.old h2) h7) Try.isAgg2 x7.toNat 0 (gt_spec h8) (v := .int .i64 (gt (gt x4 x6) x7)) rfl (by simp only [show Ei.sz = 1 from rfl]; omega) rfl rfl rfl ?_
                    refine TL.done ?_
                    exact TC.nrm () () ⟨rfl, trivial⟩ [] rfl
                  · refine TL.move rfl rfl (v := SV.v s1) rfl ?_
                    refine TL.done ?_
                    exact TC.nrm () () ⟨rfl, trivial⟩ [] rfl
                  · refine TL.move rfl rfl (v := .int .i64 x5) rfl ?_
                    refine TL.done ?_
                    exact TC.nrm () () ⟨rfl, trivial⟩ [] rfl
                  · refine TL.ixsM x5 x5.toNat (RdM.old h2) h3 Try.underlying53 Try.sizeOf22 rfl rfl rfl rfl (by omega) ?_
                    refine TL.done ?_
                    exact TC.nrm () () ⟨rfl, trivial⟩ [] rfl
                  · refine TL.loadM2 (RdM.old h2) Try.isAgg22 x5 h3 (by omega) rfl rfl rfl ?_
                    refine TL.done ?_
                    exact TC.nrm () () ⟨rfl, trivial⟩ [] rfl
                  · refine TL.move rfl rfl (v := bp b_1 0) rfl ?_
                    refine TL.done ?_
                    exact TC.nrm () () ⟨rfl, trivial⟩ [] rfl
                  · refine TL.move rfl rfl (v := .int .i64 x6) rfl ?_
                    refine TL.done ?_
                    exact TC.nrm () () ⟨rfl, trivial⟩ [] rfl
                  · refine TL.move rfl rfl (v := .int .i64 x7) rfl ?_
                    refine TL.done ?_
                    exact TC.nrm () () ⟨rfl, trivial⟩ [] rfl
                  · refine TL.callH (R := G.impl_Group_times.R) hr2 Try.call66 rfl rfl rfl (fun w hS => G.impl_Group_times.calls w b_1 x1 x2 x6 x7 ((Src.at h1) w hS)) ?_
                    rintro _ _ ⟨rfl, rfl⟩
                    refine TL.done ?_
                    exact TC.nrm () () ⟨rfl, trivial⟩ [] rfl
                  · refine TL.ixs r_5 r_5.toNat (RdM.inn (RdM.old h2) h3) h9 Try.underlying22 Try.sizeOf2 rfl rfl rfl rfl (by omega) ?_
                    refine TL.done ?_
                    exact TC.nrm () () ⟨rfl, trivial⟩ [] rfl
                  · refine TL.loadE (RdM.inn (RdM.old h2) h3) Try.isAgg2 r_5.toNat 0 (gt_spec h9) (v := .int .i64 (gt (gt x4 x5) r_5)) rfl (by simp only [show Ei.sz = 1 from rfl]; omega) rfl rfl rfl ?_
                    refine TL.done ?_
                    exact TC.nrm () () ⟨rfl, trivial⟩ [] rfl
                  · refine TL.bin .i64 (gt (gt x4 x6) x7) (gt (gt x4 x5) r_5) rfl rfl rfl rfl (v := .int .i64 (w64 ((gt (gt x4 x6) x7) * (gt (gt x4 x5) r_5)))) rfl ?_
                    refine TL.done ?_
                    exact TC.nrm () () ⟨rfl, trivial⟩ [] rfl
                  · refine TL.move rfl rfl (v := .int .i64 x3) rfl ?_
                    refine TL.done ?_
                    exact TC.nrm () () ⟨rfl, trivial⟩ [] rfl
                  · refine TL.rem .i64 (w64 ((gt (gt x4 x6) x7) * (gt (gt x4 x5) r_5))) x3 z1 rfl rfl rfl rfl ?_
                    refine TL.done ?_
                    exact TC.nrm () () ⟨rfl, trivial⟩ [] rfl
                  · refine TL.assign rfl rfl (v := .int .i64 (Int.tmod (w64 ((gt (gt x4 x6) x7) * (gt (gt x4 x5) r_5))) x3)) rfl ?_
                    refine TL.done ?_
                    exact TC.nrm () () ⟨rfl, trivial⟩ [] rfl
                · refine TC.seq ?_
                  refine TC.region ?_
                  refine TL.move rfl rfl (v := SV.v s1) rfl ?_
                  refine TL.move rfl rfl (v := .int .i64 x5) rfl ?_
                  refine TL.ixsM x5 x5.toNat (RdM.old h2) h3 Try.underlying53 Try.sizeOf22 rfl rfl rfl rfl (by omega) ?_
                  refine TL.loadM2 (RdM.old h2) Try.isAgg22 x5 h3 (by omega) rfl rfl rfl ?_
                  refine TL.move rfl rfl (v := .int .i64 x6) rfl ?_
                  refine TL.ixs x6 x6.toNat (RdM.inn (RdM.old h2) h3) h4 Try.underlying22 Try.sizeOf2 rfl rfl rfl rfl (by omega) ?_
                  refine TL.loadE (RdM.inn (RdM.old h2) h3) Try.isAgg2 x6.toNat 0 (gt_spec h4) (v := .int .i64 (gt (gt x4 x5) x6)) rfl (by simp only [show Ei.sz = 1 from rfl]; omega) rfl rfl rfl ?_
                  refine TL.bin .i64 (gt (gt x4 x5) x6) 0 rfl rfl rfl rfl (v := .bool ((gt (gt x4 x5) x6) == 0)) rfl ?_
                  refine TL.move rfl rfl (v := .bool ((gt (gt x4 x5) x6) == 0)) rfl ?_
                  refine TL.cutU 4 [(79, .bool (((gt (gt x4 x5) x6) == 0) || ((Int.tmod (w64 ((gt (gt x4 x5) x6) * (gt (gt x4 r_4) x7))) x3) != (Int.tmod (w64 ((gt (gt x4 x6) x7) * (gt (gt x4 x5) r_5))) x3)))), (0, bp b_1 0), (1, .int .i64 x3), (2, SV.v s1), (7, .int .i64 x5), (8, .int .i64 x6), (13, .int .i64 r_1), (14, .int .i64 x5), (18, .int .i64 r_2), (19, .int .i64 x6), (23, .int .i64 r_3), (24, .int .i64 x7), (25, .bool (decide (x7 < r_3))), (26, .int .i64 x7), (9, .int .i64 x7), (27, SV.v s1), (28, .int .i64 x5), (29, ep s1 x5.toNat), (30, SV.v (gt ss1 x5)), (31, .int .i64 x6), (32, ep (gt ss1 x5) x6.toNat), (33, .int .i64 (gt (gt x4 x5) x6)), (34, SV.v s1), (35, bp b_1 0), (36, .int .i64 x5), (37, .int .i64 x6), (38, .int .i64 r_4), (39, ep s1 r_4.toNat), (40, SV.v (gt ss1 r_4)), (41, .int .i64 x7), (42, ep (gt ss1 r_4) x7.toNat), (43, .int .i64 (gt (gt x4 r_4) x7)), (44, .int .i64 (w64 ((gt (gt x4 x5) x6) * (gt (gt x4 r_4) x7)))), (45, .int .i64 x3), (46, .int .i64 (Int.tmod (w64 ((gt (gt x4 x5) x6) * (gt (gt x4 r_4) x7))) x3)), (10, .int .i64 (Int.tmod (w64 ((gt (gt x4 x5) x6) * (gt (gt x4 r_4) x7))) x3)), (47, SV.v s1), (48, .int .i64 x6), (49, ep s1 x6.toNat), (50, SV.v (gt ss1 x6)), (51, .int .i64 x7), (52, ep (gt ss1 x6) x7.toNat), (53, .int .i64 (gt (gt x4 x6) x7)), (54, SV.v s1), (55, .int .i64 x5), (56, ep s1 x5.toNat), (57, SV.v (gt ss1 x5)), (58, bp b_1 0), (59, .int .i64 x6), (60, .int .i64 x7), (61, .int .i64 r_5), (62, ep (gt ss1 x5) r_5.toNat), (63, .int .i64 (gt (gt x4 x5) r_5)), (64, .int .i64 (w64 ((gt (gt x4 x6) x7) * (gt (gt x4 x5) r_5)))), (65, .int .i64 x3), (66, .int .i64 (Int.tmod (w64 ((gt (gt x4 x6) x7) * (gt (gt x4 x5) r_5))) x3)), (11, .int .i64 (Int.tmod (w64 ((gt (gt x4 x6) x7) * (gt (gt x4 x5) r_5))) x3)), (67, SV.v s1), (68, .int .i64 x5), (69, ep s1 x5.toNat), (70, SV.v (gt ss1 x5)), (71, .int .i64 x6), (72, ep (gt ss1 x5) x6.toNat), (73, .int .i64 (gt (gt x4 x5) x6)), (74, .bool ((gt (gt x4 x5) x6) == 0)), (75, .bool ((gt (gt x4 x5) x6) == 0))] [] ?_ ?_
                  · refine TL.cases (t := 75) (b := ((gt (gt x4 x5) x6) == 0)) rfl (fun c7 => ?_) (fun c8 => ?_)
                    · refine TL.skip rfl rfl (by decide) ?_
                      refine TL.skip rfl rfl (by decide) ?_
                      refine TL.skip rfl rfl (by decide) ?_
                      refine TL.pick rfl rfl (b := true) rfl (r := .bool true) rfl ?_
                      refine TL.done ?_
                      exact TC.nrm () () ⟨(by rw [c7]; rfl), rfl, rfl, rfl, rfl, rfl, rfl, rfl, rfl, rfl, rfl, rfl, rfl, rfl, rfl, rfl, rfl, rfl, rfl, rfl, rfl, rfl, rfl, rfl, rfl, rfl, rfl, rfl, rfl, rfl, rfl, rfl, rfl, rfl, rfl, rfl, rfl, rfl, rfl, rfl, rfl, rfl, rfl, rfl, rfl, rfl, rfl, rfl, rfl, rfl, rfl, rfl, rfl, rfl, rfl, rfl, rfl, rfl, rfl, rfl, rfl, rfl, rfl, rfl, rfl, (by rw [c7]; rfl), trivial⟩ [] rfl
                    · refine TL.move rfl rfl (v := .int .i64 (Int.tmod (w64 ((gt (gt x4 x5) x6) * (gt (gt x4 r_4) x7))) x3)) rfl ?_
                      refine TL.move rfl rfl (v := .int .i64 (Int.tmod (w64 ((gt (gt x4 x6) x7) * (gt (gt x4 x5) r_5))) x3)) rfl ?_
                      refine TL.bin .i64 (Int.tmod (w64 ((gt (gt x4 x5) x6) * (gt (gt x4 r_4) x7))) x3) (Int.tmod (w64 ((gt (gt x4 x6) x7) * (gt (gt x4 x5) r_5))) x3) rfl rfl rfl rfl (v := .bool ((Int.tmod (w64 ((gt (gt x4 x5) x6) * (gt (gt x4 r_4) x7))) x3) != (Int.tmod (w64 ((gt (gt x4 x6) x7) * (gt (gt x4 x5) r_5))) x3))) rfl ?_
                      refine TL.pick rfl rfl (b := false) rfl (r := .bool ((Int.tmod (w64 ((gt (gt x4 x5) x6) * (gt (gt x4 r_4) x7))) x3) != (Int.tmod (w64 ((gt (gt x4 x6) x7) * (gt (gt x4 x5) r_5))) x3))) rfl ?_
                      refine TL.done ?_
                      exact TC.nrm () () ⟨(by rw [c8]; rfl), rfl, rfl, rfl, rfl, rfl, rfl, rfl, rfl, rfl, rfl, rfl, rfl, rfl, rfl, rfl, rfl, rfl, rfl, rfl, rfl, rfl, rfl, rfl, rfl, rfl, rfl, rfl, rfl, rfl, rfl, rfl, rfl, rfl, rfl, rfl, rfl, rfl, rfl, rfl, rfl, rfl, rfl, rfl, rfl, rfl, rfl, rfl, rfl, rfl, rfl, rfl, rfl, rfl, rfl, rfl, rfl, rfl, rfl, rfl, rfl, rfl, rfl, rfl, rfl, (by rw [c8]; rfl), trivial⟩ [] rfl
                  · refine TL.done ?_
                    refine TC.cond (b := (((gt (gt x4 x5) x6) == 0) || ((Int.tmod (w64 ((gt (gt x4 x5) x6) * (gt (gt x4 r_4) x7))) x3) != (Int.tmod (w64 ((gt (gt x4 x6) x7) * (gt (gt x4 x5) r_5))) x3)))) rfl (fun c9 => ?_) (fun c10 => ?_)
                    · refine TC.seq ?_
                      refine TC.region ?_
                      refine TL.assign rfl rfl (v := .bool false) rfl ?_
                      refine TL.done ?_
                      exact TC.retF (Fin.loop Far.ret (Fin.loop Far.ret (Fin.loop Far.ret (Fin.body (fin1 (.inr rfl) rfl (.tmp rfl) [] rfl ⟨rfl, rfl⟩)))))
                    · refine TC.skip ?_
                      refine TC.region ?_
                      refine TL.bin .i64 x7 1 rfl rfl rfl rfl (v := .int .i64 (w64 (x7 + 1))) rfl ?_
                      refine TL.move rfl rfl (v := .int .i64 (w64 (x7 + 1))) rfl ?_
                      refine TL.done ?_
                      exact TC.next ((w64 (x7 + 1))) (()) ⟨rfl, rfl, rfl, rfl, rfl, rfl, rfl, rfl, rfl, rfl, rfl, trivial⟩ [] rfl
            · exact TC.brk (x7) (()) ⟨rfl, rfl, rfl, rfl, rfl, rfl, rfl, rfl, rfl, rfl, rfl, trivial⟩ [] rfl
          · rintro x7 _
            refine TC.region ?_
            refine TL.bin .i64 x6 1 rfl rfl rfl rfl (v := .int .i64 (w64 (x6 + 1))) rfl ?_
            refine TL.move rfl rfl (v := .int .i64 (w64 (x6 + 1))) rfl ?_
            refine TL.done ?_
            exact TC.next ((w64 (x6 + 1))) (()) ⟨rfl, rfl, rfl, rfl, rfl, rfl, rfl, rfl, trivial⟩ [] rfl
        · exact TC.brk (x6) (()) ⟨rfl, rfl, rfl, rfl, rfl, rfl, rfl, rfl, trivial⟩ [] rfl
      · rintro x6 _
        refine TC.region ?_
        refine TL.bin .i64 x5 1 rfl rfl rfl rfl (v := .int .i64 (w64 (x5 + 1))) rfl ?_
        refine TL.move rfl rfl (v := .int .i64 (w64 (x5 + 1))) rfl ?_
        refine TL.done ?_
        exact TC.next ((w64 (x5 + 1))) (()) ⟨rfl, rfl, rfl, rfl, rfl, trivial⟩ [] rfl
    · exact TC.brk (x5) (()) ⟨rfl, rfl, rfl, rfl, rfl, trivial⟩ [] rfl
  · rintro x5 _
    refine TC.seq ?_
    refine TC.region ?_
    refine TL.move rfl rfl (v := SV.v s1) rfl ?_
    refine TL.chk fun h10 => ?_
    refine TL.ixsM 0 0 (RdM.old h2) h10 Try.underlying53 Try.sizeOf22 rfl rfl rfl rfl rfl ?_
    refine TL.loadM2 (RdM.old h2) Try.isAgg22 0 h10 rfl rfl rfl rfl ?_
    refine TL.chk fun h11 => ?_
    refine TL.ixs 0 0 (RdM.inn (RdM.old h2) h10) h11 Try.underlying22 Try.sizeOf2 rfl rfl rfl rfl rfl ?_
    refine TL.loadE (RdM.inn (RdM.old h2) h10) Try.isAgg2 0 0 (gt_spec h11) (v := .int .i64 (gt (gt x4 0) 0)) rfl rfl rfl rfl rfl ?_
    refine TL.bin .i64 (gt (gt x4 0) 0) 1 rfl rfl rfl rfl (v := .bool ((gt (gt x4 0) 0) == 1)) rfl ?_
    refine TL.assign rfl rfl (v := .bool ((gt (gt x4 0) 0) == 1)) rfl ?_
    refine TL.done ?_
    exact TC.retF (Fin.body (fin1 (.inr rfl) rfl (.tmp rfl) [] rfl ⟨rfl, rfl⟩))

end Go.Proofs.Ytcombgcjgdkbiaa.G

/- impl.IsCocycle, as a pure function. -/
set_option linter.unusedVariables false
namespace Go.Proofs.Ytcombgcjgdkbiaa.G
open Go Go.Sx Go.Proofs

def impl_IsCocycle.f (p1 : Int) (g1 : Int) (g2 : Nat → UInt8) (table_1 : List (List Int)) : Option (Bool × Int) := (G.impl_tabled.f p1 g1 g2 table_1).bind (fun r_1 => (bif (r_1 != 0) then some (false, r_1) else (G.impl_Group_cocycle.f g1 g2 p1 table_1).bind (fun r_2 => some (r_2, 0))))

def impl_IsCocycle.R (r : Bool × Int) (v : Value) (L : List Asn) : Prop := v = .tuple #[.bool r.1, .int .i64 r.2] ∧ L = []

set_option maxRecDepth 100000 in
set_option maxHeartbeats 4000000 in
theorem impl_IsCocycle.calls (w : World) (p1 : Int) (g1 : Int) (g2 : Nat → UInt8) (s1 : SV) (ss1 : List SV) (table_1 : List (List Int)) (h1 : ReadsM Ei (hp w) s1 ss1 table_1) :
    ∀ r, impl_IsCocycle.f p1 g1 g2 table_1 = some r → Calls Try.prog 47 #[.int .i64 p1, sval [.one (.int .i64 g1), .arr 36 (enf u8v g2)], SV.v s1] w (Ret w (impl_IsCocycle.R r)) := by

  refine calls_T (n := 19) (Γ := [(0, .int .i64 p1), (1, sval [.one (.int .i64 g1), .arr 36 (enf u8v g2)]), (2, SV.v s1)]) (R := impl_IsCocycle.R) Try.func47 rfl rfl (Nat.le_of_ble_eq_true rfl) ⟨rfl, rfl, rfl, trivial⟩ ?_
  unfold impl_IsCocycle.f
  refine TC.seq ?_
  refine TC.region ?_
  refine TL.box [.one (.int .i64 g1), .arr 36 (enf u8v g2)] rfl rfl rfl rfl fun b_1 => ?_
  refine TL.assign rfl rfl (v := .bool false) rfl ?_
  refine TL.assign rfl rfl (v := .int .i64 0) rfl ?_
  refine TL.done ?_
  refine TC.seq ?_
  refine TC.seq ?_
  refine TC.region ?_
  refine TL.move rfl rfl (v := .int .i64 p1) rfl ?_
  refine TL.loadM 0 2 (Src.box 0 rfl) Try.isAgg37 Try.sizeOf37 (mid := [.one (.int .i64 g1), .arr 36 (enf u8v g2)]) rfl rfl rfl rfl rfl rfl ?_
  refine TL.move rfl rfl (v := SV.v s1) rfl ?_
  refine TL.call (R := G.impl_tabled.R) Try.call104 rfl rfl rfl (fun w hS => G.impl_tabled.calls w p1 g1 g2 s1 ss1 table_1 ((RdM.old h1) w hS)) ?_
  rintro r_1 _ _ ⟨rfl, rfl⟩
  refine TL.assign rfl rfl (v := .int .i64 r_1) rfl ?_
  refine TL.done ?_
  refine TC.seq ?_
  refine TC.region ?_
  refine TL.move rfl rfl (v := .int .i64 r_1) rfl ?_
  refine TL.bin .i64 r_1 0 rfl rfl rfl rfl (v := .bool (r_1 != 0)) rfl ?_
  refine TL.done ?_
  refine TC.cond (b := (r_1 != 0)) rfl (fun c1 => ?_) (fun c2 => ?_)
  · refine TC.seq ?_
    refine TC.region ?_
    refine TL.move rfl rfl (v := .int .i64 r_1) rfl ?_
    refine TL.assign rfl rfl (v := .bool false) rfl ?_
    refine TL.assign rfl rfl (v := .int .i64 r_1) rfl ?_
    refine TL.done ?_
    exact TC.retF (Fin.body (fin2 (.inr rfl) rfl (.tmp rfl) (.tmp rfl) [] rfl ⟨rfl, rfl⟩))
  · refine TC.skip ?_
    refine TC.seq ?_
    refine TC.region ?_
    refine TL.move rfl rfl (v := .int .i64 p1) rfl ?_
    refine TL.move rfl rfl (v := SV.v s1) rfl ?_
    refine TL.call (R := G.impl_Group_cocycle.R) Try.call105 rfl rfl rfl (fun w hS => G.impl_Group_cocycle.calls w b_1 g1 g2 p1 s1 ss1 table_1 ((Src.box 0 rfl) w hS) ((RdM.old h1) w hS)) ?_
    rintro r_2 _ _ ⟨rfl, rfl⟩
    refine TL.assign rfl rfl (v := .bool r_2) rfl ?_
    refine TL.assign rfl rfl (v := .int .i64 0) rfl ?_
    refine TL.done ?_
    exact TC.retF (Fin.body (fin2 (.inr rfl) rfl (.tmp rfl) (.tmp rfl) [] rfl ⟨rfl, rfl⟩))

end Go.Proofs.Ytcombgcjgdkbiaa.G

/- impl.twisting, as a pure function. -/
set_option linter.unusedVariables false
namespace Go.Proofs.Ytcombgcjgdkbiaa.G
open Go Go.Sx Go.Proofs

def impl_twisting.f (p1 : Int) (g1 : Int) (g2 : Nat → UInt8) (table_1 : List (List Int)) : Option Int := (G.impl_IsCocycle.f p1 g1 g2 table_1).bind (fun p => match p with | (r_1, r_2) => (bif ((r_2 == 0) && (!r_1)) then some 2 else some r_2))

def impl_twisting.R (r : Int) (v : Value) (L : List Asn) : Prop := v = .int .i64 r ∧ L = []

set_option maxRecDepth 100000 in
set_option maxHeartbeats 4000000 in
theorem impl_twisting.calls (w : World) (p1 : Int) (g1 : Int) (g2 : Nat → UInt8) (s1 : SV) (ss1 : List SV) (table_1 : List (List Int)) (h1 : ReadsM Ei (hp w) s1 ss1 table_1) :
    ∀ r, impl_twisting.f p1 g1 g2 table_1 = some r → Calls Try.prog 107 #[.int .i64 p1, sval [.one (.int .i64 g1), .arr 36 (enf u8v g2)], SV.v s1] w (Ret w (impl_twisting.R r)) := by

  refine calls_T (n := 23) (Γ := [(0, .int .i64 p1), (1, sval [.one (.int .i64 g1), .arr 36 (enf u8v g2)]), (2, SV.v s1)]) (R := impl_twisting.R) Try.func107 rfl rfl (Nat.le_of_ble_eq_true rfl) ⟨rfl, rfl, rfl, trivial⟩ ?_
  unfold impl_twisting.f
  refine TC.seq ?_
  refine TC.region ?_
  refine TL.box [.one (.int .i64 g1), .arr 36 (enf u8v g2)] rfl rfl rfl rfl fun b_1 => ?_
  refine TL.assign rfl rfl (v := .int .i64 0) rfl ?_
  refine TL.done ?_
  refine TC.seq ?_
  refine TC.region ?_
  refine TL.move rfl rfl (v := .int .i64 p1) rfl ?_
  refine TL.loadM 0 2 (Src.box 0 rfl) Try.isAgg37 Try.sizeOf37 (mid := [.one (.int .i64 g1), .arr 36 (enf u8v g2)]) rfl rfl rfl rfl rfl rfl ?_
  refine TL.move rfl rfl (v := SV.v s1) rfl ?_
  refine TL.call (R := G.impl_IsCocycle.R) Try.call47 rfl rfl rfl (fun w hS => G.impl_IsCocycle.calls w p1 g1 g2 s1 ss1 table_1 ((RdM.old h1) w hS)) ?_
  rintro ⟨r_1, r_2⟩ _ _ ⟨rfl, rfl⟩
  refine TL.move rfl rfl (v := .tuple #[.bool r_1, .int .i64 r_2]) rfl ?_
  refine TL.extract rfl rfl rfl (v := .bool r_1) rfl ?_
  refine TL.extract rfl rfl rfl (v := .int .i64 r_2) rfl ?_
  refine TL.assign rfl rfl (v := .bool r_1) rfl ?_
  refine TL.assign rfl rfl (v := .int .i64 r_2) rfl ?_
  refine TL.done ?_
  refine TC.seq ?_
  refine TC.seq ?_
  refine TC.region ?_
  refine TL.move rfl rfl (v := .int .i64 r_2) rfl ?_
  refine TL.bin .i64 r_2 0 rfl rfl rfl rfl (v := .bool (r_2 == 0)) rfl ?_
  refine TL.move rfl rfl (v := .bool (r_2 == 0)) rfl ?_
  refine TL.cutU 3 [(21, .bool ((r_2 == 0) && (!r_1))), (0, .int .i64 p1), (1, sval [.one (.int .i64 g1), .arr 36 (enf u8v g2)]), (2, SV.v s1), (4, bp b_1 0), (6, .int .i64 0), (10, .int .i64 p1), (11, sval [.one (.int .i64 g1), .arr 36 (enf u8v g2)]), (12, SV.v s1), (13, .tuple #[.bool r_1, .int .i64 r_2]), (9, .tuple #[.bool r_1, .int .i64 r_2]), (14, .bool r_1), (15, .int .i64 r_2), (7, .bool r_1), (8, .int .i64 r_2), (16, .int .i64 r_2), (17, .bool (r_2 == 0)), (18, .bool (r_2 == 0))] [box b_1 37 [.one (.int .i64 g1), .arr 36 (enf u8v g2)]] ?_ ?_
  · refine TL.cases (t := 18) (b := (r_2 == 0)) rfl (fun c1 => ?_) (fun c2 => ?_)
    · refine TL.move rfl rfl (v := .bool r_1) rfl ?_
      refine TL.not r_1 rfl rfl rfl ?_
      refine TL.pick rfl rfl (b := true) rfl (r := .bool (!r_1)) rfl ?_
      refine TL.done ?_
      exact TC.nrm () () ⟨(by rw [c1]; rfl), rfl, rfl, rfl, rfl, rfl, rfl, rfl, rfl, rfl, rfl, rfl, rfl, rfl, rfl, rfl, rfl, (by rw [c1]; rfl), trivial⟩ [0] rfl
    · refine TL.skip rfl rfl (by decide) ?_
      refine TL.skip rfl rfl (by decide) ?_
      refine TL.pick rfl rfl (b := false) rfl (r := .bool false) rfl ?_
      refine TL.done ?_
      exact TC.nrm () () ⟨(by rw [c2]; rfl), rfl, rfl, rfl, rfl, rfl, rfl, rfl, rfl, rfl, rfl, rfl, rfl, rfl, rfl, rfl, rfl, (by rw [c2]; rfl), trivial⟩ [0] rfl
  · refine TL.done ?_
    refine TC.cond (b := ((r_2 == 0) && (!r_1))) rfl (fun c3 => ?_) (fun c4 => ?_)
    · refine TC.seq ?_
      refine TC.region ?_
      refine TL.assign rfl rfl (v := .int .i64 2) rfl ?_
      refine TL.done ?_
      exact TC.retF (Fin.body (fin1 (.inr rfl) rfl (.tmp rfl) [] rfl ⟨rfl, rfl⟩))
    · refine TC.skip ?_
      refine TC.seq ?_
      refine TC.region ?_
      refine TL.move rfl rfl (v := .int .i64 r_2) rfl ?_
      refine TL.assign rfl rfl (v := .int .i64 r_2) rfl ?_
      refine TL.done ?_
      exact TC.retF (Fin.body (fin1 (.inr rfl) rfl (.tmp rfl) [] rfl ⟨rfl, rfl⟩))

end Go.Proofs.Ytcombgcjgdkbiaa.G

/- impl.TwistedAlgebra, as a pure function. -/
set_option linter.unusedVariables false
namespace Go.Proofs.Ytcombgcjgdkbiaa.G
open Go Go.Sx Go.Proofs

def impl_TwistedAlgebra.b0 (table_1 : List (List Int)) (x1 : Int) (g1 : Int) (g2 : Nat → UInt8) : (Nat → UInt8) × Int → Option (LB ((Nat → UInt8) × Int)) := fun p => match p with | (a_2, x2) => (bif (decide (x2 < ((gt table_1 x1).length : Int))) then chk x2 ((gt table_1 x1).length) ((G.impl_Group_times.f g1 g2 x1 x2).bind (fun r_6 => chk x1 6 (chk x2 6 (chk r_6 6 (some (.next ((upd a_2 (x1.toNat * 36 + x2.toNat * 6 + r_6.toNat) (UInt8.ofInt (gt (gt table_1 x1) x2))), (w64 (x2 + 1))))))))) else some (.brk (a_2, x2)))

def impl_TwistedAlgebra.b1 (table_1 : List (List Int)) (g1 : Int) (g2 : Nat → UInt8) : (Nat → UInt8) × Int → Option (LB ((Nat → UInt8) × Int)) := fun p => match p with | (a_1, x1) => (bif (decide (x1 < (table_1.length : Int))) then chk x1 table_1.length ((loop1 (impl_TwistedAlgebra.b0 table_1 x1 g1 g2) (a_1, 0)).bind (fun p => match p with | (a_2, x2) => some (.next (a_2, (w64 (x1 + 1)))))) else some (.brk (a_1, x1)))

def impl_TwistedAlgebra.f (p1 : Int) (g1 : Int) (g2 : Nat → UInt8) (table_1 : List (List Int)) : Option (Int × Int × (Nat → UInt8) × (Nat → UInt8) × Int) := (G.impl_twisting.f p1 g1 g2 table_1).bind (fun r_1 => (bif (r_1 != 0) then some (0, 0, (fun _ => (0 : UInt8)), (fun _ => (0 : UInt8)), r_1) else (G.impl_Group_algebra.f g1 g2 p1).bind (fun p => match p with | (r_2, r_3, r_4, r_5) => (loop1 (impl_TwistedAlgebra.b1 table_1 g1 g2) (r_4, 0)).bind (fun p => match p with | (a_1, x1) => some (r_2, r_3, a_1, r_5, 0)))))

def impl_TwistedAlgebra.R (r : Int × Int × (Nat → UInt8) × (Nat → UInt8) × Int) (v : Value) (L : List Asn) : Prop := v = .tuple #[sval [.one (.int .i64 r.1), .one (.int .i64 r.2.1), .arr 216 (enf u8v r.2.2.1), .arr 6 (enf u8v r.2.2.2.1)], .int .i64 r.2.2.2.2] ∧ L = []

set_option maxRecDepth 100000 in
set_option maxHeartbeats 4000000 in
theorem impl_TwistedAlgebra.calls (w : World) (p1 : Int) (g1 : Int) (g2 : Nat → UInt8) (s1 : SV) (ss1 : List SV) (table_1 : List (List Int)) (h1 : ReadsM Ei (hp w) s1 ss1 table_1) :
    ∀ r, impl_TwistedAlgebra.f p1 g1 g2 table_1 = some r → Calls Try.prog 49 #[.int .i64 p1, sval [.one (.int .i64 g1), .arr 36 (enf u8v g2)], SV.v s1] w (Ret w (impl_TwistedAlgebra.R r)) := by

  refine calls_T (n := 52) (Γ := [(0, .int .i64 p1), (1, sval [.one (.int .i64 g1), .arr 36 (enf u8v g2)]), (2, SV.v s1)]) (R := impl_TwistedAlgebra.R) Try.func49 rfl rfl (Nat.le_of_ble_eq_true rfl) ⟨rfl, rfl, rfl, trivial⟩ ?_
  unfold impl_TwistedAlgebra.f
  refine TC.seq ?_
  refine TC.region ?_
  refine TL.box [.one (.int .i64 g1), .arr 36 (enf u8v g2)] rfl rfl rfl rfl fun b_1 => ?_
  refine TL.alloc [.one (.int .i64 0), .one (.int .i64 0), .arr 216 (enf u8v (fun _ => (0 : UInt8))), .arr 6 (enf u8v (fun _ => (0 : UInt8)))] rfl rfl Try.zeroValue45 rfl fun b_2 => ?_
  refine TL.assign rfl rfl (v := .int .i64 0) rfl ?_
  refine TL.done ?_
  refine TC.seq ?_
  refine TC.seq ?_
  refine TC.region ?_
  refine TL.move rfl rfl (v := .int .i64 p1) rfl ?_
  refine TL.loadM 0 2 (Src.box 1 rfl) Try.isAgg37 Try.sizeOf37 (mid := [.one (.int .i64 g1), .arr 36 (enf u8v g2)]) rfl rfl rfl rfl rfl rfl ?_
  refine TL.move rfl rfl (v := SV.v s1) rfl ?_
  refine TL.call (R := G.impl_twisting.R) Try.call107 rfl rfl rfl (fun w hS => G.impl_twisting.calls w p1 g1 g2 s1 ss1 table_1 ((RdM.old h1) w hS)) ?_
  rintro r_1 _ _ ⟨rfl, rfl⟩
  refine TL.assign rfl rfl (v := .int .i64 r_1) rfl ?_
  refine TL.done ?_
  refine TC.seq ?_
  refine TC.region ?_
  refine TL.move rfl rfl (v := .int .i64 r_1) rfl ?_
  refine TL.bin .i64 r_1 0 rfl rfl rfl rfl (v := .bool (r_1 != 0)) rfl ?_
  refine TL.done ?_
  refine TC.cond (b := (r_1 != 0)) rfl (fun c1 => ?_) (fun c2 => ?_)
  · refine TC.seq ?_
    refine TC.region ?_
    refine TL.buildS (segs0 := [.one (.int .i64 0), .one (.int .i64 0), .arr 216 (enf u8v (fun _ => (0 : UInt8))), .arr 6 (enf u8v (fun _ => (0 : UInt8)))]) (segs := [.one (.int .i64 0), .one (.int .i64 0), .arr 216 (enf u8v (fun _ => (0 : UInt8))), .arr 6 (enf u8v (fun _ => (0 : UInt8)))]) [1, 1, 216, 6] Try.underlying45 ⟨Try.sizeOf2, Try.sizeOf2, Try.sizeOf42, Try.sizeOf43, trivial⟩ Try.zeroValue45 rfl [] rfl (fun pl hpl => by subst hpl; exact rfl) rfl rfl ?_
    refine TL.move rfl rfl (v := .int .i64 r_1) rfl ?_
    refine TL.stM (news := [.one (.int .i64 0), .one (.int .i64 0), .arr 216 (enf u8v (fun _ => (0 : UInt8))), .arr 6 (enf u8v (fun _ => (0 : UInt8)))]) 0 0 4 rfl Try.sizeOf45 (ones_one rfl (ones_one rfl (ones_arr (fun _ => rfl) (ones_arr (fun _ => rfl) ones_nil)))) rfl rfl rfl rfl rfl rfl ?_
    refine TL.assign rfl rfl (v := .int .i64 r_1) rfl ?_
    refine TL.done ?_
    exact TC.retF (Fin.body (fin2 (.inr rfl) rfl (.cellN rfl (Src.box 0 rfl) Try.isAgg45 Try.sizeOf45 rfl) (.tmp rfl) [] rfl ⟨rfl, rfl⟩))
  · refine TC.skip ?_
    refine TC.seq ?_
    refine TC.region ?_
    refine TL.move rfl rfl (v := .int .i64 p1) rfl ?_
    refine TL.call (R := G.impl_Group_algebra.R) Try.call98 rfl rfl rfl (fun w hS => G.impl_Group_algebra.calls w b_1 g1 g2 p1 ((Src.box 1 rfl) w hS)) ?_
    rintro ⟨r_2, r_3, r_4, r_5⟩ _ _ ⟨rfl, rfl⟩
    refine TL.alloc [.one (.int .i64 0), .one (.int .i64 0), .arr 216 (enf u8v (fun _ => (0 : UInt8))), .arr 6 (enf u8v (fun _ => (0 : UInt8)))] rfl rfl Try.zeroValue45 rfl fun b_3 => ?_
    refine TL.stM (news := [.one (.int .i64 r_2), .one (.int .i64 r_3), .arr 216 (enf u8v r_4), .arr 6 (enf u8v r_5)]) 0 0 4 rfl Try.sizeOf45 (ones_one rfl (ones_one rfl (ones_arr (fun _ => rfl) (ones_arr (fun _ => rfl) ones_nil)))) rfl rfl rfl rfl rfl rfl ?_
    refine TL.done ?_
    refine TC.seq ?_
    refine TC.seq ?_
    refine TC.region ?_
    refine TL.move rfl rfl (v := SV.v s1) rfl ?_
    refine TL.lenM (RdM.old h1) Try.underlying53 rfl rfl rfl ?_
    refine TL.move rfl rfl (v := .int .i64 0) rfl ?_
    refine TL.done ?_
    refine TC.loop1 (σ := (Nat → UInt8) × Int) (γ := Unit) (Γ' := (fun p q => match p, q with | (a_1, x1), _ => [(4, bp b_1 0), (6, bp b_2 0), (9, bp b_3 0), (24, SV.v s1), (25, .int .i64 (table_1.length : Int)), (26, .int .i64 x1)])) (L' := (fun p q => match p, q with | (a_1, x1), _ => [box b_1 37 [.one (.int .i64 g1), .arr 36 (enf u8v g2)], box b_2 45 [.one (.int .i64 0), .one (.int .i64 0), .arr 216 (enf u8v (fun _ => (0 : UInt8))), .arr 6 (enf u8v (fun _ => (0 : UInt8)))], box b_3 45 [.one (.int .i64 r_2), .one (.int .i64 r_3), .arr 216 (enf u8v a_1), .arr 6 (enf u8v r_5)]])) (Γb := (fun p q => match p, q with | (a_1, x1), _ => [(4, bp b_1 0), (6, bp b_2 0), (9, bp b_3 0), (24, SV.v s1), (25, .int .i64 (table_1.length : Int)), (26, .int .i64 x1)])) (Lb := (fun p q => match p, q with | (a_1, x1), _ => [box b_1 37 [.one (.int .i64 g1), .arr 36 (enf u8v g2)], box b_2 45 [.one (.int .i64 0), .one (.int .i64 0), .arr 216 (enf u8v (fun _ => (0 : UInt8))), .arr 6 (enf u8v (fun _ => (0 : UInt8)))], box b_3 45 [.one (.int .i64 r_2), .one (.int .i64 r_3), .arr 216 (enf u8v a_1), .arr 6 (enf u8v r_5)]])) ((r_4, 0)) (()) ⟨rfl, rfl, rfl, rfl, rfl, rfl, trivial⟩ [2, 1, 0] rfl ?_ ?_
    · rintro ⟨a_1, x1⟩ _
      refine TC.seq ?_
      refine TC.region ?_
      refine TL.bin .i64 x1 (table_1.length : Int) rfl rfl rfl rfl (v := .bool (decide (x1 < (table_1.length : Int)))) rfl ?_
      refine TL.done ?_
      refine TC.seq ?_
      refine TC.cond (b := (decide (x1 < (table_1.length : Int)))) rfl (fun c3 => ?_) (fun c4 => ?_)
      · refine TC.skip ?_
        refine TC.seq ?_
        refine TC.block (NoEx.loop1 rfl) ?_
        refine TC.seq ?_
        refine TC.region ?_
        refine TL.move rfl rfl (v := .int .i64 x1) rfl ?_
        refine TL.chk fun h2 => ?_
        refine TL.ixsM x1 x1.toNat (RdM.old h1) h2 Try.underlying53 Try.sizeOf22 rfl rfl rfl rfl (by omega) ?_
        refine TL.loadM2 (RdM.old h1) Try.isAgg22 x1 h2 (by omega) rfl rfl rfl ?_
        refine TL.assign rfl rfl (v := .int .i64 x1) rfl ?_
        refine TL.assign rfl rfl (v := SV.v (gt ss1 x1)) rfl ?_
        refine TL.done ?_
        refine TC.seq ?_
        refine TC.region ?_
        refine TL.move rfl rfl (v := SV.v (gt ss1 x1)) rfl ?_
        refine TL.len (RdM.inn (RdM.old h1) h2) Try.underlying22 rfl rfl rfl ?_
        refine TL.move rfl rfl (v := .int .i64 0) rfl ?_
        refine TL.done ?_
        refine TC.loop1 (σ := (Nat → UInt8) × Int) (γ := Unit) (Γ' := (fun p q => match p, q with | (a_2, x2), _ => [(4, bp b_1 0), (6, bp b_2 0), (9, bp b_3 0), (10, .int .i64 x1), (24, SV.v s1), (25, .int .i64 (table_1.length : Int)), (26, .int .i64 x1), (31, SV.v (gt ss1 x1)), (32, .int .i64 ((gt table_1 x1).length : Int)), (33, .int .i64 x2)])) (L' := (fun p q => match p, q with | (a_2, x2), _ => [box b_1 37 [.one (.int .i64 g1), .arr 36 (enf u8v g2)], box b_2 45 [.one (.int .i64 0), .one (.int .i64 0), .arr 216 (enf u8v (fun _ => (0 : UInt8))), .arr 6 (enf u8v (fun _ => (0 : UInt8)))], box b_3 45 [.one (.int .i64 r_2), .one (.int .i64 r_3), .arr 216 (enf u8v a_2), .arr 6 (enf u8v r_5)]])) (Γb := (fun p q => match p, q with | (a_2, x2), _ => [(4, bp b_1 0), (6, bp b_2 0), (9, bp b_3 0), (10, .int .i64 x1), (24, SV.v s1), (25, .int .i64 (table_1.length : Int)), (26, .int .i64 x1), (31, SV.v (gt ss1 x1)), (32, .int .i64 ((gt table_1 x1).length : Int)), (33, .int .i64 x2)])) (Lb := (fun p q => match p, q with | (a_2, x2), _ => [box b_1 37 [.one (.int .i64 g1), .arr 36 (enf u8v g2)], box b_2 45 [.one (.int .i64 0), .one (.int .i64 0), .arr 216 (enf u8v (fun _ => (0 : UInt8))), .arr 6 (enf u8v (fun _ => (0 : UInt8)))], box b_3 45 [.one (.int .i64 r_2), .one (.int .i64 r_3), .arr 216 (enf u8v a_2), .arr 6 (enf u8v r_5)]])) ((a_1, 0)) (()) ⟨rfl, rfl, rfl, rfl, rfl, rfl, rfl, rfl, rfl, rfl, trivial⟩ [0, 0, 0] rfl ?_ ?_
        · rintro ⟨a_2, x2⟩ _
          refine TC.seq ?_
          refine TC.region ?_
          refine TL.bin .i64 x2 ((gt table_1 x1).length : Int) rfl rfl rfl rfl (v := .bool (decide (x2 < ((gt table_1 x1).length : Int)))) rfl ?_
          refine TL.done ?_
          refine TC.seq ?_
          refine TC.cond (b := (decide (x2 < ((gt table_1 x1).length : Int)))) rfl (fun c5 => ?_) (fun c6 => ?_)
          · refine TC.skip ?_
            refine TC.seq ?_
            refine TC.block (NoEx.loop1 rfl) ?_
            refine TC.seq ?_
            refine TC.region ?_
            refine TL.move rfl rfl (v := .int .i64 x2) rfl ?_
            refine TL.chk fun h3 => ?_
            refine TL.ixs x2 x2.toNat (RdM.inn (RdM.old h1) h2) h3 Try.underlying22 Try.sizeOf2 rfl rfl rfl rfl (by omega) ?_
            refine TL.loadE (RdM.inn (RdM.old h1) h2) Try.isAgg2 x2.toNat 0 (gt_spec h3) (v := .int .i64 (gt (gt table_1 x1) x2)) rfl (by simp only [show Ei.sz = 1 from rfl]; omega) rfl rfl rfl ?_
            refine TL.assign rfl rfl (v := .int .i64 x2) rfl ?_
            refine TL.assign rfl rfl (v := .int .i64 (gt (gt table_1 x1) x2)) rfl ?_
            refine TL.done ?_
            refine TC.wk (Γ' := [(4, bp b_1 0), (6, bp b_2 0), (9, bp b_3 0), (10, .int .i64 x1), (24, SV.v s1), (25, .int .i64 (table_1.length : Int)), (26, .int .i64 x1), (31, SV.v (gt ss1 x1)), (32, .int .i64 ((gt table_1 x1).length : Int)), (33, .int .i64 x2), (34, .bool (decide (x2 < ((gt table_1 x1).length : Int)))), (35, .int .i64 x2), (36, ep (gt ss1 x1) x2.toNat), (37, .int .i64 (gt (gt table_1 x1) x2)), (12, .int .i64 x2), (13, .int .i64 (gt (gt table_1 x1) x2))]) ⟨rfl, rfl, rfl, rfl, rfl, rfl, rfl, rfl, rfl, rfl, rfl, rfl, rfl, rfl, rfl, rfl, trivial⟩ ?_
            refine TC.bindE ?_
            rintro r_6 hr1
            refine TC.chk fun h4 => ?_
            refine TC.chk fun h5 => ?_
            refine TC.chk fun h6 => ?_
            refine TC.drawG [(4, bp b_1 0), (6, bp b_2 0), (9, bp b_3 0), (10, .int .i64 x1), (24, SV.v s1), (25, .int .i64 (table_1.length : Int)), (26, .int .i64 x1), (31, SV.v (gt ss1 x1)), (32, .int .i64 ((gt table_1 x1).length : Int)), (33, .int .i64 x2), (34, .bool (decide (x2 < ((gt table_1 x1).length : Int)))), (35, .int .i64 x2), (36, ep (gt ss1 x1) x2.toNat), (37, .int .i64 (gt (gt table_1 x1) x2)), (12, .int .i64 x2), (13, .int .i64 (gt (gt table_1 x1) x2))] [] ⟨rfl, rfl, rfl, rfl, rfl, rfl, rfl, rfl, rfl, rfl, rfl, rfl, rfl, rfl, rfl, rfl, trivial⟩ trivial (fun l_ g3 => [box b_1 37 [.one (.int .i64 g1), .arr 36 (enf u8v g2)], box b_2 45 [.one (.int .i64 0), .one (.int .i64 0), .arr 216 (enf u8v (fun _ => (0 : UInt8))), .arr 6 (enf u8v (fun _ => (0 : UInt8)))], (bif nb l_ 11 then box b_3 45 [.one (.int .i64 r_2), .one (.int .i64 r_3), .arr 216 (enf u8v (upd a_2 (x1.toNat * 36 + x2.toNat * 6 + r_6.toNat) (UInt8.ofInt (gt (gt table_1 x1) x2)))), .arr 6 (enf u8v r_5)] else box b_3 45 [.one (.int .i64 r_2), .one (.int .i64 r_3), .arr 216 (enf u8v a_2), .arr 6 (enf u8v r_5)])]) (fun g3 => [.int .i64 x1, .int .i64 x2, .int .i64 x1, .int .i64 x2, .int .i64 r_6, .int .i64 (gt (gt table_1 x1) x2), u8v (UInt8.ofInt (gt (gt table_1 x1) x2)), bp b_3 2, bp b_3 (2 + x1.toNat * 36), bp b_3 (2 + (x1.toNat * 36 + x2.toNat * 6)), bp b_3 (2 + (x1.toNat * 36 + x2.toNat * 6 + r_6.toNat)), undef]) [[], [], [], [], [2, 3], [], [5], [], [0, 7], [0, 1, 7, 8], [0, 1, 2, 3, 4, 5, 6, 7, 8, 9], [0, 1, 2, 3, 4, 5, 6, 7, 8, 9, 10]] [[some false, none, none, none, none, none, none, none, some false, some false, some false, some false], [none, some false, none, none, none, none, none, none, none, some false, some false, some false], [none, none, some false, none, some false, none, none, none, none, none, some false, some false], [none, none, none, some false, some false, none, none, none, none, none, some false, some false], [none, none, some true, some true, some false, none, none, none, none, none, some false, some false], [none, none, none, none, none, some false, some false, none, none, none, some false, some false], [none, none, none, none, none, some true, some false, none, none, none, some false, some false], [none, none, none, none, none, none, none, some false, some false, some false, some false, some false], [some true, none, none, none, none, none, none, some true, some false, some false, some false, some false], [some true, some true, none, none, none, none, none, some true, some true, some false, some false, some false], [some true, some true, some true, some true, some true, some true, some true, some true, some true, some true, some false, some false], [some true, some true, some true, some true, some true, some true, some true, some true, some true, some true, some true, some false]] (by kernel_rfl) (fun _ => rfl) rfl rfl rfl rfl rfl (fun _ _ => ⟨⟨⟨⟨⟨⟨⟨⟨⟨⟨⟨⟨trivial, rfl⟩, rfl⟩, rfl⟩, rfl⟩, rfl⟩, rfl⟩, rfl⟩, rfl⟩, rfl⟩, rfl⟩, rfl⟩, rfl⟩) 0 [0, 0, 0] (fun _ => rfl) ?_ ?_
            · refine ⟨rfl, ?_, rfl, ?_, rfl, ?_, rfl, ?_, rfl, ?_, rfl, ?_, rfl, ?_, rfl, ?_, rfl, ?_, rfl, ?_, rfl, ?_, rfl, ?_, trivial⟩
              · intro b1_ b2_ b3_ b4_ b5_ b6_ b7_ g3
                refine TL.move rfl rfl (v := .int .i64 x1) rfl ?_
                refine TL.done ?_
                exact TC.nrm () [] ⟨rfl, trivial⟩ [0, 0, 0] rfl
              · intro b0_ b2_ b3_ b4_ b5_ b6_ b7_ b8_ g3
                refine TL.move rfl rfl (v := .int .i64 x2) rfl ?_
                refine TL.done ?_
                exact TC.nrm () [] ⟨rfl, trivial⟩ [0, 0, 0] rfl
              · intro b0_ b1_ b3_ b5_ b6_ b7_ b8_ b9_ g3
                refine TL.move rfl rfl (v := .int .i64 x1) rfl ?_
                refine TL.done ?_
                exact TC.nrm () [] ⟨rfl, trivial⟩ [0, 0, 0] rfl
              · intro b0_ b1_ b2_ b5_ b6_ b7_ b8_ b9_ g3
                refine TL.move rfl rfl (v := .int .i64 x2) rfl ?_
                refine TL.done ?_
                exact TC.nrm () [] ⟨rfl, trivial⟩ [0, 0, 0] rfl
              · intro b0_ b1_ b5_ b6_ b7_ b8_ b9_ g3
                refine TL.asL [box b_1 37 [.one (.int .i64 g1), .arr 36 (enf u8v g2)], box b_2 45 [.one (.int .i64 0), .one (.int .i64 0), .arr 216 (enf u8v (fun _ => (0 : UInt8))), .arr 6 (enf u8v (fun _ => (0 : UInt8)))], box b_3 45 [.one (.int .i64 r_2), .one (.int .i64 r_3), .arr 216 (enf u8v a_2), .arr 6 (enf u8v r_5)]] rfl ?_
                refine TL.callH (R := G.impl_Group_times.R) hr1 Try.call66 rfl rfl rfl (fun w hS => G.impl_Group_times.calls w b_1 g1 g2 x1 x2 ((Src.box 0 rfl) w hS)) ?_
                rintro _ _ ⟨rfl, rfl⟩
                refine TL.done ?_
                exact TC.nrm () [] ⟨rfl, trivial⟩ [0, 0, 0] rfl
              · intro b0_ b1_ b2_ b3_ b4_ b7_ b8_ b9_ g3
                refine TL.move rfl rfl (v := .int .i64 (gt (gt table_1 x1) x2)) rfl ?_
                refine TL.done ?_
                exact TC.nrm () [] ⟨rfl, trivial⟩ [0, 0, 0] rfl
              · intro b0_ b1_ b2_ b3_ b4_ b7_ b8_ b9_ g3
                refine TL.conv .i64 .u8 (gt (gt table_1 x1) x2) _ rfl rfl rfl Try.underlying2 Try.underlying5 (v := u8v (UInt8.ofInt (gt (gt table_1 x1) x2))) (conv_i64_u8 _) ?_
                refine TL.done ?_
                exact TC.nrm () [] ⟨rfl, trivial⟩ [0, 0, 0] rfl
              · intro b0_ b1_ b2_ b3_ b4_ b5_ b6_ g3
                refine TL.asL [box b_1 37 [.one (.int .i64 g1), .arr 36 (enf u8v g2)], box b_2 45 [.one (.int .i64 0), .one (.int .i64 0), .arr 216 (enf u8v (fun _ => (0 : UInt8))), .arr 6 (enf u8v (fun _ => (0 : UInt8)))], box b_3 45 [.one (.int .i64 r_2), .one (.int .i64 r_3), .arr 216 (enf u8v a_2), .arr 6 (enf u8v r_5)]] rfl ?_
                refine TL.fa Try.underlying45 rfl Try.sizeOf42 rfl 2 rfl rfl rfl rfl ?_
                refine TL.done ?_
                exact TC.nrm () [] ⟨rfl, trivial⟩ [0, 0, 0] rfl
              · intro b1_ b2_ b3_ b4_ b5_ b6_ g3
                refine TL.asL [box b_1 37 [.one (.int .i64 g1), .arr 36 (enf u8v g2)], box b_2 45 [.one (.int .i64 0), .one (.int .i64 0), .arr 216 (enf u8v (fun _ => (0 : UInt8))), .arr 6 (enf u8v (fun _ => (0 : UInt8)))], box b_3 45 [.one (.int .i64 r_2), .one (.int .i64 r_3), .arr 216 (enf u8v a_2), .arr 6 (enf u8v r_5)]] rfl ?_
                refine TL.ixa x1 (2 + x1.toNat * 36) h4 Try.underlying42 Try.sizeOf33 rfl rfl rfl rfl (by omega) ?_
                refine TL.done ?_
                exact TC.nrm () [] ⟨rfl, trivial⟩ [0, 0, 0] rfl
              · intro b2_ b3_ b4_ b5_ b6_ g3
                refine TL.asL [box b_1 37 [.one (.int .i64 g1), .arr 36 (enf u8v g2)], box b_2 45 [.one (.int .i64 0), .one (.int .i64 0), .arr 216 (enf u8v (fun _ => (0 : UInt8))), .arr 6 (enf u8v (fun _ => (0 : UInt8)))], box b_3 45 [.one (.int .i64 r_2), .one (.int .i64 r_3), .arr 216 (enf u8v a_2), .arr 6 (enf u8v r_5)]] rfl ?_
                refine TL.ixa x2 (2 + (x1.toNat * 36 + x2.toNat * 6)) h5 Try.underlying33 Try.sizeOf32 rfl rfl rfl rfl (by omega) ?_
                refine TL.done ?_
                exact TC.nrm () [] ⟨rfl, trivial⟩ [0, 0, 0] rfl
              · intro g3
                refine TL.asL [box b_1 37 [.one (.int .i64 g1), .arr 36 (enf u8v g2)], box b_2 45 [.one (.int .i64 0), .one (.int .i64 0), .arr 216 (enf u8v (fun _ => (0 : UInt8))), .arr 6 (enf u8v (fun _ => (0 : UInt8)))], box b_3 45 [.one (.int .i64 r_2), .one (.int .i64 r_3), .arr 216 (enf u8v a_2), .arr 6 (enf u8v r_5)]] rfl ?_
                refine TL.ixa r_6 (2 + (x1.toNat * 36 + x2.toNat * 6 + r_6.toNat)) h6 Try.underlying32 Try.sizeOf5 rfl rfl rfl rfl (by omega) ?_
                refine TL.done ?_
                exact TC.nrm () [] ⟨rfl, trivial⟩ [0, 0, 0] rfl
              · intro g3
                refine TL.asL [box b_1 37 [.one (.int .i64 g1), .arr 36 (enf u8v g2)], box b_2 45 [.one (.int .i64 0), .one (.int .i64 0), .arr 216 (enf u8v (fun _ => (0 : UInt8))), .arr 6 (enf u8v (fun _ => (0 : UInt8)))], box b_3 45 [.one (.int .i64 r_2), .one (.int .i64 r_3), .arr 216 (enf u8v a_2), .arr 6 (enf u8v r_5)]] rfl ?_
                refine TL.stA (e := u8v) (z := (UInt8.ofInt (gt (gt table_1 x1) x2))) 2 2 (x1.toNat * 36 + x2.toNat * 6 + r_6.toNat) rfl Try.sizeOf5 rfl (by omega) (s := 2) rfl (by omega) rfl rfl rfl rfl rfl ?_
                refine TL.done ?_
                exact TC.nrm () [] trivial [0, 0, 0] rfl
            · intro g3
              refine TC.asL [box b_1 37 [.one (.int .i64 g1), .arr 36 (enf u8v g2)], box b_2 45 [.one (.int .i64 0), .one (.int .i64 0), .arr 216 (enf u8v (fun _ => (0 : UInt8))), .arr 6 (enf u8v (fun _ => (0 : UInt8)))], box b_3 45 [.one (.int .i64 r_2), .one (.int .i64 r_3), .arr 216 (enf u8v (upd a_2 (x1.toNat * 36 + x2.toNat * 6 + r_6.toNat) (UInt8.ofInt (gt (gt table_1 x1) x2)))), .arr 6 (enf u8v r_5)]] rfl ?_
              refine TC.region ?_
              refine TL.bin .i64 x2 1 rfl rfl rfl rfl (v := .int .i64 (w64 (x2 + 1))) rfl ?_
              refine TL.move rfl rfl (v := .int .i64 (w64 (x2 + 1))) rfl ?_
              refine TL.done ?_
              exact TC.next1 (((upd a_2 (x1.toNat * 36 + x2.toNat * 6 + r_6.toNat) (UInt8.ofInt (gt (gt table_1 x1) x2))), (w64 (x2 + 1)))) (()) ⟨rfl, rfl, rfl, rfl, rfl, rfl, rfl, rfl, rfl, rfl, trivial⟩ [0, 0, 0] rfl
          · exact TC.brk1 ((a_2, x2)) (()) ⟨rfl, rfl, rfl, rfl, rfl, rfl, rfl, rfl, rfl, rfl, trivial⟩ [0, 0, 0] rfl
        · rintro ⟨a_2, x2⟩ _
          refine TC.region ?_
          refine TL.bin .i64 x1 1 rfl rfl rfl rfl (v := .int .i64 (w64 (x1 + 1))) rfl ?_
          refine TL.move rfl rfl (v := .int .i64 (w64 (x1 + 1))) rfl ?_
          refine TL.done ?_
          exact TC.next1 ((a_2, (w64 (x1 + 1)))) (()) ⟨rfl, rfl, rfl, rfl, rfl, rfl, trivial⟩ [0, 0, 0] rfl
      · exact TC.brk1 ((a_1, x1)) (()) ⟨rfl, rfl, rfl, rfl, rfl, rfl, trivial⟩ [0, 0, 0] rfl
    · rintro ⟨a_1, x1⟩ _
      refine TC.seq ?_
      refine TC.region ?_
      refine TL.loadM 0 4 (Src.box 2 rfl) Try.isAgg45 Try.sizeOf45 (mid := [.one (.int .i64 r_2), .one (.int .i64 r_3), .arr 216 (enf u8v a_1), .arr 6 (enf u8v r_5)]) rfl rfl rfl rfl rfl rfl ?_
      refine TL.stM (news := [.one (.int .i64 r_2), .one (.int .i64 r_3), .arr 216 (enf u8v a_1), .arr 6 (enf u8v r_5)]) 1 0 4 rfl Try.sizeOf45 (ones_one rfl (ones_one rfl (ones_arr (fun _ => rfl) (ones_arr (fun _ => rfl) ones_nil)))) rfl rfl rfl rfl rfl rfl ?_
      refine TL.assign rfl rfl (v := .int .i64 0) rfl ?_
      refine TL.done ?_
      exact TC.retF (Fin.body (fin2 (.inr rfl) rfl (.cellN rfl (Src.box 1 rfl) Try.isAgg45 Try.sizeOf45 rfl) (.tmp rfl) [] rfl ⟨rfl, rfl⟩))

end Go.Proofs.Ytcombgcjgdkbiaa.G

/- laws.FnExactTwistedAlgebra, as a pure function. -/
set_option linter.unusedVariables false
namespace Go.Proofs.Ytcombgcjgdkbiaa.G
open Go Go.Sx Go.Proofs

def laws_FnExactTwistedAlgebra.f (aP1 : Int) (aG1 : Int) (aG2 : Nat → UInt8) (aTable1 : List (List Int)) : Option Bool := (G.laws_szInt64SS.f aTable1 1048576).bind (fun r_1 => (bif (decide (r_1 < 0)) then some true else (G.laws_toGroup.f aG1 aG2).bind (fun p => match p with | (r_2, r_3) => (G.laws_toInt64SS.f aTable1).bind (fun r_4 => (G.spec_TwistedAlgebra.f aP1 r_2 r_3 r_4).bind (fun p => match p with | (r_5, r_6, r_7, r_8, r_9) => (G.laws_toInt64SS.f aTable1).bind (fun r_10 => (G.laws_toGroup.f aG1 aG2).bind (fun p => match p with | (r_11, r_12) => (G.impl_TwistedAlgebra.f aP1 r_11 r_12 r_10).bind (fun p => match p with | (r_13, r_14, r_15, r_16, r_17) => (G.laws_eqAlgebra.f r_13 r_14 r_15 r_16 r_5 r_6 r_7 r_8).bind (fun r_18 => (bif ((!r_18) || (r_17 != r_9)) then some false else (G.laws_toInt64SS.f aTable1).bind (fun r_19 => (G.laws_eqInt64SS.f r_10 r_19).bind (fun r_20 => (bif (!r_20) then some false else some true)))))))))))))

def laws_FnExactTwistedAlgebra.R (r : Bool) (v : Value) (L : List Asn) : Prop := v = .bool r ∧ L = []

set_option maxRecDepth 100000 in
set_option maxHeartbeats 4000000 in
theorem laws_FnExactTwistedAlgebra.calls (w : World) (aP1 : Int) (aG1 : Int) (aG2 : Nat → UInt8) (s1 : SV) (ss1 : List SV) (aTable1 : List (List Int)) (h1 : ReadsM Ei (hp w) s1 ss1 aTable1) :
    ∀ r, laws_FnExactTwistedAlgebra.f aP1 aG1 aG2 aTable1 = some r → Calls Try.prog 14 #[.int .i64 aP1, sval [.one (.int .i64 aG1), .arr 36 (enf u8v aG2)], SV.v s1] w (Ret w (laws_FnExactTwistedAlgebra.R r)) := by

  refine calls_T (n := 51) (Γ := [(0, .int .i64 aP1), (1, sval [.one (.int .i64 aG1), .arr 36 (enf u8v aG2)]), (2, SV.v s1)]) (R := laws_FnExactTwistedAlgebra.R) Try.func14 rfl rfl (Nat.le_of_ble_eq_true rfl) ⟨rfl, rfl, rfl, trivial⟩ ?_
  unfold laws_FnExactTwistedAlgebra.f
  refine TC.seq ?_
  refine TC.region ?_
  refine TL.box [.one (.int .i64 aG1), .arr 36 (enf u8v aG2)] rfl rfl rfl rfl fun b_1 => ?_
  refine TL.assign rfl rfl (v := .bool false) rfl ?_
  refine TL.done ?_
  refine TC.seq ?_
  refine TC.region ?_
  refine TL.assign rfl rfl (v := .int .i64 1048576) rfl ?_
  refine TL.done ?_
  refine TC.seq ?_
  refine TC.region ?_
  refine TL.move rfl rfl (v := SV.v s1) rfl ?_
  refine TL.move rfl rfl (v := .int .i64 1048576) rfl ?_
  refine TL.call (R := G.laws_szInt64SS.R) Try.call44 rfl rfl rfl (fun w hS => G.laws_szInt64SS.calls w s1 ss1 aTable1 1048576 ((RdM.old h1) w hS)) ?_
  rintro r_1 _ _ ⟨rfl, rfl⟩
  refine TL.assign rfl rfl (v := .int .i64 r_1) rfl ?_
  refine TL.done ?_
  refine TC.seq ?_
  refine TC.seq ?_
  refine TC.region ?_
  refine TL.move rfl rfl (v := .int .i64 r_1) rfl ?_
  refine TL.bin .i64 r_1 0 rfl rfl rfl rfl (v := .bool (decide (r_1 < 0))) rfl ?_
  refine TL.done ?_
  refine TC.cond (b := (decide (r_1 < 0))) rfl (fun c1 => ?_) (fun c2 => ?_)
  · refine TC.seq ?_
    refine TC.region ?_
    refine TL.assign rfl rfl (v := .bool true) rfl ?_
    refine TL.done ?_
    exact TC.retF (Fin.body (fin1 (.inr rfl) rfl (.tmp rfl) [] rfl ⟨rfl, rfl⟩))
  · refine TC.skip ?_
    refine TC.seq ?_
    refine TC.region ?_
    refine TL.move rfl rfl (v := .int .i64 aP1) rfl ?_
    refine TL.loadM 0 2 (Src.box 0 rfl) Try.isAgg35 Try.sizeOf35 (mid := [.one (.int .i64 aG1), .arr 36 (enf u8v aG2)]) rfl rfl rfl rfl rfl rfl ?_
    refine TL.call (R := G.laws_toGroup.R) Try.call24 rfl rfl rfl (fun w hS => G.laws_toGroup.calls w aG1 aG2) ?_
    rintro ⟨r_2, r_3⟩ _ _ ⟨rfl, rfl⟩
    refine TL.move rfl rfl (v := SV.v s1) rfl ?_
    refine TL.call (R := G.laws_toInt64SS.R) Try.call46 rfl rfl rfl (fun w hS => G.laws_toInt64SS.calls w s1 ss1 aTable1 ((RdM.old h1) w hS)) ?_
    rintro r_4 _ _ ⟨s2, ss2, rfl, rfl⟩
    refine TL.call (R := G.spec_TwistedAlgebra.R) Try.call48 rfl rfl rfl (fun w hS => G.spec_TwistedAlgebra.calls w aP1 r_2 r_3 s2 ss2 r_4 ((RdM.mat 0 rfl) w hS)) ?_
    rintro ⟨r_5, r_6, r_7, r_8, r_9⟩ _ _ ⟨rfl, rfl⟩
    refine TL.move rfl rfl (v := .tuple #[sval [.one (.int .i64 r_5), .one (.int .i64 r_6), .arr 216 (enf u8v r_7), .arr 6 (enf u8v r_8)], .int .i64 r_9]) rfl ?_
    refine TL.extract rfl rfl rfl (v := sval [.one (.int .i64 r_5), .one (.int .i64 r_6), .arr 216 (enf u8v r_7), .arr 6 (enf u8v r_8)]) rfl ?_
    refine TL.extract rfl rfl rfl (v := .int .i64 r_9) rfl ?_
    refine TL.alloc [.one (.int .i64 0), .one (.int .i64 0), .arr 216 (enf u8v (fun _ => (0 : UInt8))), .arr 6 (enf u8v (fun _ => (0 : UInt8)))] rfl rfl Try.zeroValue45 rfl fun b_2 => ?_
    refine TL.stM (news := [.one (.int .i64 r_5), .one (.int .i64 r_6), .arr 216 (enf u8v r_7), .arr 6 (enf u8v r_8)]) 0 0 4 rfl Try.sizeOf45 (ones_one rfl (ones_one rfl (ones_arr (fun _ => rfl) (ones_arr (fun _ => rfl) ones_nil)))) rfl rfl rfl rfl rfl rfl ?_
    refine TL.assign rfl rfl (v := .int .i64 r_9) rfl ?_
    refine TL.done ?_
    refine TC.seq ?_
    refine TC.region ?_
    refine TL.move rfl rfl (v := SV.v s1) rfl ?_
    refine TL.call (R := G.laws_toInt64SS.R) Try.call46 rfl rfl rfl (fun w hS => G.laws_toInt64SS.calls w s1 ss1 aTable1 ((RdM.old h1) w hS)) ?_
    rintro r_10 _ _ ⟨s3, ss3, rfl, rfl⟩
    refine TL.assign rfl rfl (v := SV.v s3) rfl ?_
    refine TL.done ?_
    refine TC.seq ?_
    refine TC.region ?_
    refine TL.move rfl rfl (v := .int .i64 aP1) rfl ?_
    refine TL.loadM 0 2 (Src.box 3 rfl) Try.isAgg35 Try.sizeOf35 (mid := [.one (.int .i64 aG1), .arr 36 (enf u8v aG2)]) rfl rfl rfl rfl rfl rfl ?_
    refine TL.call (R := G.laws_toGroup.R) Try.call24 rfl rfl rfl (fun w hS => G.laws_toGroup.calls w aG1 aG2) ?_
    rintro ⟨r_11, r_12⟩ _ _ ⟨rfl, rfl⟩
    refine TL.move rfl rfl (v := SV.v s3) rfl ?_
    refine TL.call (R := G.impl_TwistedAlgebra.R) Try.call49 rfl rfl rfl (fun w hS => G.impl_TwistedAlgebra.calls w aP1 r_11 r_12 s3 ss3 r_10 ((RdM.mat 0 rfl) w hS)) ?_
    rintro ⟨r_13, r_14, r_15, r_16, r_17⟩ _ _ ⟨rfl, rfl⟩
    refine TL.move rfl rfl (v := .tuple #[sval [.one (.int .i64 r_13), .one (.int .i64 r_14), .arr 216 (enf u8v r_15), .arr 6 (enf u8v r_16)], .int .i64 r_17]) rfl ?_
    refine TL.extract rfl rfl rfl (v := sval [.one (.int .i64 r_13), .one (.int .i64 r_14), .arr 216 (enf u8v r_15), .arr 6 (enf u8v r_16)]) rfl ?_
    refine TL.extract rfl rfl rfl (v := .int .i64 r_17) rfl ?_
    refine TL.alloc [.one (.int .i64 0), .one (.int .i64 0), .arr 216 (enf u8v (fun _ => (0 : UInt8))), .arr 6 (enf u8v (fun _ => (0 : UInt8)))] rfl rfl Try.zeroValue45 rfl fun b_3 => ?_
    refine TL.stM (news := [.one (.int .i64 r_13), .one (.int .i64 r_14), .arr 216 (enf u8v r_15), .arr 6 (enf u8v r_16)]) 0 0 4 rfl Try.sizeOf45 (ones_one rfl (ones_one rfl (ones_arr (fun _ => rfl) (ones_arr (fun _ => rfl) ones_nil)))) rfl rfl rfl rfl rfl rfl ?_
    refine TL.assign rfl rfl (v := .int .i64 r_17) rfl ?_
    refine TL.done ?_
    refine TC.seq ?_
    refine TC.seq ?_
    refine TC.region ?_
    refine TL.loadM 0 4 (Src.box 0 rfl) Try.isAgg45 Try.sizeOf45 (mid := [.one (.int .i64 r_13), .one (.int .i64 r_14), .arr 216 (enf u8v r_15), .arr 6 (enf u8v r_16)]) rfl rfl rfl rfl rfl rfl ?_
    refine TL.loadM 0 4 (Src.box 2 rfl) Try.isAgg45 Try.sizeOf45 (mid := [.one (.int .i64 r_5), .one (.int .i64 r_6), .arr 216 (enf u8v r_7), .arr 6 (enf u8v r_8)]) rfl rfl rfl rfl rfl rfl ?_
    refine TL.call (R := G.laws_eqAlgebra.R) Try.call32 rfl rfl rfl (fun w hS => G.laws_eqAlgebra.calls w r_13 r_14 r_15 r_16 r_5 r_6 r_7 r_8) ?_
    rintro r_18 _ _ ⟨rfl, rfl⟩
    refine TL.not r_18 rfl rfl rfl ?_
    refine TL.move rfl rfl (v := .bool (!r_18)) rfl ?_
    refine TL.cutU 4 [(45, .bool ((!r_18) || (r_17 != r_9))), (0, .int .i64 aP1), (1, sval [.one (.int .i64 aG1), .arr 36 (enf u8v aG2)]), (2, SV.v s1), (4, bp b_1 0), (6, .bool false), (7, .int .i64 r_1), (13, SV.v s1), (14, .int .i64 1048576), (15, .int .i64 r_1), (16, .int .i64 r_1), (17, .bool (decide (r_1 < 0))), (19, .int .i64 aP1), (20, sval [.one (.int .i64 aG1), .arr 36 (enf u8v aG2)]), (21, sval [.one (.int .i64 r_2), .arr 36 (enf u8v r_3)]), (22, SV.v s1), (23, SV.v s2), (24, .tuple #[sval [.one (.int .i64 r_5), .one (.int .i64 r_6), .arr 216 (enf u8v r_7), .arr 6 (enf u8v r_8)], .int .i64 r_9]), (18, .tuple #[sval [.one (.int .i64 r_5), .one (.int .i64 r_6), .arr 216 (enf u8v r_7), .arr 6 (enf u8v r_8)], .int .i64 r_9]), (25, sval [.one (.int .i64 r_5), .one (.int .i64 r_6), .arr 216 (enf u8v r_7), .arr 6 (enf u8v r_8)]), (26, .int .i64 r_9), (8, bp b_2 0), (9, .int .i64 r_9), (27, SV.v s1), (28, SV.v s3), (10, SV.v s3), (30, .int .i64 aP1), (31, sval [.one (.int .i64 aG1), .arr 36 (enf u8v aG2)]), (32, sval [.one (.int .i64 r_11), .arr 36 (enf u8v r_12)]), (33, SV.v s3), (34, .tuple #[sval [.one (.int .i64 r_13), .one (.int .i64 r_14), .arr 216 (enf u8v r_15), .arr 6 (enf u8v r_16)], .int .i64 r_17]), (29, .tuple #[sval [.one (.int .i64 r_13), .one (.int .i64 r_14), .arr 216 (enf u8v r_15), .arr 6 (enf u8v r_16)], .int .i64 r_17]), (35, sval [.one (.int .i64 r_13), .one (.int .i64 r_14), .arr 216 (enf u8v r_15), .arr 6 (enf u8v r_16)]), (36, .int .i64 r_17), (11, bp b_3 0), (12, .int .i64 r_17), (37, sval [.one (.int .i64 r_13), .one (.int .i64 r_14), .arr 216 (enf u8v r_15), .arr 6 (enf u8v r_16)]), (38, sval [.one (.int .i64 r_5), .one (.int .i64 r_6), .arr 216 (enf u8v r_7), .arr 6 (enf u8v r_8)]), (39, .bool r_18), (40, .bool (!r_18)), (41, .bool (!r_18))] [box b_3 45 [.one (.int .i64 r_13), .one (.int .i64 r_14), .arr 216 (enf u8v r_15), .arr 6 (enf u8v r_16)], mat Ei 2 22 s3 ss3 r_10, box b_2 45 [.one (.int .i64 r_5), .one (.int .i64 r_6), .arr 216 (enf u8v r_7), .arr 6 (enf u8v r_8)], mat Ei 2 22 s2 ss2 r_4, box b_1 35 [.one (.int .i64 aG1), .arr 36 (enf u8v aG2)]] ?_ ?_
    · refine TL.cases (t := 41) (b := (!r_18)) rfl (fun c3 => ?_) (fun c4 => ?_)
      · refine TL.skip rfl rfl (by decide) ?_
        refine TL.skip rfl rfl (by decide) ?_
        refine TL.skip rfl rfl (by decide) ?_
        refine TL.pick rfl rfl (b := true) rfl (r := .bool true) rfl ?_
        refine TL.done ?_
        exact TC.nrm () () ⟨(by rw [c3]; rfl), rfl, rfl, rfl, rfl, rfl, rfl, rfl, rfl, rfl, rfl, rfl, rfl, rfl, rfl, rfl, rfl, rfl, rfl, rfl, rfl, rfl, rfl, rfl, rfl, rfl, rfl, rfl, rfl, rfl, rfl, rfl, rfl, rfl, rfl, rfl, rfl, rfl, rfl, rfl, (by rw [c3]; rfl), trivial⟩ [0, 0, 0, 0, 0] rfl
      · refine TL.move rfl rfl (v := .int .i64 r_17) rfl ?_
        refine TL.move rfl rfl (v := .int .i64 r_9) rfl ?_
        refine TL.bin .i64 r_17 r_9 rfl rfl rfl rfl (v := .bool (r_17 != r_9)) rfl ?_
        refine TL.pick rfl rfl (b := false) rfl (r := .bool (r_17 != r_9)) rfl ?_
        refine TL.done ?_
        exact TC.nrm () () ⟨(by rw [c4]; rfl), rfl, rfl, rfl, rfl, rfl, rfl, rfl, rfl, rfl, rfl, rfl, rfl, rfl, rfl, rfl, rfl, rfl, rfl, rfl, rfl, rfl, rfl, rfl, rfl, rfl, rfl, rfl, rfl, rfl, rfl, rfl, rfl, rfl, rfl, rfl, rfl, rfl, rfl, rfl, (by rw [c4]; rfl), trivial⟩ [0, 0, 0, 0, 0] rfl
    · refine TL.done ?_
      refine TC.cond (b := ((!r_18) || (r_17 != r_9))) rfl (fun c5 => ?_) (fun c6 => ?_)
      · refine TC.seq ?_
        refine TC.region ?_
        refine TL.assign rfl rfl (v := .bool false) rfl ?_
        refine TL.done ?_
        exact TC.retF (Fin.body (fin1 (.inr rfl) rfl (.tmp rfl) [] rfl ⟨rfl, rfl⟩))
      · refine TC.skip ?_
        refine TC.seq ?_
        refine TC.seq ?_
        refine TC.region ?_
        refine TL.move rfl rfl (v := SV.v s3) rfl ?_
        refine TL.move rfl rfl (v := SV.v s1) rfl ?_
        refine TL.call (R := G.laws_toInt64SS.R) Try.call46 rfl rfl rfl (fun w hS => G.laws_toInt64SS.calls w s1 ss1 aTable1 ((RdM.old h1) w hS)) ?_
        rintro r_19 _ _ ⟨s4, ss4, rfl, rfl⟩
        refine TL.call (R := G.laws_eqInt64SS.R) Try.call41 rfl rfl rfl (fun w hS => G.laws_eqInt64SS.calls w s3 ss3 r_10 s4 ss4 r_19 ((RdM.mat 2 rfl) w hS) ((RdM.mat 0 rfl) w hS)) ?_
        rintro r_20 _ _ ⟨rfl, rfl⟩
        refine TL.not r_20 rfl rfl rfl ?_
        refine TL.done ?_
        refine TC.cond (b := (!r_20)) rfl (fun c7 => ?_) (fun c8 => ?_)
        · refine TC.seq ?_
          refine TC.region ?_
          refine TL.assign rfl rfl (v := .bool false) rfl ?_
          refine TL.done ?_
          exact TC.retF (Fin.body (fin1 (.inr rfl) rfl (.tmp rfl) [] rfl ⟨rfl, rfl⟩))
        · refine TC.skip ?_
          refine TC.seq ?_
          refine TC.region ?_
          refine TL.assign rfl rfl (v := .bool true) rfl ?_
          refine TL.done ?_
          exact TC.retF (Fin.body (fin1 (.inr rfl) rfl (.tmp rfl) [] rfl ⟨rfl, rfl⟩))

end Go.Proofs.Ytcombgcjgdkbiaa.G

/- impl.power, as a pure function. -/
set_option linter.unusedVariables false
namespace Go.Proofs.Ytcombgcjgdkbiaa.G
open Go Go.Sx Go.Proofs

def impl_power.b0 (k_1 : Int) (p1 : Int) (n_1 : Int) : Int × Int → Option (LB (Int × Int)) := fun p => match p with | (out1, x1) => (bif (decide (x1 < k_1)) then nz p1 (some (.next ((Int.tmod (w64 (out1 * n_1)) p1), (w64 (x1 + 1))))) else some (.brk (out1, x1)))

def impl_power.f (n_1 : Int) (k_1 : Int) (p1 : Int) : Option Int := (loop1 (impl_power.b0 k_1 p1 n_1) (1, 0)).bind (fun p => match p with | (out1, x1) => some out1)

def impl_power.R (r : Int) (v : Value) (L : List Asn) : Prop := v = .int .i64 r ∧ L = []

set_option maxRecDepth 100000 in
set_option maxHeartbeats 4000000 in
theorem impl_power.calls (w : World) (n_1 : Int) (k_1 : Int) (p1 : Int) :
    ∀ r, impl_power.f n_1 k_1 p1 = some r → Calls Try.prog 60 #[.int .i64 n_1, .int .i64 k_1, .int .i64 p1] w (Ret w (impl_power.R r)) := by

  refine calls_T (n := 18) (Γ := [(0, .int .i64 n_1), (1, .int .i64 k_1), (2, .int .i64 p1)]) (R := impl_power.R) Try.func60 rfl rfl (Nat.le_of_ble_eq_true rfl) ⟨rfl, rfl, rfl, trivial⟩ ?_
  unfold impl_power.f
  refine TC.seq ?_
  refine TC.region ?_
  refine TL.assign rfl rfl (v := .int .i64 0) rfl ?_
  refine TL.done ?_
  refine TC.seq ?_
  refine TC.region ?_
  refine TL.assign rfl rfl (v := .int .i64 1) rfl ?_
  refine TL.done ?_
  refine TC.seq ?_
  refine TC.seq ?_
  refine TC.region ?_
  refine TL.move rfl rfl (v := .int .i64 k_1) rfl ?_
  refine TL.move rfl rfl (v := .int .i64 0) rfl ?_
  refine TL.done ?_
  refine TC.loop1 (σ := Int × Int) (γ := Unit) (Γ' := (fun p q => match p, q with | (out1, x1), _ => [(0, .int .i64 n_1), (2, .int .i64 p1), (7, .int .i64 out1), (8, .int .i64 k_1), (9, .int .i64 x1)])) (L' := (fun p q => match p, q with | (out1, x1), _ => [])) (Γb := (fun p q => match p, q with | (out1, x1), _ => [(0, .int .i64 n_1), (2, .int .i64 p1), (7, .int .i64 out1), (8, .int .i64 k_1), (9, .int .i64 x1)])) (Lb := (fun p q => match p, q with | (out1, x1), _ => [])) ((1, 0)) (()) ⟨rfl, rfl, rfl, rfl, rfl, trivial⟩ [] rfl ?_ ?_
  · rintro ⟨out1, x1⟩ _
    refine TC.seq ?_
    refine TC.region ?_
    refine TL.bin .i64 x1 k_1 rfl rfl rfl rfl (v := .bool (decide (x1 < k_1))) rfl ?_
    refine TL.done ?_
    refine TC.seq ?_
    refine TC.cond (b := (decide (x1 < k_1))) rfl (fun c1 => ?_) (fun c2 => ?_)
    · refine TC.skip ?_
      refine TC.seq ?_
      refine TC.block (NoEx.loop1 rfl) ?_
      refine TC.region ?_
      refine TL.move rfl rfl (v := .int .i64 out1) rfl ?_
      refine TL.move rfl rfl (v := .int .i64 n_1) rfl ?_
      refine TL.bin .i64 out1 n_1 rfl rfl rfl rfl (v := .int .i64 (w64 (out1 * n_1))) rfl ?_
      refine TL.move rfl rfl (v := .int .i64 p1) rfl ?_
      refine TL.nz fun z1 => ?_
      refine TL.rem .i64 (w64 (out1 * n_1)) p1 z1 rfl rfl rfl rfl ?_
      refine TL.assign rfl rfl (v := .int .i64 (Int.tmod (w64 (out1 * n_1)) p1)) rfl ?_
      refine TL.done ?_
      refine TC.region ?_
      refine TL.bin .i64 x1 1 rfl rfl rfl rfl (v := .int .i64 (w64 (x1 + 1))) rfl ?_
      refine TL.move rfl rfl (v := .int .i64 (w64 (x1 + 1))) rfl ?_
      refine TL.done ?_
      exact TC.next1 (((Int.tmod (w64 (out1 * n_1)) p1), (w64 (x1 + 1)))) (()) ⟨rfl, rfl, rfl, rfl, rfl, trivial⟩ [] rfl
    · exact TC.brk1 ((out1, x1)) (()) ⟨rfl, rfl, rfl, rfl, rfl, trivial⟩ [] rfl
  · rintro ⟨out1, x1⟩ _
    refine TC.seq ?_
    refine TC.region ?_
    refine TL.move rfl rfl (v := .int .i64 out1) rfl ?_
    refine TL.assign rfl rfl (v := .int .i64 out1) rfl ?_
    refine TL.done ?_
    exact TC.retF (Fin.body (fin1 (.inr rfl) rfl (.tmp rfl) [] rfl ⟨rfl, rfl⟩))

end Go.Proofs.Ytcombgcjgdkbiaa.G

/- impl.inverse, as a pure function. -/
set_option linter.unusedVariables false
namespace Go.Proofs.Ytcombgcjgdkbiaa.G
open Go Go.Sx Go.Proofs

def impl_inverse.f (n_1 : Int) (p1 : Int) : Option Int := (G.impl_power.f n_1 (w64 (p1 - 2)) p1).bind (fun r_1 => some r_1)

def impl_inverse.R (r : Int) (v : Value) (L : List Asn) : Prop := v = .int .i64 r ∧ L = []

set_option maxRecDepth 100000 in
set_option maxHeartbeats 4000000 in
theorem impl_inverse.calls (w : World) (n_1 : Int) (p1 : Int) :
    ∀ r, impl_inverse.f n_1 p1 = some r → Calls Try.prog 59 #[.int .i64 n_1, .int .i64 p1] w (Ret w (impl_inverse.R r)) := by

  refine calls_T (n := 10) (Γ := [(0, .int .i64 n_1), (1, .int .i64 p1)]) (R := impl_inverse.R) Try.func59 rfl rfl (Nat.le_of_ble_eq_true rfl) ⟨rfl, rfl, trivial⟩ ?_
  unfold impl_inverse.f
  refine TC.seq ?_
  refine TC.region ?_
  refine TL.assign rfl rfl (v := .int .i64 0) rfl ?_
  refine TL.done ?_
  refine TC.seq ?_
  refine TC.region ?_
  refine TL.move rfl rfl (v := .int .i64 n_1) rfl ?_
  refine TL.move rfl rfl (v := .int .i64 p1) rfl ?_
  refine TL.bin .i64 p1 2 rfl rfl rfl rfl (v := .int .i64 (w64 (p1 - 2))) rfl ?_
  refine TL.move rfl rfl (v := .int .i64 p1) rfl ?_
  refine TL.call (R := G.impl_power.R) Try.call60 rfl rfl rfl (fun w hS => G.impl_power.calls w n_1 (w64 (p1 - 2)) p1) ?_
  rintro r_1 _ _ ⟨rfl, rfl⟩
  refine TL.assign rfl rfl (v := .int .i64 r_1) rfl ?_
  refine TL.done ?_
  exact TC.retF (Fin.body (fin1 (.inr rfl) rfl (.tmp rfl) [] rfl ⟨rfl, rfl⟩))

end Go.Proofs.Ytcombgcjgdkbiaa.G
