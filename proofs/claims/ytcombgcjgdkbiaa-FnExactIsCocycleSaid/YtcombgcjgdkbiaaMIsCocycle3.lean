/- Functions of the program, as pure functions. -/
import Derived.Test.YtcombgcjgdkbiaaMIsCocycle2
import Derived.Test.YtcombgcjgdkbiaaProg
/- slices.ContainsFunc[[][]int64,[]int64], as a pure function. -/
set_option linter.unusedVariables false
namespace Go.Proofs.Ytcombgcjgdkbiaa.G
open Go Go.Sx Go.Proofs

def slices_ContainsFunc_int64_int64_129.f (s1 : List (List Int)) (f2 : (List Int) → Option Bool) : Option Bool := (G.slices_IndexFunc_int64_int64_133.f s1 f2).bind (fun r_1 => some (decide (r_1 ≥ 0)))

def slices_ContainsFunc_int64_int64_129.R (r : Bool) (v : Value) (L : List Asn) : Prop := v = .bool r ∧ L = []

set_option maxRecDepth 100000 in
set_option maxHeartbeats 4000000 in
theorem slices_ContainsFunc_int64_int64_129.calls (w : World) (s2 : SV) (ss1 : List SV) (s1 : List (List Int)) (f1 : Nat) (fst1 : List Value) (cap1 : List Value) (f2 : (List Int) → Option Bool) (h1 : ReadsM Ei (hp w) s2 ss1 s1) (hc1 : ∀ (args_ : Array Value) (w_ : World), (callFunc f1 args_).run Try.prog w_ = .ok (.enter f1 args_) w_) (hf1 : ∀ w_, Hle (hp w) (hp w_) → ∀ (s1_ : SV) (x0_ : List Int), Reads Ei (hp w_) s1_ x0_ → ∀ r_, f2 x0_ = some r_ → Calls Try.prog f1 (fst1 ++ ([SV.v s1_] : List Value) ++ cap1).toArray w_ (Ret w_ (fun (v_ : Value) (L_ : List Asn) => v_ = .bool r_ ∧ L_ = []))) :
    ∀ r, slices_ContainsFunc_int64_int64_129.f s1 f2 = some r → Calls Try.prog 129 #[SV.v s2, .func (.func f1) fst1.toArray cap1.toArray] w (Ret w (slices_ContainsFunc_int64_int64_129.R r)) := by

  refine calls_T (n := 9) (Γ := [(0, SV.v s2), (1, .func (.func f1) fst1.toArray cap1.toArray)]) (R := slices_ContainsFunc_int64_int64_129.R) Try.func129 rfl rfl (Nat.le_of_ble_eq_true rfl) ⟨rfl, rfl, trivial⟩ ?_
  unfold slices_ContainsFunc_int64_int64_129.f
  refine TC.seq ?_
  refine TC.region ?_
  refine TL.assign rfl rfl (v := .bool false) rfl ?_
  refine TL.done ?_
  refine TC.seq ?_
  refine TC.region ?_
  refine TL.move rfl rfl (v := SV.v s2) rfl ?_
  refine TL.move rfl rfl (v := .func (.func f1) fst1.toArray cap1.toArray) rfl ?_
  refine TL.call (R := G.slices_IndexFunc_int64_int64_133.R) Try.call133 rfl rfl rfl (fun w hS => G.slices_IndexFunc_int64_int64_133.calls w s2 ss1 s1 f1 fst1 cap1 f2 ((RdM.old h1) w hS) hc1 (fun w_ hle_ => hf1 w_ (hS.iw.trans hle_))) ?_
  rintro r_1 _ _ ⟨rfl, rfl⟩
  refine TL.bin .i64 r_1 0 rfl rfl rfl rfl (v := .bool (decide (r_1 ≥ 0))) rfl ?_
  refine TL.assign rfl rfl (v := .bool (decide (r_1 ≥ 0))) rfl ?_
  refine TL.done ?_
  exact TC.retF (Fin.body (fin1 (.inr rfl) rfl (.tmp rfl) [] rfl ⟨rfl, rfl⟩))

end Go.Proofs.Ytcombgcjgdkbiaa.G

/- slices.IndexFunc[[]int64,int64], as a pure function. -/
set_option linter.unusedVariables false
namespace Go.Proofs.Ytcombgcjgdkbiaa.G
open Go Go.Sx Go.Proofs

def slices_IndexFunc_int64_int64.b0 (s1 : List Int) (f2 : Int → Option Bool) : Int → Option (LR Int Int) := fun x1 => (bif (decide (x1 < (s1.length : Int))) then chk x1 s1.length ((f2 (gt s1 x1)).bind (fun r_1 => (bif r_1 then some (.ret (x1)) else some (.next (w64 (x1 + 1)))))) else some (.brk x1))

def slices_IndexFunc_int64_int64.f (s1 : List Int) (f2 : Int → Option Bool) : Option Int := (loop (slices_IndexFunc_int64_int64.b0 s1 f2) 0).bind (ln (fun x1 => some (-1)))

def slices_IndexFunc_int64_int64.R (r : Int) (v : Value) (L : List Asn) : Prop := v = .int .i64 r ∧ L = []

set_option maxRecDepth 100000 in
set_option maxHeartbeats 4000000 in
theorem slices_IndexFunc_int64_int64.calls (w : World) (s2 : SV) (s1 : List Int) (f1 : Nat) (fst1 : List Value) (cap1 : List Value) (f2 : Int → Option Bool) (h1 : Reads Ei (hp w) s2 s1) (hc1 : ∀ (args_ : Array Value) (w_ : World), (callFunc f1 args_).run Try.prog w_ = .ok (.enter f1 args_) w_) (hf1 : ∀ w_, Hle (hp w) (hp w_) → ∀ (x0_ : Int), ∀ r_, f2 x0_ = some r_ → Calls Try.prog f1 (fst1 ++ ([.int .i64 x0_] : List Value) ++ cap1).toArray w_ (Ret w_ (fun (v_ : Value) (L_ : List Asn) => v_ = .bool r_ ∧ L_ = []))) :
    ∀ r, slices_IndexFunc_int64_int64.f s1 f2 = some r → Calls Try.prog 123 #[SV.v s2, .func (.func f1) fst1.toArray cap1.toArray] w (Ret w (slices_IndexFunc_int64_int64.R r)) := by

  refine calls_T (n := 19) (Γ := [(0, SV.v s2), (1, .func (.func f1) fst1.toArray cap1.toArray)]) (R := slices_IndexFunc_int64_int64.R) Try.func123 rfl rfl (Nat.le_of_ble_eq_true rfl) ⟨rfl, rfl, trivial⟩ ?_
  unfold slices_IndexFunc_int64_int64.f
  refine TC.seq ?_
  refine TC.region ?_
  refine TL.assign rfl rfl (v := .int .i64 0) rfl ?_
  refine TL.done ?_
  refine TC.seq ?_
  refine TC.seq ?_
  refine TC.region ?_
  refine TL.move rfl rfl (v := SV.v s2) rfl ?_
  refine TL.len (Rd.old h1) Try.underlying22 rfl rfl rfl ?_
  refine TL.move rfl rfl (v := .int .i64 0) rfl ?_
  refine TL.done ?_
  refine TC.loopK (σ := Int) (γ := Unit) (Γ' := (fun x1 _ => [(0, SV.v s2), (1, .func (.func f1) fst1.toArray cap1.toArray), (7, .int .i64 (s1.length : Int)), (8, .int .i64 x1)])) (L' := (fun x1 _ => [])) (Γb := (fun x1 _ => [(0, SV.v s2), (1, .func (.func f1) fst1.toArray cap1.toArray), (7, .int .i64 (s1.length : Int)), (8, .int .i64 x1)])) (Lb := (fun x1 _ => [])) (0) (()) ⟨rfl, rfl, rfl, rfl, trivial⟩ [] rfl ?_ ?_
  · rintro x1 _
    refine TC.seq ?_
    refine TC.region ?_
    refine TL.bin .i64 x1 (s1.length : Int) rfl rfl rfl rfl (v := .bool (decide (x1 < (s1.length : Int)))) rfl ?_
    refine TL.done ?_
    refine TC.seq ?_
    refine TC.cond (b := (decide (x1 < (s1.length : Int)))) rfl (fun c1 => ?_) (fun c2 => ?_)
    · refine TC.skip ?_
      refine TC.seq ?_
      refine TC.block (NoEx.loop rfl NoEx.body) ?_
      refine TC.seq ?_
      refine TC.region ?_
      refine TL.move rfl rfl (v := .int .i64 x1) rfl ?_
      refine TL.assign rfl rfl (v := .int .i64 x1) rfl ?_
      refine TL.done ?_
      refine TC.seq ?_
      refine TC.region ?_
      refine TL.move rfl rfl (v := .func (.func f1) fst1.toArray cap1.toArray) rfl ?_
      refine TL.move rfl rfl (v := SV.v s2) rfl ?_
      refine TL.move rfl rfl (v := .int .i64 x1) rfl ?_
      refine TL.chk fun h2 => ?_
      refine TL.ixs x1 x1.toNat (Rd.old h1) h2 Try.underlying22 Try.sizeOf2 rfl rfl rfl rfl (by omega) ?_
      refine TL.loadE (Rd.old h1) Try.isAgg2 x1.toNat 0 (gt_spec h2) (v := .int .i64 (gt s1 x1)) rfl (by simp only [show Ei.sz = 1 from rfl]; omega) rfl rfl rfl ?_
      refine TL.callv (R := (fun r_ => (fun (v_ : Value) (L_ : List Asn) => v_ = .bool r_ ∧ L_ = []))) (vs := [.int .i64 (gt s1 x1)]) hc1 rfl rfl rfl rfl (fun w hS => hf1 w hS.iw (gt s1 x1)) ?_
      rintro r_1 _ _ ⟨rfl, rfl⟩
      refine TL.done ?_
      refine TC.cond (b := r_1) rfl (fun c3 => ?_) (fun c4 => ?_)
      · refine TC.seq ?_
        refine TC.region ?_
        refine TL.move rfl rfl (v := .int .i64 x1) rfl ?_
        refine TL.assign rfl rfl (v := .int .i64 x1) rfl ?_
        refine TL.done ?_
        exact TC.retF (Fin.loop Far.ret (Fin.body (fin1 (.inr rfl) rfl (.tmp rfl) [] rfl ⟨rfl, rfl⟩)))
      · refine TC.skip ?_
        refine TC.region ?_
        refine TL.bin .i64 x1 1 rfl rfl rfl rfl (v := .int .i64 (w64 (x1 + 1))) rfl ?_
        refine TL.move rfl rfl (v := .int .i64 (w64 (x1 + 1))) rfl ?_
        refine TL.done ?_
        exact TC.next ((w64 (x1 + 1))) (()) ⟨rfl, rfl, rfl, rfl, trivial⟩ [] rfl
    · exact TC.brk (x1) (()) ⟨rfl, rfl, rfl, rfl, trivial⟩ [] rfl
  · rintro x1 _
    refine TC.seq ?_
    refine TC.region ?_
    refine TL.assign rfl rfl (v := .int .i64 (-1)) rfl ?_
    refine TL.done ?_
    exact TC.retF (Fin.body (fin1 (.inr rfl) rfl (.tmp rfl) [] rfl ⟨rfl, rfl⟩))

end Go.Proofs.Ytcombgcjgdkbiaa.G

/- slices.ContainsFunc[[]int64,int64], as a pure function. -/
set_option linter.unusedVariables false
namespace Go.Proofs.Ytcombgcjgdkbiaa.G
open Go Go.Sx Go.Proofs

def slices_ContainsFunc_int64_int64.f (s1 : List Int) (f2 : Int → Option Bool) : Option Bool := (G.slices_IndexFunc_int64_int64.f s1 f2).bind (fun r_1 => some (decide (r_1 ≥ 0)))

def slices_ContainsFunc_int64_int64.R (r : Bool) (v : Value) (L : List Asn) : Prop := v = .bool r ∧ L = []

set_option maxRecDepth 100000 in
set_option maxHeartbeats 4000000 in
theorem slices_ContainsFunc_int64_int64.calls (w : World) (s2 : SV) (s1 : List Int) (f1 : Nat) (fst1 : List Value) (cap1 : List Value) (f2 : Int → Option Bool) (h1 : Reads Ei (hp w) s2 s1) (hc1 : ∀ (args_ : Array Value) (w_ : World), (callFunc f1 args_).run Try.prog w_ = .ok (.enter f1 args_) w_) (hf1 : ∀ w_, Hle (hp w) (hp w_) → ∀ (x0_ : Int), ∀ r_, f2 x0_ = some r_ → Calls Try.prog f1 (fst1 ++ ([.int .i64 x0_] : List Value) ++ cap1).toArray w_ (Ret w_ (fun (v_ : Value) (L_ : List Asn) => v_ = .bool r_ ∧ L_ = []))) :
    ∀ r, slices_ContainsFunc_int64_int64.f s1 f2 = some r → Calls Try.prog 99 #[SV.v s2, .func (.func f1) fst1.toArray cap1.toArray] w (Ret w (slices_ContainsFunc_int64_int64.R r)) := by

  refine calls_T (n := 9) (Γ := [(0, SV.v s2), (1, .func (.func f1) fst1.toArray cap1.toArray)]) (R := slices_ContainsFunc_int64_int64.R) Try.func99 rfl rfl (Nat.le_of_ble_eq_true rfl) ⟨rfl, rfl, trivial⟩ ?_
  unfold slices_ContainsFunc_int64_int64.f
  refine TC.seq ?_
  refine TC.region ?_
  refine TL.assign rfl rfl (v := .bool false) rfl ?_
  refine TL.done ?_
  refine TC.seq ?_
  refine TC.region ?_
  refine TL.move rfl rfl (v := SV.v s2) rfl ?_
  refine TL.move rfl rfl (v := .func (.func f1) fst1.toArray cap1.toArray) rfl ?_
  refine TL.call (R := G.slices_IndexFunc_int64_int64.R) Try.call123 rfl rfl rfl (fun w hS => G.slices_IndexFunc_int64_int64.calls w s2 s1 f1 fst1 cap1 f2 ((Rd.old h1) w hS) hc1 (fun w_ hle_ => hf1 w_ (hS.iw.trans hle_))) ?_
  rintro r_1 _ _ ⟨rfl, rfl⟩
  refine TL.bin .i64 r_1 0 rfl rfl rfl rfl (v := .bool (decide (r_1 ≥ 0))) rfl ?_
  refine TL.assign rfl rfl (v := .bool (decide (r_1 ≥ 0))) rfl ?_
  refine TL.done ?_
  exact TC.retF (Fin.body (fin1 (.inr rfl) rfl (.tmp rfl) [] rfl ⟨rfl, rfl⟩))

end Go.Proofs.Ytcombgcjgdkbiaa.G

/- impl.squareOk$1$1, as a pure function. -/
set_option linter.unusedVariables false
namespace Go.Proofs.Ytcombgcjgdkbiaa.G
open Go Go.Sx Go.Proofs

def impl_squareOk_1_1.f (x1 : Int) (c1 : Int) : Option Bool := (G.impl_in.f x1 0 (w64 (c1 - 1))).bind (fun r_1 => some (!r_1))

def impl_squareOk_1_1.R (r : Bool) (v : Value) (L : List Asn) : Prop := v = .bool r ∧ L = []

set_option maxRecDepth 100000 in
set_option maxHeartbeats 4000000 in
theorem impl_squareOk_1_1.calls (w : World) (x1 : Int) (b_1 : Nat) (c1 : Int) (h1 : At (hp w) b_1 [.one (.int .i64 c1)]) :
    ∀ r, impl_squareOk_1_1.f x1 c1 = some r → Calls Try.prog 131 #[.int .i64 x1, bp b_1 0] w (Ret w (impl_squareOk_1_1.R r)) := by

  refine calls_T (n := 9) (Γ := [(0, .int .i64 x1), (1, bp b_1 0)]) (R := impl_squareOk_1_1.R) Try.func131 rfl rfl (Nat.le_of_ble_eq_true rfl) ⟨rfl, rfl, trivial⟩ ?_
  unfold impl_squareOk_1_1.f
  refine TC.seq ?_
  refine TC.region ?_
  refine TL.assign rfl rfl (v := .bool false) rfl ?_
  refine TL.done ?_
  refine TC.seq ?_
  refine TC.region ?_
  refine TL.move rfl rfl (v := .int .i64 x1) rfl ?_
  refine TL.load1 0 (Src.at h1) Try.isAgg2 rfl rfl rfl rfl rfl ?_
  refine TL.bin .i64 c1 1 rfl rfl rfl rfl (v := .int .i64 (w64 (c1 - 1))) rfl ?_
  refine TL.call (R := G.impl_in.R) Try.call57 rfl rfl rfl (fun w hS => G.impl_in.calls w x1 0 (w64 (c1 - 1))) ?_
  rintro r_1 _ _ ⟨rfl, rfl⟩
  refine TL.not r_1 rfl rfl rfl ?_
  refine TL.assign rfl rfl (v := .bool (!r_1)) rfl ?_
  refine TL.done ?_
  exact TC.retF (Fin.body (fin1 (.inr rfl) rfl (.tmp rfl) [] rfl ⟨rfl, rfl⟩))

end Go.Proofs.Ytcombgcjgdkbiaa.G

/- impl.squareOk$1, as a pure function. -/
set_option linter.unusedVariables false
namespace Go.Proofs.Ytcombgcjgdkbiaa.G
open Go Go.Sx Go.Proofs

def impl_squareOk_1.f (row_1 : List Int) (c1 : Int) (c2 : Int) : Option Bool := (bif ((row_1.length : Int) != c1) then some true else (G.slices_ContainsFunc_int64_int64.f row_1 (fun x0_ => G.impl_squareOk_1_1.f x0_ c2)).bind (fun r_1 => some r_1)).bind (fun b_3 => some b_3)

def impl_squareOk_1.R (r : Bool) (v : Value) (L : List Asn) : Prop := v = .bool r ∧ L = []

set_option maxRecDepth 100000 in
set_option maxHeartbeats 4000000 in
theorem impl_squareOk_1.calls (w : World) (s1 : SV) (row_1 : List Int) (b_1 : Nat) (c1 : Int) (b_2 : Nat) (c2 : Int) (h1 : Reads Ei (hp w) s1 row_1) (h2 : At (hp w) b_1 [.one (.int .i64 c1)]) (h3 : At (hp w) b_2 [.one (.int .i64 c2)]) :
    ∀ r, impl_squareOk_1.f row_1 c1 c2 = some r → Calls Try.prog 130 #[SV.v s1, bp b_1 0, bp b_2 0] w (Ret w (impl_squareOk_1.R r)) := by

  refine calls_T (n := 14) (Γ := [(0, SV.v s1), (1, bp b_1 0), (2, bp b_2 0)]) (R := impl_squareOk_1.R) Try.func130 rfl rfl (Nat.le_of_ble_eq_true rfl) ⟨rfl, rfl, rfl, trivial⟩ ?_
  unfold impl_squareOk_1.f
  refine TC.seq ?_
  refine TC.region ?_
  refine TL.assign rfl rfl (v := .bool false) rfl ?_
  refine TL.done ?_
  refine TC.seq ?_
  refine TC.region ?_
  refine TL.move rfl rfl (v := SV.v s1) rfl ?_
  refine TL.len (Rd.old h1) Try.underlying22 rfl rfl rfl ?_
  refine TL.load1 0 (Src.at h2) Try.isAgg3 rfl rfl rfl rfl rfl ?_
  refine TL.bin .i64 (row_1.length : Int) c1 rfl rfl rfl rfl (v := .bool ((row_1.length : Int) != c1)) rfl ?_
  refine TL.move rfl rfl (v := .bool ((row_1.length : Int) != c1)) rfl ?_
  refine TL.cutJ (σ := Bool) (γ := Unit) (Γ' := fun b_3 _ => [(13, .bool b_3), (0, SV.v s1), (1, bp b_1 0), (2, bp b_2 0), (4, .bool false), (5, SV.v s1), (6, .int .i64 (row_1.length : Int)), (7, .int .i64 c1), (8, .bool ((row_1.length : Int) != c1)), (9, .bool ((row_1.length : Int) != c1))]) (L' := fun _ _ => []) 4 ?_ ?_
  · refine TL.ifb (t := 9) (b := ((row_1.length : Int) != c1)) rfl (fun c3 => ?_) (fun c4 => ?_)
    · refine TL.skip rfl rfl (by decide) ?_
      refine TL.skip rfl rfl (by decide) ?_
      refine TL.skip rfl rfl (by decide) ?_
      refine TL.pick rfl rfl (b := true) rfl (r := .bool true) rfl ?_
      refine TL.done ?_
      exact TC.nrm (true) () ⟨rfl, rfl, rfl, rfl, rfl, rfl, rfl, rfl, rfl, (by rw [c3]; rfl), trivial⟩ [] rfl
    · refine TL.move rfl rfl (v := SV.v s1) rfl ?_
      refine TL.makeFunc rfl rfl (us := []) (vs := [bp b_2 0]) rfl rfl ?_
      refine TL.call (R := G.slices_ContainsFunc_int64_int64.R) Try.call99 rfl rfl rfl (fun w hS => G.slices_ContainsFunc_int64_int64.calls w s1 row_1 131 [] [bp b_2 0] (fun x0_ => G.impl_squareOk_1_1.f x0_ c2) ((Rd.old h1) w hS) Try.call131 (fun w_ hle_ x0_ r_ hr_ => G.impl_squareOk_1_1.calls w_ x0_ b_2 c2 (((Src.at h3) w hS).mono hle_) r_ hr_)) ?_
      rintro r_1 _ _ ⟨rfl, rfl⟩
      refine TL.pick rfl rfl (b := false) rfl (r := .bool r_1) rfl ?_
      refine TL.done ?_
      exact TC.nrm (r_1) () ⟨rfl, rfl, rfl, rfl, rfl, rfl, rfl, rfl, rfl, (by rw [c4]; rfl), trivial⟩ [] rfl
  · rintro b_3 _
    refine TL.assign rfl rfl (v := .bool b_3) rfl ?_
    refine TL.done ?_
    exact TC.retF (Fin.body (fin1 (.inr rfl) rfl (.tmp rfl) [] rfl ⟨rfl, rfl⟩))

end Go.Proofs.Ytcombgcjgdkbiaa.G

/- impl.squareOk, as a pure function. -/
set_option linter.unusedVariables false
namespace Go.Proofs.Ytcombgcjgdkbiaa.G
open Go Go.Sx Go.Proofs

def impl_squareOk.f (table_1 : List (List Int)) (n_1 : Int) (p1 : Int) : Option Bool := (bif ((table_1.length : Int) == n_1) then (G.slices_ContainsFunc_int64_int64_129.f table_1 (fun x0_ => G.impl_squareOk_1.f x0_ n_1 p1)).bind (fun r_1 => some (!r_1)) else some false).bind (fun b_3 => some b_3)

def impl_squareOk.R (r : Bool) (v : Value) (L : List Asn) : Prop := v = .bool r ∧ L = []

set_option maxRecDepth 100000 in
set_option maxHeartbeats 4000000 in
theorem impl_squareOk.calls (w : World) (s1 : SV) (ss1 : List SV) (table_1 : List (List Int)) (n_1 : Int) (p1 : Int) (h1 : ReadsM Ei (hp w) s1 ss1 table_1) :
    ∀ r, impl_squareOk.f table_1 n_1 p1 = some r → Calls Try.prog 124 #[SV.v s1, .int .i64 n_1, .int .i64 p1] w (Ret w (impl_squareOk.R r)) := by

  refine calls_T (n := 17) (Γ := [(0, SV.v s1), (1, .int .i64 n_1), (2, .int .i64 p1)]) (R := impl_squareOk.R) Try.func124 rfl rfl (Nat.le_of_ble_eq_true rfl) ⟨rfl, rfl, rfl, trivial⟩ ?_
  unfold impl_squareOk.f
  refine TC.seq ?_
  refine TC.region ?_
  refine TL.box [.one (.int .i64 n_1)] rfl rfl rfl rfl fun b_1 => ?_
  refine TL.box [.one (.int .i64 p1)] rfl rfl rfl rfl fun b_2 => ?_
  refine TL.assign rfl rfl (v := .bool false) rfl ?_
  refine TL.done ?_
  refine TC.seq ?_
  refine TC.region ?_
  refine TL.move rfl rfl (v := SV.v s1) rfl ?_
  refine TL.lenM (RdM.old h1) Try.underlying53 rfl rfl rfl ?_
  refine TL.load1 0 (Src.box 1 rfl) Try.isAgg3 rfl rfl rfl rfl rfl ?_
  refine TL.bin .i64 (table_1.length : Int) n_1 rfl rfl rfl rfl (v := .bool ((table_1.length : Int) == n_1)) rfl ?_
  refine TL.move rfl rfl (v := .bool ((table_1.length : Int) == n_1)) rfl ?_
  refine TL.cutJ (σ := Bool) (γ := Unit) (Γ' := fun b_3 _ => [(16, .bool b_3), (0, SV.v s1), (1, .int .i64 n_1), (2, .int .i64 p1), (4, bp b_1 0), (5, bp b_2 0), (6, .bool false), (7, SV.v s1), (8, .int .i64 (table_1.length : Int)), (9, .int .i64 n_1), (10, .bool ((table_1.length : Int) == n_1)), (11, .bool ((table_1.length : Int) == n_1))]) (L' := fun _ _ => [box b_2 2 [.one (.int .i64 p1)], box b_1 3 [.one (.int .i64 n_1)]]) 5 ?_ ?_
  · refine TL.ifb (t := 11) (b := ((table_1.length : Int) == n_1)) rfl (fun c1 => ?_) (fun c2 => ?_)
    · refine TL.move rfl rfl (v := SV.v s1) rfl ?_
      refine TL.makeFunc rfl rfl (us := []) (vs := [bp b_1 0, bp b_2 0]) rfl rfl ?_
      refine TL.call (R := G.slices_ContainsFunc_int64_int64_129.R) Try.call129 rfl rfl rfl (fun w hS => G.slices_ContainsFunc_int64_int64_129.calls w s1 ss1 table_1 130 [] [bp b_1 0, bp b_2 0] (fun x0_ => G.impl_squareOk_1.f x0_ n_1 p1) ((RdM.old h1) w hS) Try.call130 (fun w_ hle_ s1_ x0_ h0_ r_ hr_ => G.impl_squareOk_1.calls w_ s1_ x0_ b_1 n_1 b_2 p1 h0_ (((Src.box 1 rfl) w hS).mono hle_) (((Src.box 0 rfl) w hS).mono hle_) r_ hr_)) ?_
      rintro r_1 _ _ ⟨rfl, rfl⟩
      refine TL.not r_1 rfl rfl rfl ?_
      refine TL.pick rfl rfl (b := true) rfl (r := .bool (!r_1)) rfl ?_
      refine TL.done ?_
      exact TC.nrm ((!r_1)) () ⟨rfl, rfl, rfl, rfl, rfl, rfl, rfl, rfl, rfl, rfl, rfl, (by rw [c1]; rfl), trivial⟩ [0, 0] rfl
    · refine TL.skip rfl rfl (by decide) ?_
      refine TL.skip rfl rfl (by decide) ?_
      refine TL.skip rfl rfl (by decide) ?_
      refine TL.skip rfl rfl (by decide) ?_
      refine TL.pick rfl rfl (b := false) rfl (r := .bool false) rfl ?_
      refine TL.done ?_
      exact TC.nrm (false) () ⟨rfl, rfl, rfl, rfl, rfl, rfl, rfl, rfl, rfl, rfl, rfl, (by rw [c2]; rfl), trivial⟩ [0, 0] rfl
  · rintro b_3 _
    refine TL.assign rfl rfl (v := .bool b_3) rfl ?_
    refine TL.done ?_
    exact TC.retF (Fin.body (fin1 (.inr rfl) rfl (.tmp rfl) [] rfl ⟨rfl, rfl⟩))

end Go.Proofs.Ytcombgcjgdkbiaa.G

/- impl.tabled, as a pure function. -/
set_option linter.unusedVariables false
namespace Go.Proofs.Ytcombgcjgdkbiaa.G
open Go Go.Sx Go.Proofs

def impl_tabled.f (p1 : Int) (g1 : Int) (g2 : Nat → UInt8) (table_1 : List (List Int)) : Option Int := (G.impl_primed.f p1 g1 g2).bind (fun r_1 => (bif (r_1 != 0) then some r_1 else (G.impl_Group_n.f g1 g2).bind (fun r_2 => (G.impl_squareOk.f table_1 r_2 p1).bind (fun r_3 => (bif (!r_3) then some 2 else some 0)))))

def impl_tabled.R (r : Int) (v : Value) (L : List Asn) : Prop := v = .int .i64 r ∧ L = []

set_option maxRecDepth 100000 in
set_option maxHeartbeats 4000000 in
theorem impl_tabled.calls (w : World) (p1 : Int) (g1 : Int) (g2 : Nat → UInt8) (s1 : SV) (ss1 : List SV) (table_1 : List (List Int)) (h1 : ReadsM Ei (hp w) s1 ss1 table_1) :
    ∀ r, impl_tabled.f p1 g1 g2 table_1 = some r → Calls Try.prog 104 #[.int .i64 p1, sval [.one (.int .i64 g1), .arr 36 (enf u8v g2)], SV.v s1] w (Ret w (impl_tabled.R r)) := by

  refine calls_T (n := 19) (Γ := [(0, .int .i64 p1), (1, sval [.one (.int .i64 g1), .arr 36 (enf u8v g2)]), (2, SV.v s1)]) (R := impl_tabled.R) Try.func104 rfl rfl (Nat.le_of_ble_eq_true rfl) ⟨rfl, rfl, rfl, trivial⟩ ?_
  unfold impl_tabled.f
  refine TC.seq ?_
  refine TC.region ?_
  refine TL.box [.one (.int .i64 g1), .arr 36 (enf u8v g2)] rfl rfl rfl rfl fun b_1 => ?_
  refine TL.assign rfl rfl (v := .int .i64 0) rfl ?_
  refine TL.done ?_
  refine TC.seq ?_
  refine TC.seq ?_
  refine TC.region ?_
  refine TL.move rfl rfl (v := .int .i64 p1) rfl ?_
  refine TL.loadM 0 2 (Src.box 0 rfl) Try.isAgg37 Try.sizeOf37 (mid := [.one (.int .i64 g1), .arr 36 (enf u8v g2)]) rfl rfl rfl rfl rfl rfl ?_
  refine TL.call (R := G.impl_primed.R) Try.call97 rfl rfl rfl (fun w hS => G.impl_primed.calls w p1 g1 g2) ?_
  rintro r_1 _ _ ⟨rfl, rfl⟩
  refine TL.assign rfl rfl (v := .int .i64 r_1) rfl ?_
  refine TL.done ?_
  refine TC.seq ?_
  refine TC.region ?_
  refine TL.move rfl rfl (v := .int .i64 r_1) rfl ?_
  refine TL.bin .i64 r_1 0 rfl rfl rfl rfl (v := .bool (r_1 != 0)) rfl ?_
  refine TL.done ?_
  refine TC.cond (b := (r_1 != 0)) rfl (fun c1 => ?_) (fun c2 => ?_)
  · refine TC.seq ?_
    refine TC.region ?_
    refine TL.move rfl rfl (v := .int .i64 r_1) rfl ?_
    refine TL.assign rfl rfl (v := .int .i64 r_1) rfl ?_
    refine TL.done ?_
    exact TC.retF (Fin.body (fin1 (.inr rfl) rfl (.tmp rfl) [] rfl ⟨rfl, rfl⟩))
  · refine TC.skip ?_
    refine TC.seq ?_
    refine TC.seq ?_
    refine TC.region ?_
    refine TL.move rfl rfl (v := SV.v s1) rfl ?_
    refine TL.call (R := G.impl_Group_n.R) Try.call65 rfl rfl rfl (fun w hS => G.impl_Group_n.calls w b_1 g1 g2 ((Src.box 0 rfl) w hS)) ?_
    rintro r_2 _ _ ⟨rfl, rfl⟩
    refine TL.move rfl rfl (v := .int .i64 p1) rfl ?_
    refine TL.call (R := G.impl_squareOk.R) Try.call124 rfl rfl rfl (fun w hS => G.impl_squareOk.calls w s1 ss1 table_1 r_2 p1 ((RdM.old h1) w hS)) ?_
    rintro r_3 _ _ ⟨rfl, rfl⟩
    refine TL.not r_3 rfl rfl rfl ?_
    refine TL.done ?_
    refine TC.cond (b := (!r_3)) rfl (fun c3 => ?_) (fun c4 => ?_)
    · refine TC.seq ?_
      refine TC.region ?_
      refine TL.assign rfl rfl (v := .int .i64 2) rfl ?_
      refine TL.done ?_
      exact TC.retF (Fin.body (fin1 (.inr rfl) rfl (.tmp rfl) [] rfl ⟨rfl, rfl⟩))
    · refine TC.skip ?_
      refine TC.seq ?_
      refine TC.region ?_
      refine TL.assign rfl rfl (v := .int .i64 0) rfl ?_
      refine TL.done ?_
      exact TC.retF (Fin.body (fin1 (.inr rfl) rfl (.tmp rfl) [] rfl ⟨rfl, rfl⟩))

end Go.Proofs.Ytcombgcjgdkbiaa.G

/- impl.Group).cocycle, as a pure function. -/
set_option linter.unusedVariables false
namespace Go.Proofs.Ytcombgcjgdkbiaa.G
open Go Go.Sx Go.Proofs

def impl_Group_cocycle.b0 (r_3 : Int) (x5 : Int) (x4 : List (List Int)) (x6 : Int) (x1 : Int) (x2 : Nat → UInt8) (x3 : Int) : Int → Option (LR Int (LR Int (LR Int Bool))) := fun x7 => (bif (decide (x7 < r_3)) then chk x5 x4.length (chk x6 ((gt x4 x5).length) ((G.impl_Group_times.f x1 x2 x5 x6).bind (fun r_4 => chk r_4 x4.length (chk x7 ((gt x4 r_4).length) (nz x3 (chk x6 x4.length (chk x7 ((gt x4 x6).length) ((G.impl_Group_times.f x1 x2 x6 x7).bind (fun r_5 => chk r_5 ((gt x4 x5).length) ((bif (((gt (gt x4 x5) x6) == 0) || ((Int.tmod (w64 ((gt (gt x4 x5) x6) * (gt (gt x4 r_4) x7))) x3) != (Int.tmod (w64 ((gt (gt x4 x6) x7) * (gt (gt x4 x5) r_5))) x3))) then some (.ret (.ret (.ret (false)))) else some (.next (w64 (x7 + 1)))))))))))))) else some (.brk x7))

def impl_Group_cocycle.b1 (r_2 : Int) (x1 : Int) (x2 : Nat → UInt8) (x5 : Int) (x4 : List (List Int)) (x3 : Int) : Int → Option (LR Int (LR Int Bool)) := fun x6 => (bif (decide (x6 < r_2)) then (G.impl_Group_n.f x1 x2).bind (fun r_3 => (loop (impl_Group_cocycle.b0 r_3 x5 x4 x6 x1 x2 x3) 0).bind (ln (fun x7 => some (.next (w64 (x6 + 1)))))) else some (.brk x6))

def impl_Group_cocycle.b2 (r_1 : Int) (x1 : Int) (x2 : Nat → UInt8) (x4 : List (List Int)) (x3 : Int) : Int → Option (LR Int Bool) := fun x5 => (bif (decide (x5 < r_1)) then (G.impl_Group_n.f x1 x2).bind (fun r_2 => (loop (impl_Group_cocycle.b1 r_2 x1 x2 x5 x4 x3) 0).bind (ln (fun x6 => some (.next (w64 (x5 + 1)))))) else some (.brk x5))

def impl_Group_cocycle.f (x1 : Int) (x2 : Nat → UInt8) (x3 : Int) (x4 : List (List Int)) : Option Bool := (G.impl_Group_n.f x1 x2).bind (fun r_1 => (loop (impl_Group_cocycle.b2 r_1 x1 x2 x4 x3) 0).bind (ln (fun x5 => chk 0 x4.length (chk 0 ((gt x4 0).length) (some ((gt (gt x4 0) 0) == 1))))))

def impl_Group_cocycle.R (r : Bool) (v : Value) (L : List Asn) : Prop := v = .bool r ∧ L = []

set_option maxRecDepth 100000 in
set_option maxHeartbeats 4000000 in
theorem impl_Group_cocycle.calls (w : World) (b_1 : Nat) (x1 : Int) (x2 : Nat → UInt8) (x3 : Int) (s1 : SV) (ss1 : List SV) (x4 : List (List Int)) (h1 : At (hp w) b_1 [.one (.int .i64 x1), .arr 36 (enf u8v x2)]) (h2 : ReadsM Ei (hp w) s1 ss1 x4) :
    ∀ r, impl_Group_cocycle.f x1 x2 x3 x4 = some r → Calls Try.prog 105 #[bp b_1 0, .int .i64 x3, SV.v s1] w (Ret w (impl_Group_cocycle.R r)) := by

  refine calls_T (n := 89) (Γ := [(0, bp b_1 0), (1, .int .i64 x3), (2, SV.v s1)]) (R := impl_Group_cocycle.R) Try.func105 rfl rfl (Nat.le_of_ble_eq_true rfl) ⟨rfl, rfl, rfl, trivial⟩ ?_
  unfold impl_Group_cocycle.f
  refine TC.seq ?_
  refine TC.region ?_
  refine TL.assign rfl rfl (v := .bool false) rfl ?_
  refine TL.done ?_
  refine TC.seq ?_
  refine TC.seq ?_
  refine TC.region ?_
  refine TL.move rfl rfl (v := bp b_1 0) rfl ?_
  refine TL.call (R := G.impl_Group_n.R) Try.call65 rfl rfl rfl (fun w hS => G.impl_Group_n.calls w b_1 x1 x2 ((Src.at h1) w hS)) ?_
  rintro r_1 _ _ ⟨rfl, rfl⟩
  refine TL.move rfl rfl (v := .int .i64 0) rfl ?_
  refine TL.done ?_
  refine TC.loopK (σ := Int) (γ := Unit) (Γ' := (fun x5 _ => [(0, bp b_1 0), (1, .int .i64 x3), (2, SV.v s1), (13, .int .i64 r_1), (14, .int .i64 x5)])) (L' := (fun x5 _ => [])) (Γb := (fun x5 _ => [(0, bp b_1 0), (1, .int .i64 x3), (2, SV.v s1), (13, .int .i64 r_1), (14, .int .i64 x5)])) (Lb := (fun x5 _ => [])) (0) (()) ⟨rfl, rfl, rfl, rfl, rfl, trivial⟩ [] rfl ?_ ?_
  · rintro x5 _
    refine TC.seq ?_
    refine TC.region ?_
    refine TL.bin .i64 x5 r_1 rfl rfl rfl rfl (v := .bool (decide (x5 < r_1))) rfl ?_
    refine TL.done ?_
    refine TC.seq ?_
    refine TC.cond (b := (decide (x5 < r_1))) rfl (fun c1 => ?_) (fun c2 => ?_)
    · refine TC.skip ?_
      refine TC.seq ?_
      refine TC.block (NoEx.loop rfl NoEx.body) ?_
      refine TC.seq ?_
      refine TC.region ?_
      refine TL.move rfl rfl (v := .int .i64 x5) rfl ?_
      refine TL.assign rfl rfl (v := .int .i64 x5) rfl ?_
      refine TL.done ?_
      refine TC.seq ?_
      refine TC.region ?_
      refine TL.move rfl rfl (v := bp b_1 0) rfl ?_
      refine TL.call (R := G.impl_Group_n.R) Try.call65 rfl rfl rfl (fun w hS => G.impl_Group_n.calls w b_1 x1 x2 ((Src.at h1) w hS)) ?_
      rintro r_2 _ _ ⟨rfl, rfl⟩
      refine TL.move rfl rfl (v := .int .i64 0) rfl ?_
      refine TL.done ?_
      refine TC.loopK (σ := Int) (γ := Unit) (Γ' := (fun x6 _ => [(0, bp b_1 0), (1, .int .i64 x3), (2, SV.v s1), (7, .int .i64 x5), (13, .int .i64 r_1), (14, .int .i64 x5), (18, .int .i64 r_2), (19, .int .i64 x6)])) (L' := (fun x6 _ => [])) (Γb := (fun x6 _ => [(0, bp b_1 0), (1, .int .i64 x3), (2, SV.v s1), (7, .int .i64 x5), (13, .int .i64 r_1), (14, .int .i64 x5), (18, .int .i64 r_2), (19, .int .i64 x6)])) (Lb := (fun x6 _ => [])) (0) (()) ⟨rfl, rfl, rfl, rfl, rfl, rfl, rfl, rfl, trivial⟩ [] rfl ?_ ?_
      · rintro x6 _
        refine TC.seq ?_
        refine TC.region ?_
        refine TL.bin .i64 x6 r_2 rfl rfl rfl rfl (v := .bool (decide (x6 < r_2))) rfl ?_
        refine TL.done ?_
        refine TC.seq ?_
        refine TC.cond (b := (decide (x6 < r_2))) rfl (fun c3 => ?_) (fun c4 => ?_)
        · refine TC.skip ?_
          refine TC.seq ?_
          refine TC.block (NoEx.loop rfl (NoEx.loop rfl NoEx.body)) ?_
          refine TC.seq ?_
          refine TC.region ?_
          refine TL.move rfl rfl (v := .int .i64 x6) rfl ?_
          refine TL.assign rfl rfl (v := .int .i64 x6) rfl ?_
          refine TL.done ?_
          refine TC.seq ?_
          refine TC.region ?_
          refine TL.move rfl rfl (v := bp b_1 0) rfl ?_
          refine TL.call (R := G.impl_Group_n.R) Try.call65 rfl rfl rfl (fun w hS => G.impl_Group_n.calls w b_1 x1 x2 ((Src.at h1) w hS)) ?_
          rintro r_3 _ _ ⟨rfl, rfl⟩
          refine TL.move rfl rfl (v := .int .i64 0) rfl ?_
          refine TL.done ?_
          refine TC.loopK (σ := Int) (γ := Unit) (Γ' := (fun x7 _ => [(0, bp b_1 0), (1, .int .i64 x3), (2, SV.v s1), (7, .int .i64 x5), (8, .int .i64 x6), (13, .int .i64 r_1), (14, .int .i64 x5), (18, .int .i64 r_2), (19, .int .i64 x6), (23, .int .i64 r_3), (24, .int .i64 x7)])) (L' := (fun x7 _ => [])) (Γb := (fun x7 _ => [(0, bp b_1 0), (1, .int .i64 x3), (2, SV.v s1), (7, .int .i64 x5), (8, .int .i64 x6), (13, .int .i64 r_1), (14, .int .i64 x5), (18, .int .i64 r_2), (19, .int .i64 x6), (23, .int .i64 r_3), (24, .int .i64 x7)])) (Lb := (fun x7 _ => [])) (0) (()) ⟨rfl, rfl, rfl, rfl, rfl, rfl, rfl, rfl, rfl, rfl, rfl, trivial⟩ [] rfl ?_ ?_
          · rintro x7 _
            refine TC.seq ?_
            refine TC.region ?_
            refine TL.bin .i64 x7 r_3 rfl rfl rfl rfl (v := .bool (decide (x7 < r_3))) rfl ?_
            refine TL.done ?_
            refine TC.seq ?_
            refine TC.cond (b := (decide (x7 < r_3))) rfl (fun c5 => ?_) (fun c6 => ?_)
            · refine TC.skip ?_
              refine TC.seq ?_
              refine TC.block (NoEx.loop rfl (NoEx.loop rfl (NoEx.loop rfl NoEx.body))) ?_
              refine TC.seq ?_
              refine TC.region ?_
              refine TL.move rfl rfl (v := .int .i64 x7) rfl ?_
              refine TL.assign rfl rfl (v := .int .i64 x7) rfl ?_
              refine TL.done ?_
              refine TC.seq ?_
              refine TC.wk (Γ' := [(0, bp b_1 0), (1, .int .i64 x3), (2, SV.v s1), (7, .int .i64 x5), (8, .int .i64 x6), (13, .int .i64 r_1), (14, .int .i64 x5), (18, .int .i64 r_2), (19, .int .i64 x6), (23, .int .i64 r_3), (24, .int .i64 x7), (25, .bool (decide (x7 < r_3))), (26, .int .i64 x7), (9, .int .i64 x7)]) ⟨rfl, rfl, rfl, rfl, rfl, rfl, rfl, rfl, rfl, rfl, rfl, rfl, rfl, rfl, trivial⟩ ?_
              refine TC.chk fun h3 => ?_
              refine TC.chk fun h4 => ?_
              refine TC.bindE fun r_4 hr1 => ?_
              refine TC.chk fun h5 => ?_
              refine TC.chk fun h6 => ?_
              refine TC.nz fun z1 => ?_
              refine TC.draw [SV.v s1, .int .i64 x5, ep s1 x5.toNat, SV.v (gt ss1 x5), .int .i64 x6, ep (gt ss1 x5) x6.toNat, .int .i64 (gt (gt x4 x5) x6), SV.v s1, bp b_1 0, .int .i64 x5, .int .i64 x6, .int .i64 r_4, ep s1 r_4.toNat, SV.v (gt ss1 r_4), .int .i64 x7, ep (gt ss1 r_4) x7.toNat, .int .i64 (gt (gt x4 r_4) x7), .int .i64 (w64 ((gt (gt x4 x5) x6) * (gt (gt x4 r_4) x7))), .int .i64 x3, .int .i64 (Int.tmod (w64 ((gt (gt x4 x5) x6) * (gt (gt x4 r_4) x7))) x3), .int .i64 (Int.tmod (w64 ((gt (gt x4 x5) x6) * (gt (gt x4 r_4) x7))) x3)] 21 [] (by kernel_rfl) rfl rfl rfl rfl ?_ ?_
              · refine ⟨?_, ?_, ?_, ?_, ?_, ?_, ?_, ?_, ?_, ?_, ?_, ?_, ?_, ?_, ?_, ?_, ?_, ?_, ?_, ?_, ?_, trivial⟩
                · refine TL.move rfl rfl (v := SV.v s1) rfl ?_
                  refine TL.done ?_
                  exact TC.nrm () () ⟨rfl, trivial⟩ [] rfl
                · refine TL.move rfl rfl (v := .int .i64 x5) rfl ?_
                  refine TL.done ?_
                  exact TC.nrm () () ⟨rfl, trivial⟩ [] rfl
                · refine TL.ixsM x5 x5.toNat (RdM.old h2) h3 Try.underlying53 Try.sizeOf22 rfl rfl rfl rfl (by omega) ?_
                  refine TL.done ?_
                  exact TC.nrm () () ⟨rfl, trivial⟩ [] rfl
                · refine TL.loadM2 (RdM.old h2) Try.isAgg22 x5 h3 (by omega) rfl rfl rfl ?_
                  refine TL.done ?_
                  exact TC.nrm () () ⟨rfl, trivial⟩ [] rfl
                · refine TL.move rfl rfl (v := .int .i64 x6) rfl ?_
                  refine TL.done ?_
                  exact TC.nrm () () ⟨rfl, trivial⟩ [] rfl
                · refine TL.ixs x6 x6.toNat (RdM.inn (RdM.old h2) h3) h4 Try.underlying22 Try.sizeOf2 rfl rfl rfl rfl (by omega) ?_
                  refine TL.done ?_
                  exact TC.nrm () () ⟨rfl, trivial⟩ [] rfl
                · refine TL.loadE (RdM.inn (RdM.old h2) h3) Try.isAgg2 x6.toNat 0 (gt_spec h4) (v := .int .i64 (gt (gt x4 x5) x6)) rfl (by simp only [show Ei.sz = 1 from rfl]; omega) rfl rfl rfl ?_
                  refine TL.done ?_
                  exact TC.nrm () () ⟨rfl, trivial⟩ [] rfl
                · refine TL.move rfl rfl (v := SV.v s1) rfl ?_
                  refine TL.done ?_
                  exact TC.nrm () () ⟨rfl, trivial⟩ [] rfl
                · refine TL.move rfl rfl (v := bp b_1 0) rfl ?_
                  refine TL.done ?_
                  exact TC.nrm () () ⟨rfl, trivial⟩ [] rfl
                · refine TL.move rfl rfl (v := .int .i64 x5) rfl ?_
                  refine TL.done ?_
                  exact TC.nrm () () ⟨rfl, trivial⟩ [] rfl
                · refine TL.move rfl rfl (v := .int .i64 x6) rfl ?_
                  refine TL.done ?_
                  exact TC.nrm () () ⟨rfl, trivial⟩ [] rfl
                · refine TL.callH (R := G.impl_Group_times.R) hr1 Try.call66 rfl rfl rfl (fun w hS => G.impl_Group_times.calls w b_1 x1 x2 x5 x6 ((Src.at h1) w hS)) ?_
                  rintro _ _ ⟨rfl, rfl⟩
                  refine TL.done ?_
                  exact TC.nrm () () ⟨rfl, trivial⟩ [] rfl
                · refine TL.ixsM r_4 r_4.toNat (RdM.old h2) h5 Try.underlying53 Try.sizeOf22 rfl rfl rfl rfl (by omega) ?_
                  refine TL.done ?_
                  exact TC.nrm () () ⟨rfl, trivial⟩ [] rfl
                · refine TL.loadM2 (RdM.old h2) Try.isAgg22 r_4 h5 (by omega) rfl rfl rfl ?_
                  refine TL.done ?_
                  exact TC.nrm () () ⟨rfl, trivial⟩ [] rfl
                · refine TL.move rfl rfl (v := .int .i64 x7) rfl ?_
                  refine TL.done ?_
                  exact TC.nrm () () ⟨rfl, trivial⟩ [] rfl
                · refine TL.ixs x7 x7.toNat (RdM.inn (RdM.old h2) h5) h6 Try.underlying22 Try.sizeOf2 rfl rfl rfl rfl (by omega) ?_
                  refine TL.done ?_
                  exact TC.nrm () () ⟨rfl, trivial⟩ [] rfl
                · refine TL.loadE (RdM.inn (RdM.old h2) h5) Try.isAgg2 x7.toNat 0 (gt_spec h6) (v := .int .i64 (gt (gt x4 r_4) x7)) rfl (by simp only [show Ei.sz = 1 from rfl]; omega) rfl rfl rfl ?_
                  refine TL.done ?_
                  exact TC.nrm () () ⟨rfl, trivial⟩ [] rfl
                · refine TL.bin .i64 (gt (gt x4 x5) x6) (gt (gt x4 r_4) x7) rfl rfl rfl rfl (v := .int .i64 (w64 ((gt (gt x4 x5) x6) * (gt (gt x4 r_4) x7)))) rfl ?_
                  refine TL.done ?_
                  exact TC.nrm () () ⟨rfl, trivial⟩ [] rfl
                · refine TL.move rfl rfl (v := .int .i64 x3) rfl ?_
                  refine TL.done ?_
                  exact TC.nrm () () ⟨rfl, trivial⟩ [] rfl
                · refine TL.rem .i64 (w64 ((gt (gt x4 x5) x6) * (gt (gt x4 r_4) x7))) x3 z1 rfl rfl rfl rfl ?_
                  refine TL.done ?_
                  exact TC.nrm () () ⟨rfl, trivial⟩ [] rfl
                · refine TL.assign rfl rfl (v := .int .i64 (Int.tmod (w64 ((gt (gt x4 x5) x6) * (gt (gt x4 r_4) x7))) x3)) rfl ?_
                  refine TL.done ?_
                  exact TC.nrm () () ⟨rfl, trivial⟩ [] rfl
              · refine TC.seq ?_
                refine TC.wk (Γ' := [(0, bp b_1 0), (1, .int .i64 x3), (2, SV.v s1), (7, .int .i64 x5), (8, .int .i64 x6), (13, .int .i64 r_1), (14, .int .i64 x5), (18, .int .i64 r_2), (19, .int .i64 x6), (23, .int .i64 r_3), (24, .int .i64 x7), (25, .bool (decide (x7 < r_3))), (26, .int .i64 x7), (9, .int .i64 x7), (27, SV.v s1), (28, .int .i64 x5), (29, ep s1 x5.toNat), (30, SV.v (gt ss1 x5)), (31, .int .i64 x6), (32, ep (gt ss1 x5) x6.toNat), (33, .int .i64 (gt (gt x4 x5) x6)), (34, SV.v s1), (35, bp b_1 0), (36, .int .i64 x5), (37, .int .i64 x6), (38, .int .i64 r_4), (39, ep s1 r_4.toNat), (40, SV.v (gt ss1 r_4)), (41, .int .i64 x7), (42, ep (gt ss1 r_4) x7.toNat), (43, .int .i64 (gt (gt x4 r_4) x7)), (44, .int .i64 (w64 ((gt (gt x4 x5) x6) * (gt (gt x4 r_4) x7)))), (45, .int .i64 x3), (46, .int .i64 (Int.tmod (w64 ((gt (gt x4 x5) x6) * (gt (gt x4 r_4) x7))) x3)), (10, .int .i64 (Int.tmod (w64 ((gt (gt x4 x5) x6) * (gt (gt x4 r_4) x7))) x3))]) ⟨rfl, rfl, rfl, rfl, rfl, rfl, rfl, rfl, rfl, rfl, rfl, rfl, rfl, rfl, rfl, rfl, rfl, rfl, rfl, rfl, rfl, rfl, rfl, rfl, rfl, rfl, rfl, rfl, rfl, rfl, rfl, rfl, rfl, rfl, rfl, trivial⟩ ?_
                refine TC.chk fun h7 => ?_
                refine TC.chk fun h8 => ?_
                refine TC.bindE fun r_5 hr2 => ?_
                refine TC.chk fun h9 => ?_
                refine TC.draw [SV.v s1, .int .i64 x6, ep s1 x6.toNat, SV.v (gt ss1 x6), .int .i64 x7, ep (gt ss1 x6) x7.toNat, .int .i64 (gt (gt x4 x6) x7), SV.v s1, .int .i64 x5, ep s1 x5.toNat, SV.v (gt ss1 x5), bp b_1 0, .int .i64 x6, .int .i64 x7, .int .i64 r_5, ep (gt ss1 x5) r_5.toNat, .int .i64 (gt (gt x4 x5) r_5), .int .i64 (w64 ((gt (gt x4 x6) x7) * (gt (gt x4 x5) r_5))), .int .i64 x3, .int .i64 (Int.tmod (w64 ((gt (gt x4 x6) x7) * (gt (gt x4 x5) r_5))) x3), .int .i64 (Int.tmod (w64 ((gt (gt x4 x6) x7) * (gt (gt x4 x5) r_5))) x3)] 21 [] (by kernel_rfl) rfl rfl rfl rfl ?_ ?_
                · refine ⟨?_, ?_, ?_, ?_, ?_, ?_, ?_, ?_, ?_, ?_, ?_, ?_, ?_, ?_, ?_, ?_, ?_, ?_, ?_, ?_, ?_, trivial⟩
                  · refine TL.move rfl rfl (v := SV.v s1) rfl ?_
                    refine TL.done ?_
                    exact TC.nrm () () ⟨rfl, trivial⟩ [] rfl
                  · refine TL.move rfl rfl (v := .int .i64 x6) rfl ?_
                    refine TL.done ?_
                    exact TC.nrm () () ⟨rfl, trivial⟩ [] rfl
                  · refine TL.ixsM x6 x6.toNat (RdM.old h2) h7 Try.underlying53 Try.sizeOf22 rfl rfl rfl rfl (by omega) ?_
                    refine TL.done ?_
                    exact TC.nrm () () ⟨rfl, trivial⟩ [] rfl
                  · refine TL.loadM2 (RdM.old h2) Try.isAgg22 x6 h7 (by omega) rfl rfl rfl ?_
                    refine TL.done ?_
                    exact TC.nrm () () ⟨rfl, trivial⟩ [] rfl
                  · refine TL.move rfl rfl (v := .int .i64 x7) rfl ?_
                    refine TL.done ?_
                    exact TC.nrm () () ⟨rfl, trivial⟩ [] rfl
                  · refine TL.ixs x7 x7.toNat (RdM.inn (RdM.old h2) h7) h8 Try.underlying22 Try.sizeOf2 rfl rfl rfl rfl (by omega) ?_
                    refine TL.done ?_
                    exact TC.nrm () () ⟨rfl, trivial⟩ [] rfl
                  · refine TL.loadE (RdM.inn (RdM.old h2) h7) Try.isAgg2 x7.toNat 0 (gt_spec h8) (v := .int .i64 (gt (gt x4 x6) x7)) rfl (by simp only [show Ei.sz = 1 from rfl]; omega) rfl rfl rfl ?_
                    refine TL.done ?_
                    exact TC.nrm () () ⟨rfl, trivial⟩ [] rfl
                  · refine TL.move rfl rfl (v := SV.v s1) rfl ?_
                    refine TL.done ?_
                    exact TC.nrm () () ⟨rfl, trivial⟩ [] rfl
                  · refine TL.move rfl rfl (v := .int .i64 x5) rfl ?_
                    refine TL.done ?_
                    exact TC.nrm () () ⟨rfl, trivial⟩ [] rfl
                  · refine TL.ixsM x5 x5.toNat (RdM.old h2) h3 Try.underlying53 Try.sizeOf22 rfl rfl rfl rfl (by omega) ?_
                    refine TL.done ?_
                    exact TC.nrm () () ⟨rfl, trivial⟩ [] rfl
                  · refine TL.loadM2 (RdM.old h2) Try.isAgg22 x5 h3 (by omega) rfl rfl rfl ?_
                    refine TL.done ?_
                    exact TC.nrm () () ⟨rfl, trivial⟩ [] rfl
                  · refine TL.move rfl rfl (v := bp b_1 0) rfl ?_
                    refine TL.done ?_
                    exact TC.nrm () () ⟨rfl, trivial⟩ [] rfl
                  · refine TL.move rfl rfl (v := .int .i64 x6) rfl ?_
                    refine TL.done ?_
                    exact TC.nrm () () ⟨rfl, trivial⟩ [] rfl
                  · refine TL.move rfl rfl (v := .int .i64 x7) rfl ?_
                    refine TL.done ?_
                    exact TC.nrm () () ⟨rfl, trivial⟩ [] rfl
                  · refine TL.callH (R := G.impl_Group_times.R) hr2 Try.call66 rfl rfl rfl (fun w hS => G.impl_Group_times.calls w b_1 x1 x2 x6 x7 ((Src.at h1) w hS)) ?_
                    rintro _ _ ⟨rfl, rfl⟩
                    refine TL.done ?_
                    exact TC.nrm () () ⟨rfl, trivial⟩ [] rfl
                  · refine TL.ixs r_5 r_5.toNat (RdM.inn (RdM.old h2) h3) h9 Try.underlying22 Try.sizeOf2 rfl rfl rfl rfl (by omega) ?_
                    refine TL.done ?_
                    exact TC.nrm () () ⟨rfl, trivial⟩ [] rfl
                  · refine TL.loadE (RdM.inn (RdM.old h2) h3) Try.isAgg2 r_5.toNat 0 (gt_spec h9) (v := .int .i64 (gt (gt x4 x5) r_5)) rfl (by simp only [show Ei.sz = 1 from rfl]; omega) rfl rfl rfl ?_
                    refine TL.done ?_
                    exact TC.nrm () () ⟨rfl, trivial⟩ [] rfl
                  · refine TL.bin .i64 (gt (gt x4 x6) x7) (gt (gt x4 x5) r_5) rfl rfl rfl rfl (v := .int .i64 (w64 ((gt (gt x4 x6) x7) * (gt (gt x4 x5) r_5)))) rfl ?_
                    refine TL.done ?_
                    exact TC.nrm () () ⟨rfl, trivial⟩ [] rfl
                  · refine TL.move rfl rfl (v := .int .i64 x3) rfl ?_
                    refine TL.done ?_
                    exact TC.nrm () () ⟨rfl, trivial⟩ [] rfl
                  · refine TL.rem .i64 (w64 ((gt (gt x4 x6) x7) * (gt (gt x4 x5) r_5))) x3 z1 rfl rfl rfl rfl ?_
                    refine TL.done ?_
                    exact TC.nrm () () ⟨rfl, trivial⟩ [] rfl
                  · refine TL.assign rfl rfl (v := .int .i64 (Int.tmod (w64 ((gt (gt x4 x6) x7) * (gt (gt x4 x5) r_5))) x3)) rfl ?_
                    refine TL.done ?_
                    exact TC.nrm () () ⟨rfl, trivial⟩ [] rfl
                · refine TC.seq ?_
                  refine TC.region ?_
                  refine TL.move rfl rfl (v := SV.v s1) rfl ?_
                  refine TL.move rfl rfl (v := .int .i64 x5) rfl ?_
                  refine TL.ixsM x5 x5.toNat (RdM.old h2) h3 Try.underlying53 Try.sizeOf22 rfl rfl rfl rfl (by omega) ?_
                  refine TL.loadM2 (RdM.old h2) Try.isAgg22 x5 h3 (by omega) rfl rfl rfl ?_
                  refine TL.move rfl rfl (v := .int .i64 x6) rfl ?_
                  refine TL.ixs x6 x6.toNat (RdM.inn (RdM.old h2) h3) h4 Try.underlying22 Try.sizeOf2 rfl rfl rfl rfl (by omega) ?_
                  refine TL.loadE (RdM.inn (RdM.old h2) h3) Try.isAgg2 x6.toNat 0 (gt_spec h4) (v := .int .i64 (gt (gt x4 x5) x6)) rfl (by simp only [show Ei.sz = 1 from rfl]; omega) rfl rfl rfl ?_
                  refine TL.bin .i64 (gt (gt x4 x5) x6) 0 rfl rfl rfl rfl (v := .bool ((gt (gt x4 x5) x6) == 0)) rfl ?_
                  refine TL.move rfl rfl (v := .bool ((gt (gt x4 x5) x6) == 0)) rfl ?_
                  refine TL.cutU 4 [(79, .bool (((gt (gt x4 x5) x6) == 0) || ((Int.tmod (w64 ((gt (gt x4 x5) x6) * (gt (gt x4 r_4) x7))) x3) != (Int.tmod (w64 ((gt (gt x4 x6) x7) * (gt (gt x4 x5) r_5))) x3)))), (0, bp b_1 0), (1, .int .i64 x3), (2, SV.v s1), (7, .int .i64 x5), (8, .int .i64 x6), (13, .int .i64 r_1), (14, .int .i64 x5), (18, .int .i64 r_2), (19, .int .i64 x6), (23, .int .i64 r_3), (24, .int .i64 x7), (25, .bool (decide (x7 < r_3))), (26, .int .i64 x7), (9, .int .i64 x7), (27, SV.v s1), (28, .int .i64 x5), (29, ep s1 x5.toNat), (30, SV.v (gt ss1 x5)), (31, .int .i64 x6), (32, ep (gt ss1 x5) x6.toNat), (33, .int .i64 (gt (gt x4 x5) x6)), (34, SV.v s1), (35, bp b_1 0), (36, .int .i64 x5), (37, .int .i64 x6), (38, .int .i64 r_4), (39, ep s1 r_4.toNat), (40, SV.v (gt ss1 r_4)), (41, .int .i64 x7), (42, ep (gt ss1 r_4) x7.toNat), (43, .int .i64 (gt (gt x4 r_4) x7)), (44, .int .i64 (w64 ((gt (gt x4 x5) x6) * (gt (gt x4 r_4) x7)))), (45, .int .i64 x3), (46, .int .i64 (Int.tmod (w64 ((gt (gt x4 x5) x6) * (gt (gt x4 r_4) x7))) x3)), (10, .int .i64 (Int.tmod (w64 ((gt (gt x4 x5) x6) * (gt (gt x4 r_4) x7))) x3)), (47, SV.v s1), (48, .int .i64 x6), (49, ep s1 x6.toNat), (50, SV.v (gt ss1 x6)), (51, .int .i64 x7), (52, ep (gt ss1 x6) x7.toNat), (53, .int .i64 (gt (gt x4 x6) x7)), (54, SV.v s1), (55, .int .i64 x5), (56, ep s1 x5.toNat), (57, SV.v (gt ss1 x5)), (58, bp b_1 0), (59, .int .i64 x6), (60, .int .i64 x7), (61, .int .i64 r_5), (62, ep (gt ss1 x5) r_5.toNat), (63, .int .i64 (gt (gt x4 x5) r_5)), (64, .int .i64 (w64 ((gt (gt x4 x6) x7) * (gt (gt x4 x5) r_5)))), (65, .int .i64 x3), (66, .int .i64 (Int.tmod (w64 ((gt (gt x4 x6) x7) * (gt (gt x4 x5) r_5))) x3)), (11, .int .i64 (Int.tmod (w64 ((gt (gt x4 x6) x7) * (gt (gt x4 x5) r_5))) x3)), (67, SV.v s1), (68, .int .i64 x5), (69, ep s1 x5.toNat), (70, SV.v (gt ss1 x5)), (71, .int .i64 x6), (72, ep (gt ss1 x5) x6.toNat), (73, .int .i64 (gt (gt x4 x5) x6)), (74, .bool ((gt (gt x4 x5) x6) == 0)), (75, .bool ((gt (gt x4 x5) x6) == 0))] [] ?_ ?_
                  · refine TL.cases (t := 75) (b := ((gt (gt x4 x5) x6) == 0)) rfl (fun c7 => ?_) (fun c8 => ?_)
                    · refine TL.skip rfl rfl (by decide) ?_
                      refine TL.skip rfl rfl (by decide) ?_
                      refine TL.skip rfl rfl (by decide) ?_
                      refine TL.pick rfl rfl (b := true) rfl (r := .bool true) rfl ?_
                      refine TL.done ?_
                      exact TC.nrm () () ⟨(by rw [c7]; rfl), rfl, rfl, rfl, rfl, rfl, rfl, rfl, rfl, rfl, rfl, rfl, rfl, rfl, rfl, rfl, rfl, rfl, rfl, rfl, rfl, rfl, rfl, rfl, rfl, rfl, rfl, rfl, rfl, rfl, rfl, rfl, rfl, rfl, rfl, rfl, rfl, rfl, rfl, rfl, rfl, rfl, rfl, rfl, rfl, rfl, rfl, rfl, rfl, rfl, rfl, rfl, rfl, rfl, rfl, rfl, rfl, rfl, rfl, rfl, rfl, rfl, rfl, rfl, rfl, (by rw [c7]; rfl), trivial⟩ [] rfl
                    · refine TL.move rfl rfl (v := .int .i64 (Int.tmod (w64 ((gt (gt x4 x5) x6) * (gt (gt x4 r_4) x7))) x3)) rfl ?_
                      refine TL.move rfl rfl (v := .int .i64 (Int.tmod (w64 ((gt (gt x4 x6) x7) * (gt (gt x4 x5) r_5))) x3)) rfl ?_
                      refine TL.bin .i64 (Int.tmod (w64 ((gt (gt x4 x5) x6) * (gt (gt x4 r_4) x7))) x3) (Int.tmod (w64 ((gt (gt x4 x6) x7) * (gt (gt x4 x5) r_5))) x3) rfl rfl rfl rfl (v := .bool ((Int.tmod (w64 ((gt (gt x4 x5) x6) * (gt (gt x4 r_4) x7))) x3) != (Int.tmod (w64 ((gt (gt x4 x6) x7) * (gt (gt x4 x5) r_5))) x3))) rfl ?_
                      refine TL.pick rfl rfl (b := false) rfl (r := .bool ((Int.tmod (w64 ((gt (gt x4 x5) x6) * (gt (gt x4 r_4) x7))) x3) != (Int.tmod (w64 ((gt (gt x4 x6) x7) * (gt (gt x4 x5) r_5))) x3))) rfl ?_
                      refine TL.done ?_
                      exact TC.nrm () () ⟨(by rw [c8]; rfl), rfl, rfl, rfl, rfl, rfl, rfl, rfl, rfl, rfl, rfl, rfl, rfl, rfl, rfl, rfl, rfl, rfl, rfl, rfl, rfl, rfl, rfl, rfl, rfl, rfl, rfl, rfl, rfl, rfl, rfl, rfl, rfl, rfl, rfl, rfl, rfl, rfl, rfl, rfl, rfl, rfl, rfl, rfl, rfl, rfl, rfl, rfl, rfl, rfl, rfl, rfl, rfl, rfl, rfl, rfl, rfl, rfl, rfl, rfl, rfl, rfl, rfl, rfl, rfl, (by rw [c8]; rfl), trivial⟩ [] rfl
                  · refine TL.done ?_
                    refine TC.cond (b := (((gt (gt x4 x5) x6) == 0) || ((Int.tmod (w64 ((gt (gt x4 x5) x6) * (gt (gt x4 r_4) x7))) x3) != (Int.tmod (w64 ((gt (gt x4 x6) x7) * (gt (gt x4 x5) r_5))) x3)))) rfl (fun c9 => ?_) (fun c10 => ?_)
                    · refine TC.seq ?_
                      refine TC.region ?_
                      refine TL.assign rfl rfl (v := .bool false) rfl ?_
                      refine TL.done ?_
                      exact TC.retF (Fin.loop Far.ret (Fin.loop Far.ret (Fin.loop Far.ret (Fin.body (fin1 (.inr rfl) rfl (.tmp rfl) [] rfl ⟨rfl, rfl⟩)))))
                    · refine TC.skip ?_
                      refine TC.region ?_
                      refine TL.bin .i64 x7 1 rfl rfl rfl rfl (v := .int .i64 (w64 (x7 + 1))) rfl ?_
                      refine TL.move rfl rfl (v := .int .i64 (w64 (x7 + 1))) rfl ?_
                      refine TL.done ?_
                      exact TC.next ((w64 (x7 + 1))) (()) ⟨rfl, rfl, rfl, rfl, rfl, rfl, rfl, rfl, rfl, rfl, rfl, trivial⟩ [] rfl
            · exact TC.brk (x7) (()) ⟨rfl, rfl, rfl, rfl, rfl, rfl, rfl, rfl, rfl, rfl, rfl, trivial⟩ [] rfl
          · rintro x7 _
            refine TC.region ?_
            refine TL.bin .i64 x6 1 rfl rfl rfl rfl (v := .int .i64 (w64 (x6 + 1))) rfl ?_
            refine TL.move rfl rfl (v := .int .i64 (w64 (x6 + 1))) rfl ?_
            refine TL.done ?_
            exact TC.next ((w64 (x6 + 1))) (()) ⟨rfl, rfl, rfl, rfl, rfl, rfl, rfl, rfl, trivial⟩ [] rfl
        · exact TC.brk (x6) (()) ⟨rfl, rfl, rfl, rfl, rfl, rfl, rfl, rfl, trivial⟩ [] rfl
      · rintro x6 _
        refine TC.region ?_
        refine TL.bin .i64 x5 1 rfl rfl rfl rfl (v := .int .i64 (w64 (x5 + 1))) rfl ?_
        refine TL.move rfl rfl (v := .int .i64 (w64 (x5 + 1))) rfl ?_
        refine TL.done ?_
        exact TC.next ((w64 (x5 + 1))) (()) ⟨rfl, rfl, rfl, rfl, rfl, trivial⟩ [] rfl
    · exact TC.brk (x5) (()) ⟨rfl, rfl, rfl, rfl, rfl, trivial⟩ [] rfl
  · rintro x5 _
    refine TC.seq ?_
    refine TC.region ?_
    refine TL.move rfl rfl (v := SV.v s1) rfl ?_
    refine TL.chk fun h10 => ?_
    refine TL.ixsM 0 0 (RdM.old h2) h10 Try.underlying53 Try.sizeOf22 rfl rfl rfl rfl rfl ?_
    refine TL.loadM2 (RdM.old h2) Try.isAgg22 0 h10 rfl rfl rfl rfl ?_
    refine TL.chk fun h11 => ?_
    refine TL.ixs 0 0 (RdM.inn (RdM.old h2) h10) h11 Try.underlying22 Try.sizeOf2 rfl rfl rfl rfl rfl ?_
    refine TL.loadE (RdM.inn (RdM.old h2) h10) Try.isAgg2 0 0 (gt_spec h11) (v := .int .i64 (gt (gt x4 0) 0)) rfl rfl rfl rfl rfl ?_
    refine TL.bin .i64 (gt (gt x4 0) 0) 1 rfl rfl rfl rfl (v := .bool ((gt (gt x4 0) 0) == 1)) rfl ?_
    refine TL.assign rfl rfl (v := .bool ((gt (gt x4 0) 0) == 1)) rfl ?_
    refine TL.done ?_
    exact TC.retF (Fin.body (fin1 (.inr rfl) rfl (.tmp rfl) [] rfl ⟨rfl, rfl⟩))

end Go.Proofs.Ytcombgcjgdkbiaa.G

/- impl.IsCocycle, as a pure function. -/
set_option linter.unusedVariables false
namespace Go.Proofs.Ytcombgcjgdkbiaa.G
open Go Go.Sx Go.Proofs

def impl_IsCocycle.f (p1 : Int) (g1 : Int) (g2 : Nat → UInt8) (table_1 : List (List Int)) : Option (Bool × Int) := (G.impl_tabled.f p1 g1 g2 table_1).bind (fun r_1 => (bif (r_1 != 0) then some (false, r_1) else (G.impl_Group_cocycle.f g1 g2 p1 table_1).bind (fun r_2 => some (r_2, 0))))

def impl_IsCocycle.R (r : Bool × Int) (v : Value) (L : List Asn) : Prop := v = .tuple #[.bool r.1, .int .i64 r.2] ∧ L = []

set_option maxRecDepth 100000 in
set_option maxHeartbeats 4000000 in
theorem impl_IsCocycle.calls (w : World) (p1 : Int) (g1 : Int) (g2 : Nat → UInt8) (s1 : SV) (ss1 : List SV) (table_1 : List (List Int)) (h1 : ReadsM Ei (hp w) s1 ss1 table_1) :
    ∀ r, impl_IsCocycle.f p1 g1 g2 table_1 = some r → Calls Try.prog 47 #[.int .i64 p1, sval [.one (.int .i64 g1), .arr 36 (enf u8v g2)], SV.v s1] w (Ret w (impl_IsCocycle.R r)) := by

  refine calls_T (n := 19) (Γ := [(0, .int .i64 p1), (1, sval [.one (.int .i64 g1), .arr 36 (enf u8v g2)]), (2, SV.v s1)]) (R := impl_IsCocycle.R) Try.func47 rfl rfl (Nat.le_of_ble_eq_true rfl) ⟨rfl, rfl, rfl, trivial⟩ ?_
  unfold impl_IsCocycle.f
  refine TC.seq ?_
  refine TC.region ?_
  refine TL.box [.one (.int .i64 g1), .arr 36 (enf u8v g2)] rfl rfl rfl rfl fun b_1 => ?_
  refine TL.assign rfl rfl (v := .bool false) rfl ?_
  refine TL.assign rfl rfl (v := .int .i64 0) rfl ?_
  refine TL.done ?_
  refine TC.seq ?_
  refine TC.seq ?_
  refine TC.region ?_
  refine TL.move rfl rfl (v := .int .i64 p1) rfl ?_
  refine TL.loadM 0 2 (Src.box 0 rfl) Try.isAgg37 Try.sizeOf37 (mid := [.one (.int .i64 g1), .arr 36 (enf u8v g2)]) rfl rfl rfl rfl rfl rfl ?_
  refine TL.move rfl rfl (v := SV.v s1) rfl ?_
  refine TL.call (R := G.impl_tabled.R) Try.call104 rfl rfl rfl (fun w hS => G.impl_tabled.calls w p1 g1 g2 s1 ss1 table_1 ((RdM.old h1) w hS)) ?_
  rintro r_1 _ _ ⟨rfl, rfl⟩
  refine TL.assign rfl rfl (v := .int .i64 r_1) rfl ?_
  refine TL.done ?_
  refine TC.seq ?_
  refine TC.region ?_
  refine TL.move rfl rfl (v := .int .i64 r_1) rfl ?_
  refine TL.bin .i64 r_1 0 rfl rfl rfl rfl (v := .bool (r_1 != 0)) rfl ?_
  refine TL.done ?_
  refine TC.cond (b := (r_1 != 0)) rfl (fun c1 => ?_) (fun c2 => ?_)
  · refine TC.seq ?_
    refine TC.region ?_
    refine TL.move rfl rfl (v := .int .i64 r_1) rfl ?_
    refine TL.assign rfl rfl (v := .bool false) rfl ?_
    refine TL.assign rfl rfl (v := .int .i64 r_1) rfl ?_
    refine TL.done ?_
    exact TC.retF (Fin.body (fin2 (.inr rfl) rfl (.tmp rfl) (.tmp rfl) [] rfl ⟨rfl, rfl⟩))
  · refine TC.skip ?_
    refine TC.seq ?_
    refine TC.region ?_
    refine TL.move rfl rfl (v := .int .i64 p1) rfl ?_
    refine TL.move rfl rfl (v := SV.v s1) rfl ?_
    refine TL.call (R := G.impl_Group_cocycle.R) Try.call105 rfl rfl rfl (fun w hS => G.impl_Group_cocycle.calls w b_1 g1 g2 p1 s1 ss1 table_1 ((Src.box 0 rfl) w hS) ((RdM.old h1) w hS)) ?_
    rintro r_2 _ _ ⟨rfl, rfl⟩
    refine TL.assign rfl rfl (v := .bool r_2) rfl ?_
    refine TL.assign rfl rfl (v := .int .i64 0) rfl ?_
    refine TL.done ?_
    exact TC.retF (Fin.body (fin2 (.inr rfl) rfl (.tmp rfl) (.tmp rfl) [] rfl ⟨rfl, rfl⟩))

end Go.Proofs.Ytcombgcjgdkbiaa.G

/- laws.FnExactIsCocycle, as a pure function. -/
set_option linter.unusedVariables false
namespace Go.Proofs.Ytcombgcjgdkbiaa.G
open Go Go.Sx Go.Proofs

def laws_FnExactIsCocycle.f (aP1 : Int) (aG1 : Int) (aG2 : Nat → UInt8) (aTable1 : List (List Int)) : Option Bool := (G.laws_szInt64SS.f aTable1 1048576).bind (fun r_1 => (bif (decide (r_1 < 0)) then some true else (G.laws_toGroup.f aG1 aG2).bind (fun p => match p with | (r_2, r_3) => (G.laws_toInt64SS.f aTable1).bind (fun r_4 => (G.spec_IsCocycle.f aP1 r_2 r_3 r_4).bind (fun p => match p with | (r_5, r_6) => (G.laws_toInt64SS.f aTable1).bind (fun r_7 => (G.laws_toGroup.f aG1 aG2).bind (fun p => match p with | (r_8, r_9) => (G.impl_IsCocycle.f aP1 r_8 r_9 r_7).bind (fun p => match p with | (r_10, r_11) => (bif ((r_10 != r_5) || (r_11 != r_6)) then some false else (G.laws_toInt64SS.f aTable1).bind (fun r_12 => (G.laws_eqInt64SS.f r_7 r_12).bind (fun r_13 => (bif (!r_13) then some false else some true))))))))))))

def laws_FnExactIsCocycle.R (r : Bool) (v : Value) (L : List Asn) : Prop := v = .bool r ∧ L = []

set_option maxRecDepth 100000 in
set_option maxHeartbeats 4000000 in
theorem laws_FnExactIsCocycle.calls (w : World) (aP1 : Int) (aG1 : Int) (aG2 : Nat → UInt8) (s1 : SV) (ss1 : List SV) (aTable1 : List (List Int)) (h1 : ReadsM Ei (hp w) s1 ss1 aTable1) :
    ∀ r, laws_FnExactIsCocycle.f aP1 aG1 aG2 aTable1 = some r → Calls Try.prog 13 #[.int .i64 aP1, sval [.one (.int .i64 aG1), .arr 36 (enf u8v aG2)], SV.v s1] w (Ret w (laws_FnExactIsCocycle.R r)) := by

  refine calls_T (n := 50) (Γ := [(0, .int .i64 aP1), (1, sval [.one (.int .i64 aG1), .arr 36 (enf u8v aG2)]), (2, SV.v s1)]) (R := laws_FnExactIsCocycle.R) Try.func13 rfl rfl (Nat.le_of_ble_eq_true rfl) ⟨rfl, rfl, rfl, trivial⟩ ?_
  unfold laws_FnExactIsCocycle.f
  refine TC.seq ?_
  refine TC.region ?_
  refine TL.box [.one (.int .i64 aG1), .arr 36 (enf u8v aG2)] rfl rfl rfl rfl fun b_1 => ?_
  refine TL.assign rfl rfl (v := .bool false) rfl ?_
  refine TL.done ?_
  refine TC.seq ?_
  refine TC.region ?_
  refine TL.assign rfl rfl (v := .int .i64 1048576) rfl ?_
  refine TL.done ?_
  refine TC.seq ?_
  refine TC.region ?_
  refine TL.move rfl rfl (v := SV.v s1) rfl ?_
  refine TL.move rfl rfl (v := .int .i64 1048576) rfl ?_
  refine TL.call (R := G.laws_szInt64SS.R) Try.call44 rfl rfl rfl (fun w hS => G.laws_szInt64SS.calls w s1 ss1 aTable1 1048576 ((RdM.old h1) w hS)) ?_
  rintro r_1 _ _ ⟨rfl, rfl⟩
  refine TL.assign rfl rfl (v := .int .i64 r_1) rfl ?_
  refine TL.done ?_
  refine TC.seq ?_
  refine TC.seq ?_
  refine TC.region ?_
  refine TL.move rfl rfl (v := .int .i64 r_1) rfl ?_
  refine TL.bin .i64 r_1 0 rfl rfl rfl rfl (v := .bool (decide (r_1 < 0))) rfl ?_
  refine TL.done ?_
  refine TC.cond (b := (decide (r_1 < 0))) rfl (fun c1 => ?_) (fun c2 => ?_)
  · refine TC.seq ?_
    refine TC.region ?_
    refine TL.assign rfl rfl (v := .bool true) rfl ?_
    refine TL.done ?_
    exact TC.retF (Fin.body (fin1 (.inr rfl) rfl (.tmp rfl) [] rfl ⟨rfl, rfl⟩))
  · refine TC.skip ?_
    refine TC.seq ?_
    refine TC.region ?_
    refine TL.move rfl rfl (v := .int .i64 aP1) rfl ?_
    refine TL.loadM 0 2 (Src.box 0 rfl) Try.isAgg35 Try.sizeOf35 (mid := [.one (.int .i64 aG1), .arr 36 (enf u8v aG2)]) rfl rfl rfl rfl rfl rfl ?_
    refine TL.call (R := G.laws_toGroup.R) Try.call24 rfl rfl rfl (fun w hS => G.laws_toGroup.calls w aG1 aG2) ?_
    rintro ⟨r_2, r_3⟩ _ _ ⟨rfl, rfl⟩
    refine TL.move rfl rfl (v := SV.v s1) rfl ?_
    refine TL.call (R := G.laws_toInt64SS.R) Try.call46 rfl rfl rfl (fun w hS => G.laws_toInt64SS.calls w s1 ss1 aTable1 ((RdM.old h1) w hS)) ?_
    rintro r_4 _ _ ⟨s2, ss2, rfl, rfl⟩
    refine TL.call (R := G.spec_IsCocycle.R) Try.call45 rfl rfl rfl (fun w hS => G.spec_IsCocycle.calls w aP1 r_2 r_3 s2 ss2 r_4 ((RdM.mat 0 rfl) w hS)) ?_
    rintro ⟨r_5, r_6⟩ _ _ ⟨rfl, rfl⟩
    refine TL.move rfl rfl (v := .tuple #[.bool r_5, .int .i64 r_6]) rfl ?_
    refine TL.extract rfl rfl rfl (v := .bool r_5) rfl ?_
    refine TL.extract rfl rfl rfl (v := .int .i64 r_6) rfl ?_
    refine TL.assign rfl rfl (v := .bool r_5) rfl ?_
    refine TL.assign rfl rfl (v := .int .i64 r_6) rfl ?_
    refine TL.done ?_
    refine TC.seq ?_
    refine TC.region ?_
    refine TL.move rfl rfl (v := SV.v s1) rfl ?_
    refine TL.call (R := G.laws_toInt64SS.R) Try.call46 rfl rfl rfl (fun w hS => G.laws_toInt64SS.calls w s1 ss1 aTable1 ((RdM.old h1) w hS)) ?_
    rintro r_7 _ _ ⟨s3, ss3, rfl, rfl⟩
    refine TL.assign rfl rfl (v := SV.v s3) rfl ?_
    refine TL.done ?_
    refine TC.seq ?_
    refine TC.region ?_
    refine TL.move rfl rfl (v := .int .i64 aP1) rfl ?_
    refine TL.loadM 0 2 (Src.box 2 rfl) Try.isAgg35 Try.sizeOf35 (mid := [.one (.int .i64 aG1), .arr 36 (enf u8v aG2)]) rfl rfl rfl rfl rfl rfl ?_
    refine TL.call (R := G.laws_toGroup.R) Try.call24 rfl rfl rfl (fun w hS => G.laws_toGroup.calls w aG1 aG2) ?_
    rintro ⟨r_8, r_9⟩ _ _ ⟨rfl, rfl⟩
    refine TL.move rfl rfl (v := SV.v s3) rfl ?_
    refine TL.call (R := G.impl_IsCocycle.R) Try.call47 rfl rfl rfl (fun w hS => G.impl_IsCocycle.calls w aP1 r_8 r_9 s3 ss3 r_7 ((RdM.mat 0 rfl) w hS)) ?_
    rintro ⟨r_10, r_11⟩ _ _ ⟨rfl, rfl⟩
    refine TL.move rfl rfl (v := .tuple #[.bool r_10, .int .i64 r_11]) rfl ?_
    refine TL.extract rfl rfl rfl (v := .bool r_10) rfl ?_
    refine TL.extract rfl rfl rfl (v := .int .i64 r_11) rfl ?_
    refine TL.assign rfl rfl (v := .bool r_10) rfl ?_
    refine TL.assign rfl rfl (v := .int .i64 r_11) rfl ?_
    refine TL.done ?_
    refine TC.seq ?_
    refine TC.seq ?_
    refine TC.region ?_
    refine TL.move rfl rfl (v := .bool r_10) rfl ?_
    refine TL.move rfl rfl (v := .bool r_5) rfl ?_
    refine TL.boolNe r_10 r_5 Try.underlying4 rfl rfl rfl rfl ?_
    refine TL.move rfl rfl (v := .bool (r_10 != r_5)) rfl ?_
    refine TL.cutU 4 [(44, .bool ((r_10 != r_5) || (r_11 != r_6))), (0, .int .i64 aP1), (1, sval [.one (.int .i64 aG1), .arr 36 (enf u8v aG2)]), (2, SV.v s1), (4, bp b_1 0), (6, .bool false), (7, .int .i64 r_1), (13, SV.v s1), (14, .int .i64 1048576), (15, .int .i64 r_1), (16, .int .i64 r_1), (17, .bool (decide (r_1 < 0))), (19, .int .i64 aP1), (20, sval [.one (.int .i64 aG1), .arr 36 (enf u8v aG2)]), (21, sval [.one (.int .i64 r_2), .arr 36 (enf u8v r_3)]), (22, SV.v s1), (23, SV.v s2), (24, .tuple #[.bool r_5, .int .i64 r_6]), (18, .tuple #[.bool r_5, .int .i64 r_6]), (25, .bool r_5), (26, .int .i64 r_6), (8, .bool r_5), (9, .int .i64 r_6), (27, SV.v s1), (28, SV.v s3), (10, SV.v s3), (30, .int .i64 aP1), (31, sval [.one (.int .i64 aG1), .arr 36 (enf u8v aG2)]), (32, sval [.one (.int .i64 r_8), .arr 36 (enf u8v r_9)]), (33, SV.v s3), (34, .tuple #[.bool r_10, .int .i64 r_11]), (29, .tuple #[.bool r_10, .int .i64 r_11]), (35, .bool r_10), (36, .int .i64 r_11), (11, .bool r_10), (12, .int .i64 r_11), (37, .bool r_10), (38, .bool r_5), (39, .bool (r_10 != r_5)), (40, .bool (r_10 != r_5))] [mat Ei 2 22 s3 ss3 r_7, mat Ei 2 22 s2 ss2 r_4, box b_1 35 [.one (.int .i64 aG1), .arr 36 (enf u8v aG2)]] ?_ ?_
    · refine TL.cases (t := 40) (b := (r_10 != r_5)) rfl (fun c3 => ?_) (fun c4 => ?_)
      · refine TL.skip rfl rfl (by decide) ?_
        refine TL.skip rfl rfl (by decide) ?_
        refine TL.skip rfl rfl (by decide) ?_
        refine TL.pick rfl rfl (b := true) rfl (r := .bool true) rfl ?_
        refine TL.done ?_
        exact TC.nrm () () ⟨(by rw [c3]; rfl), rfl, rfl, rfl, rfl, rfl, rfl, rfl, rfl, rfl, rfl, rfl, rfl, rfl, rfl, rfl, rfl, rfl, rfl, rfl, rfl, rfl, rfl, rfl, rfl, rfl, rfl, rfl, rfl, rfl, rfl, rfl, rfl, rfl, rfl, rfl, rfl, rfl, rfl, (by rw [c3]; rfl), trivial⟩ [0, 0, 0] rfl
      · refine TL.move rfl rfl (v := .int .i64 r_11) rfl ?_
        refine TL.move rfl rfl (v := .int .i64 r_6) rfl ?_
        refine TL.bin .i64 r_11 r_6 rfl rfl rfl rfl (v := .bool (r_11 != r_6)) rfl ?_
        refine TL.pick rfl rfl (b := false) rfl (r := .bool (r_11 != r_6)) rfl ?_
        refine TL.done ?_
        exact TC.nrm () () ⟨(by rw [c4]; rfl), rfl, rfl, rfl, rfl, rfl, rfl, rfl, rfl, rfl, rfl, rfl, rfl, rfl, rfl, rfl, rfl, rfl, rfl, rfl, rfl, rfl, rfl, rfl, rfl, rfl, rfl, rfl, rfl, rfl, rfl, rfl, rfl, rfl, rfl, rfl, rfl, rfl, rfl, (by rw [c4]; rfl), trivial⟩ [0, 0, 0] rfl
    · refine TL.done ?_
      refine TC.cond (b := ((r_10 != r_5) || (r_11 != r_6))) rfl (fun c5 => ?_) (fun c6 => ?_)
      · refine TC.seq ?_
        refine TC.region ?_
        refine TL.assign rfl rfl (v := .bool false) rfl ?_
        refine TL.done ?_
        exact TC.retF (Fin.body (fin1 (.inr rfl) rfl (.tmp rfl) [] rfl ⟨rfl, rfl⟩))
      · refine TC.skip ?_
        refine TC.seq ?_
        refine TC.seq ?_
        refine TC.region ?_
        refine TL.move rfl rfl (v := SV.v s3) rfl ?_
        refine TL.move rfl rfl (v := SV.v s1) rfl ?_
        refine TL.call (R := G.laws_toInt64SS.R) Try.call46 rfl rfl rfl (fun w hS => G.laws_toInt64SS.calls w s1 ss1 aTable1 ((RdM.old h1) w hS)) ?_
        rintro r_12 _ _ ⟨s4, ss4, rfl, rfl⟩
        refine TL.call (R := G.laws_eqInt64SS.R) Try.call41 rfl rfl rfl (fun w hS => G.laws_eqInt64SS.calls w s3 ss3 r_7 s4 ss4 r_12 ((RdM.mat 1 rfl) w hS) ((RdM.mat 0 rfl) w hS)) ?_
        rintro r_13 _ _ ⟨rfl, rfl⟩
        refine TL.not r_13 rfl rfl rfl ?_
        refine TL.done ?_
        refine TC.cond (b := (!r_13)) rfl (fun c7 => ?_) (fun c8 => ?_)
        · refine TC.seq ?_
          refine TC.region ?_
          refine TL.assign rfl rfl (v := .bool false) rfl ?_
          refine TL.done ?_
          exact TC.retF (Fin.body (fin1 (.inr rfl) rfl (.tmp rfl) [] rfl ⟨rfl, rfl⟩))
        · refine TC.skip ?_
          refine TC.seq ?_
          refine TC.region ?_
          refine TL.assign rfl rfl (v := .bool true) rfl ?_
          refine TL.done ?_
          exact TC.retF (Fin.body (fin1 (.inr rfl) rfl (.tmp rfl) [] rfl ⟨rfl, rfl⟩))

end Go.Proofs.Ytcombgcjgdkbiaa.G

/- impl.power, as a pure function. -/
set_option linter.unusedVariables false
namespace Go.Proofs.Ytcombgcjgdkbiaa.G
open Go Go.Sx Go.Proofs

def impl_power.b0 (k_1 : Int) (p1 : Int) (n_1 : Int) : Int × Int → Option (LB (Int × Int)) := fun p => match p with | (out1, x1) => (bif (decide (x1 < k_1)) then nz p1 (some (.next ((Int.tmod (w64 (out1 * n_1)) p1), (w64 (x1 + 1))))) else some (.brk (out1, x1)))

def impl_power.f (n_1 : Int) (k_1 : Int) (p1 : Int) : Option Int := (loop1 (impl_power.b0 k_1 p1 n_1) (1, 0)).bind (fun p => match p with | (out1, x1) => some out1)

def impl_power.R (r : Int) (v : Value) (L : List Asn) : Prop := v = .int .i64 r ∧ L = []

set_option maxRecDepth 100000 in
set_option maxHeartbeats 4000000 in
theorem impl_power.calls (w : World) (n_1 : Int) (k_1 : Int) (p1 : Int) :
    ∀ r, impl_power.f n_1 k_1 p1 = some r → Calls Try.prog 60 #[.int .i64 n_1, .int .i64 k_1, .int .i64 p1] w (Ret w (impl_power.R r)) := by

  refine calls_T (n := 18) (Γ := [(0, .int .i64 n_1), (1, .int .i64 k_1), (2, .int .i64 p1)]) (R := impl_power.R) Try.func60 rfl rfl (Nat.le_of_ble_eq_true rfl) ⟨rfl, rfl, rfl, trivial⟩ ?_
  unfold impl_power.f
  refine TC.seq ?_
  refine TC.region ?_
  refine TL.assign rfl rfl (v := .int .i64 0) rfl ?_
  refine TL.done ?_
  refine TC.seq ?_
  refine TC.region ?_
  refine TL.assign rfl rfl (v := .int .i64 1) rfl ?_
  refine TL.done ?_
  refine TC.seq ?_
  refine TC.seq ?_
  refine TC.region ?_
  refine TL.move rfl rfl (v := .int .i64 k_1) rfl ?_
  refine TL.move rfl rfl (v := .int .i64 0) rfl ?_
  refine TL.done ?_
  refine TC.loop1 (σ := Int × Int) (γ := Unit) (Γ' := (fun p q => match p, q with | (out1, x1), _ => [(0, .int .i64 n_1), (2, .int .i64 p1), (7, .int .i64 out1), (8, .int .i64 k_1), (9, .int .i64 x1)])) (L' := (fun p q => match p, q with | (out1, x1), _ => [])) (Γb := (fun p q => match p, q with | (out1, x1), _ => [(0, .int .i64 n_1), (2, .int .i64 p1), (7, .int .i64 out1), (8, .int .i64 k_1), (9, .int .i64 x1)])) (Lb := (fun p q => match p, q with | (out1, x1), _ => [])) ((1, 0)) (()) ⟨rfl, rfl, rfl, rfl, rfl, trivial⟩ [] rfl ?_ ?_
  · rintro ⟨out1, x1⟩ _
    refine TC.seq ?_
    refine TC.region ?_
    refine TL.bin .i64 x1 k_1 rfl rfl rfl rfl (v := .bool (decide (x1 < k_1))) rfl ?_
    refine TL.done ?_
    refine TC.seq ?_
    refine TC.cond (b := (decide (x1 < k_1))) rfl (fun c1 => ?_) (fun c2 => ?_)
    · refine TC.skip ?_
      refine TC.seq ?_
      refine TC.block (NoEx.loop1 rfl) ?_
      refine TC.region ?_
      refine TL.move rfl rfl (v := .int .i64 out1) rfl ?_
      refine TL.move rfl rfl (v := .int .i64 n_1) rfl ?_
      refine TL.bin .i64 out1 n_1 rfl rfl rfl rfl (v := .int .i64 (w64 (out1 * n_1))) rfl ?_
      refine TL.move rfl rfl (v := .int .i64 p1) rfl ?_
      refine TL.nz fun z1 => ?_
      refine TL.rem .i64 (w64 (out1 * n_1)) p1 z1 rfl rfl rfl rfl ?_
      refine TL.assign rfl rfl (v := .int .i64 (Int.tmod (w64 (out1 * n_1)) p1)) rfl ?_
      refine TL.done ?_
      refine TC.region ?_
      refine TL.bin .i64 x1 1 rfl rfl rfl rfl (v := .int .i64 (w64 (x1 + 1))) rfl ?_
      refine TL.move rfl rfl (v := .int .i64 (w64 (x1 + 1))) rfl ?_
      refine TL.done ?_
      exact TC.next1 (((Int.tmod (w64 (out1 * n_1)) p1), (w64 (x1 + 1)))) (()) ⟨rfl, rfl, rfl, rfl, rfl, trivial⟩ [] rfl
    · exact TC.brk1 ((out1, x1)) (()) ⟨rfl, rfl, rfl, rfl, rfl, trivial⟩ [] rfl
  · rintro ⟨out1, x1⟩ _
    refine TC.seq ?_
    refine TC.region ?_
    refine TL.move rfl rfl (v := .int .i64 out1) rfl ?_
    refine TL.assign rfl rfl (v := .int .i64 out1) rfl ?_
    refine TL.done ?_
    exact TC.retF (Fin.body (fin1 (.inr rfl) rfl (.tmp rfl) [] rfl ⟨rfl, rfl⟩))

end Go.Proofs.Ytcombgcjgdkbiaa.G

/- impl.inverse, as a pure function. -/
set_option linter.unusedVariables false
namespace Go.Proofs.Ytcombgcjgdkbiaa.G
open Go Go.Sx Go.Proofs

def impl_inverse.f (n_1 : Int) (p1 : Int) : Option Int := (G.impl_power.f n_1 (w64 (p1 - 2)) p1).bind (fun r_1 => some r_1)

def impl_inverse.R (r : Int) (v : Value) (L : List Asn) : Prop := v = .int .i64 r ∧ L = []

set_option maxRecDepth 100000 in
set_option maxHeartbeats 4000000 in
theorem impl_inverse.calls (w : World) (n_1 : Int) (p1 : Int) :
    ∀ r, impl_inverse.f n_1 p1 = some r → Calls Try.prog 59 #[.int .i64 n_1, .int .i64 p1] w (Ret w (impl_inverse.R r)) := by

  refine calls_T (n := 10) (Γ := [(0, .int .i64 n_1), (1, .int .i64 p1)]) (R := impl_inverse.R) Try.func59 rfl rfl (Nat.le_of_ble_eq_true rfl) ⟨rfl, rfl, trivial⟩ ?_
  unfold impl_inverse.f
  refine TC.seq ?_
  refine TC.region ?_
  refine TL.assign rfl rfl (v := .int .i64 0) rfl ?_
  refine TL.done ?_
  refine TC.seq ?_
  refine TC.region ?_
  refine TL.move rfl rfl (v := .int .i64 n_1) rfl ?_
  refine TL.move rfl rfl (v := .int .i64 p1) rfl ?_
  refine TL.bin .i64 p1 2 rfl rfl rfl rfl (v := .int .i64 (w64 (p1 - 2))) rfl ?_
  refine TL.move rfl rfl (v := .int .i64 p1) rfl ?_
  refine TL.call (R := G.impl_power.R) Try.call60 rfl rfl rfl (fun w hS => G.impl_power.calls w n_1 (w64 (p1 - 2)) p1) ?_
  rintro r_1 _ _ ⟨rfl, rfl⟩
  refine TL.assign rfl rfl (v := .int .i64 r_1) rfl ?_
  refine TL.done ?_
  exact TC.retF (Fin.body (fin1 (.inr rfl) rfl (.tmp rfl) [] rfl ⟨rfl, rfl⟩))

end Go.Proofs.Ytcombgcjgdkbiaa.G

/- spec.l01Mod, as a pure function. -/
set_option linter.unusedVariables false
namespace Go.Proofs.Ytcombgcjgdkbiaa.G
open Go Go.Sx Go.Proofs

def spec_l01Mod.f (p1 : Int) (x1 : Int) : Option Int := nz p1 (some (Int.tmod (w64 ((Int.tmod x1 p1) + p1)) p1))

def spec_l01Mod.R (r : Int) (v : Value) (L : List Asn) : Prop := v = .int .i64 r ∧ L = []

set_option maxRecDepth 100000 in
set_option maxHeartbeats 4000000 in
theorem spec_l01Mod.calls (w : World) (p1 : Int) (x1 : Int) :
    ∀ r, spec_l01Mod.f p1 x1 = some r → Calls Try.prog 112 #[.int .i64 p1, .int .i64 x1] w (Ret w (spec_l01Mod.R r)) := by

  refine calls_T (n := 12) (Γ := [(0, .int .i64 p1), (1, .int .i64 x1)]) (R := spec_l01Mod.R) Try.func112 rfl rfl (Nat.le_of_ble_eq_true rfl) ⟨rfl, rfl, trivial⟩ ?_
  unfold spec_l01Mod.f
  refine TC.seq ?_
  refine TC.region ?_
  refine TL.assign rfl rfl (v := .int .i64 0) rfl ?_
  refine TL.done ?_
  refine TC.seq ?_
  refine TC.region ?_
  refine TL.move rfl rfl (v := .int .i64 x1) rfl ?_
  refine TL.move rfl rfl (v := .int .i64 p1) rfl ?_
  refine TL.nz fun z1 => ?_
  refine TL.rem .i64 x1 p1 z1 rfl rfl rfl rfl ?_
  refine TL.move rfl rfl (v := .int .i64 p1) rfl ?_
  refine TL.bin .i64 (Int.tmod x1 p1) p1 rfl rfl rfl rfl (v := .int .i64 (w64 ((Int.tmod x1 p1) + p1))) rfl ?_
  refine TL.move rfl rfl (v := .int .i64 p1) rfl ?_
  refine TL.rem .i64 (w64 ((Int.tmod x1 p1) + p1)) p1 z1 rfl rfl rfl rfl ?_
  refine TL.assign rfl rfl (v := .int .i64 (Int.tmod (w64 ((Int.tmod x1 p1) + p1)) p1)) rfl ?_
  refine TL.done ?_
  exact TC.retF (Fin.body (fin1 (.inr rfl) rfl (.tmp rfl) [] rfl ⟨rfl, rfl⟩))

end Go.Proofs.Ytcombgcjgdkbiaa.G

/- spec.l01Inverse, as a pure function. -/
set_option linter.unusedVariables false
namespace Go.Proofs.Ytcombgcjgdkbiaa.G
open Go Go.Sx Go.Proofs

def spec_l01Inverse.b0 (p1 : Int) (x1 : Int) : Int → Option (LR Int Int) := fun k_1 => (bif (decide (k_1 < p1)) then (G.spec_l01Mod.f p1 x1).bind (fun r_1 => nz p1 ((bif ((Int.tmod (w64 (k_1 * r_1)) p1) == 1) then some (.ret (k_1)) else some (.next (w64 (k_1 + 1)))))) else some (.brk k_1))

def spec_l01Inverse.f (p1 : Int) (x1 : Int) : Option Int := (loop (spec_l01Inverse.b0 p1 x1) 1).bind (ln (fun k_1 => some 0))

def spec_l01Inverse.R (r : Int) (v : Value) (L : List Asn) : Prop := v = .int .i64 r ∧ L = []

set_option maxRecDepth 100000 in
set_option maxHeartbeats 4000000 in
theorem spec_l01Inverse.calls (w : World) (p1 : Int) (x1 : Int) :
    ∀ r, spec_l01Inverse.f p1 x1 = some r → Calls Try.prog 56 #[.int .i64 p1, .int .i64 x1] w (Ret w (spec_l01Inverse.R r)) := by

  refine calls_T (n := 20) (Γ := [(0, .int .i64 p1), (1, .int .i64 x1)]) (R := spec_l01Inverse.R) Try.func56 rfl rfl (Nat.le_of_ble_eq_true rfl) ⟨rfl, rfl, trivial⟩ ?_
  unfold spec_l01Inverse.f
  refine TC.seq ?_
  refine TC.region ?_
  refine TL.assign rfl rfl (v := .int .i64 0) rfl ?_
  refine TL.done ?_
  refine TC.seq ?_
  refine TC.seq ?_
  refine TC.region ?_
  refine TL.assign rfl rfl (v := .int .i64 1) rfl ?_
  refine TL.done ?_
  refine TC.loopK (σ := Int) (γ := Unit) (Γ' := (fun k_1 _ => [(0, .int .i64 p1), (1, .int .i64 x1), (5, .int .i64 k_1)])) (L' := (fun k_1 _ => [])) (Γb := (fun k_1 _ => [(0, .int .i64 p1), (1, .int .i64 x1), (5, .int .i64 k_1)])) (Lb := (fun k_1 _ => [])) (1) (()) ⟨rfl, rfl, rfl, trivial⟩ [] rfl ?_ ?_
  · rintro k_1 _
    refine TC.seq ?_
    refine TC.seq ?_
    refine TC.region ?_
    refine TL.move rfl rfl (v := .int .i64 k_1) rfl ?_
    refine TL.move rfl rfl (v := .int .i64 p1) rfl ?_
    refine TL.bin .i64 k_1 p1 rfl rfl rfl rfl (v := .bool (decide (k_1 < p1))) rfl ?_
    refine TL.done ?_
    refine TC.cond (b := (decide (k_1 < p1))) rfl (fun c1 => ?_) (fun c2 => ?_)
    · refine TC.skip ?_
      refine TC.seq ?_
      refine TC.block (NoEx.loop rfl NoEx.body) ?_
      refine TC.seq ?_
      refine TC.region ?_
      refine TL.move rfl rfl (v := .int .i64 k_1) rfl ?_
      refine TL.move rfl rfl (v := .int .i64 p1) rfl ?_
      refine TL.move rfl rfl (v := .int .i64 x1) rfl ?_
      refine TL.call (R := G.spec_l01Mod.R) Try.call112 rfl rfl rfl (fun w hS => G.spec_l01Mod.calls w p1 x1) ?_
      rintro r_1 _ _ ⟨rfl, rfl⟩
      refine TL.bin .i64 k_1 r_1 rfl rfl rfl rfl (v := .int .i64 (w64 (k_1 * r_1))) rfl ?_
      refine TL.move rfl rfl (v := .int .i64 p1) rfl ?_
      refine TL.nz fun z1 => ?_
      refine TL.rem .i64 (w64 (k_1 * r_1)) p1 z1 rfl rfl rfl rfl ?_
      refine TL.bin .i64 (Int.tmod (w64 (k_1 * r_1)) p1) 1 rfl rfl rfl rfl (v := .bool ((Int.tmod (w64 (k_1 * r_1)) p1) == 1)) rfl ?_
      refine TL.done ?_
      refine TC.cond (b := ((Int.tmod (w64 (k_1 * r_1)) p1) == 1)) rfl (fun c3 => ?_) (fun c4 => ?_)
      · refine TC.seq ?_
        refine TC.region ?_
        refine TL.move rfl rfl (v := .int .i64 k_1) rfl ?_
        refine TL.assign rfl rfl (v := .int .i64 k_1) rfl ?_
        refine TL.done ?_
        exact TC.retF (Fin.loop Far.ret (Fin.body (fin1 (.inr rfl) rfl (.tmp rfl) [] rfl ⟨rfl, rfl⟩)))
      · refine TC.skip ?_
        refine TC.region ?_
        refine TL.move rfl rfl (v := .int .i64 k_1) rfl ?_
        refine TL.bin .i64 k_1 1 rfl rfl rfl rfl (v := .int .i64 (w64 (k_1 + 1))) rfl ?_
        refine TL.assign rfl rfl (v := .int .i64 (w64 (k_1 + 1))) rfl ?_
        refine TL.done ?_
        exact TC.next ((w64 (k_1 + 1))) (()) ⟨rfl, rfl, rfl, trivial⟩ [] rfl
    · exact TC.brk (k_1) (()) ⟨rfl, rfl, rfl, trivial⟩ [] rfl
  · rintro k_1 _
    refine TC.seq ?_
    refine TC.region ?_
    refine TL.assign rfl rfl (v := .int .i64 0) rfl ?_
    refine TL.done ?_
    exact TC.retF (Fin.body (fin1 (.inr rfl) rfl (.tmp rfl) [] rfl ⟨rfl, rfl⟩))

end Go.Proofs.Ytcombgcjgdkbiaa.G
