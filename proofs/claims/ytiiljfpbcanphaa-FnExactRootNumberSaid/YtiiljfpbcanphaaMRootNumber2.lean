/- Functions of the program, as pure functions. -/
import Derived.Test.YtiiljfpbcanphaaMRootNumber1
import Derived.Test.YtiiljfpbcanphaaProg
import Derived.RangeFuncBox
import Derived.RangeFuncLeaves
import Derived.Shelf.Abstract
import Derived.WalkKit
import Derived.OwnWalkIn
import Derived.TacticsInMore
import Derived.LoopNIn
import Derived.LoopIn
/- impl.isPrime, as a pure function. -/
set_option linter.unusedVariables false
namespace Go.Proofs.Ytiiljfpbcanphaa.G
open Go Go.Sx Go.Proofs

def impl_isPrime.f (p1 : Int) : Option Bool := (G.slices_Contains_int64_int64.f ([2, 3, 5, 7, 11, 13] : List Int) p1).bind (fun r_1 => some r_1)

def impl_isPrime.R (r : Bool) (v : Value) (L : List Asn) : Prop := v = .bool r ∧ L = []

set_option maxRecDepth 100000 in
set_option maxHeartbeats 4000000 in
theorem impl_isPrime.calls (w : World) (p1 : Int) :
    ∀ r, impl_isPrime.f p1 = some r → Calls Try.prog 85 #[.int .i64 p1] w (Ret w (impl_isPrime.R r)) := by

  refine calls_T (n := 6) (Γ := [(0, .int .i64 p1)]) (R := impl_isPrime.R) Try.func85 rfl rfl (Nat.le_of_ble_eq_true rfl) ⟨rfl, trivial⟩ ?_
  unfold impl_isPrime.f
  refine TC.seq ?_
  refine TC.region ?_
  refine TL.assign rfl rfl (v := .bool false) rfl ?_
  refine TL.done ?_
  refine TC.seq ?_
  refine TC.region ?_
  refine TL.blit Ei ([2, 3, 5, 7, 11, 13] : List Int) Try.underlying22 Try.sizeOf2 Try.zeroValue2 rfl rfl rfl [(0, .int .i64 2), (1, .int .i64 3), (2, .int .i64 5), (3, .int .i64 7), (4, .int .i64 11), (5, .int .i64 13)] rfl ⟨rfl, rfl, rfl, rfl, rfl, rfl, rfl, rfl, rfl, rfl, rfl, rfl, trivial⟩ rfl rfl fun s1 => ?_
  refine TL.move rfl rfl (v := .int .i64 p1) rfl ?_
  refine TL.call (R := G.slices_Contains_int64_int64.R) Try.call105 rfl rfl rfl (fun w hS => G.slices_Contains_int64_int64.calls w s1 ([2, 3, 5, 7, 11, 13] : List Int) p1 ((Rd.row 0 rfl) w hS)) ?_
  rintro r_1 _ _ ⟨rfl, rfl⟩
  refine TL.assign rfl rfl (v := .bool r_1) rfl ?_
  refine TL.done ?_
  exact TC.retF (Fin.body (fin1 (.inr rfl) rfl (.tmp rfl) [] rfl ⟨rfl, rfl⟩))

end Go.Proofs.Ytiiljfpbcanphaa.G

/- slices.IndexFunc[[]int64,int64], as a pure function. -/
set_option linter.unusedVariables false
namespace Go.Proofs.Ytiiljfpbcanphaa.G
open Go Go.Sx Go.Proofs

def slices_IndexFunc_int64_int64.b0 (s1 : List Int) (f2 : Int → Option Bool) : Int → Option (LR Int Int) := fun x1 => (bif (decide (x1 < (s1.length : Int))) then chk x1 s1.length ((f2 (gt s1 x1)).bind (fun r_1 => (bif r_1 then some (.ret (x1)) else some (.next (w64 (x1 + 1)))))) else some (.brk x1))

def slices_IndexFunc_int64_int64.f (s1 : List Int) (f2 : Int → Option Bool) : Option Int := (loop (slices_IndexFunc_int64_int64.b0 s1 f2) 0).bind (ln (fun x1 => some (-1)))

def slices_IndexFunc_int64_int64.R (r : Int) (v : Value) (L : List Asn) : Prop := v = .int .i64 r ∧ L = []

set_option maxRecDepth 100000 in
set_option maxHeartbeats 4000000 in
theorem slices_IndexFunc_int64_int64.calls (w : World) (s2 : SV) (s1 : List Int) (f1 : Nat) (fst1 : List Value) (cap1 : List Value) (f2 : Int → Option Bool) (h1 : Reads Ei (hp w) s2 s1) (hc1 : ∀ (args_ : Array Value) (w_ : World), (callFunc f1 args_).run Try.prog w_ = .ok (.enter f1 args_) w_) (hf1 : ∀ w_, Hle (hp w) (hp w_) → ∀ (x0_ : Int), ∀ r_, f2 x0_ = some r_ → Calls Try.prog f1 (fst1 ++ ([.int .i64 x0_] : List Value) ++ cap1).toArray w_ (Ret w_ (fun (v_ : Value) (L_ : List Asn) => v_ = .bool r_ ∧ L_ = []))) :
    ∀ r, slices_IndexFunc_int64_int64.f s1 f2 = some r → Calls Try.prog 150 #[SV.v s2, .func (.func f1) fst1.toArray cap1.toArray] w (Ret w (slices_IndexFunc_int64_int64.R r)) := by

  refine calls_T (n := 19) (Γ := [(0, SV.v s2), (1, .func (.func f1) fst1.toArray cap1.toArray)]) (R := slices_IndexFunc_int64_int64.R) Try.func150 rfl rfl (Nat.le_of_ble_eq_true rfl) ⟨rfl, rfl, trivial⟩ ?_
  unfold slices_IndexFunc_int64_int64.f
  refine TC.seq ?_
  refine TC.region ?_
  refine TL.assign rfl rfl (v := .int .i64 0) rfl ?_
  refine TL.done ?_
  refine TC.seq ?_
  refine TC.seq ?_
  refine TC.region ?_
  refine TL.move rfl rfl (v := SV.v s2) rfl ?_
  refine TL.len (Rd.old h1) Try.underlying22 rfl rfl rfl ?_
  refine TL.move rfl rfl (v := .int .i64 0) rfl ?_
  refine TL.done ?_
  refine TC.loopK (σ := Int) (γ := Unit) (Γ' := (fun x1 _ => [(0, SV.v s2), (1, .func (.func f1) fst1.toArray cap1.toArray), (7, .int .i64 (s1.length : Int)), (8, .int .i64 x1)])) (L' := (fun x1 _ => [])) (Γb := (fun x1 _ => [(0, SV.v s2), (1, .func (.func f1) fst1.toArray cap1.toArray), (7, .int .i64 (s1.length : Int)), (8, .int .i64 x1)])) (Lb := (fun x1 _ => [])) (0) (()) ⟨rfl, rfl, rfl, rfl, trivial⟩ [] rfl ?_ ?_
  · rintro x1 _
    refine TC.seq ?_
    refine TC.region ?_
    refine TL.bin .i64 x1 (s1.length : Int) rfl rfl rfl rfl (v := .bool (decide (x1 < (s1.length : Int)))) rfl ?_
    refine TL.done ?_
    refine TC.seq ?_
    refine TC.cond (b := (decide (x1 < (s1.length : Int)))) rfl (fun c1 => ?_) (fun c2 => ?_)
    · refine TC.skip ?_
      refine TC.seq ?_
      refine TC.block (NoEx.loop rfl NoEx.body) ?_
      refine TC.seq ?_
      refine TC.region ?_
      refine TL.move rfl rfl (v := .int .i64 x1) rfl ?_
      refine TL.assign rfl rfl (v := .int .i64 x1) rfl ?_
      refine TL.done ?_
      refine TC.seq ?_
      refine TC.region ?_
      refine TL.move rfl rfl (v := .func (.func f1) fst1.toArray cap1.toArray) rfl ?_
      refine TL.move rfl rfl (v := SV.v s2) rfl ?_
      refine TL.move rfl rfl (v := .int .i64 x1) rfl ?_
      refine TL.chk fun h2 => ?_
      refine TL.ixs x1 x1.toNat (Rd.old h1) h2 Try.underlying22 Try.sizeOf2 rfl rfl rfl rfl (by omega) ?_
      refine TL.loadE (Rd.old h1) Try.isAgg2 x1.toNat 0 (gt_spec h2) (v := .int .i64 (gt s1 x1)) rfl (by simp only [show Ei.sz = 1 from rfl] <;> omega) rfl rfl rfl ?_
      refine TL.callv (R := (fun r_ => (fun (v_ : Value) (L_ : List Asn) => v_ = .bool r_ ∧ L_ = []))) (vs := [.int .i64 (gt s1 x1)]) hc1 rfl rfl rfl rfl (fun w hS => hf1 w hS.iw (gt s1 x1)) ?_
      rintro r_1 _ _ ⟨rfl, rfl⟩
      refine TL.done ?_
      refine TC.cond (b := r_1) rfl (fun c3 => ?_) (fun c4 => ?_)
      · refine TC.seq ?_
        refine TC.region ?_
        refine TL.move rfl rfl (v := .int .i64 x1) rfl ?_
        refine TL.assign rfl rfl (v := .int .i64 x1) rfl ?_
        refine TL.done ?_
        exact TC.retF (Fin.loop Far.ret (Fin.body (fin1 (.inr rfl) rfl (.tmp rfl) [] rfl ⟨rfl, rfl⟩)))
      · refine TC.skip ?_
        refine TC.region ?_
        refine TL.bin .i64 x1 1 rfl rfl rfl rfl (v := .int .i64 (w64 (x1 + 1))) rfl ?_
        refine TL.move rfl rfl (v := .int .i64 (w64 (x1 + 1))) rfl ?_
        refine TL.done ?_
        exact TC.next ((w64 (x1 + 1))) (()) ⟨rfl, rfl, rfl, rfl, trivial⟩ [] rfl
    · exact TC.brk (x1) (()) ⟨rfl, rfl, rfl, rfl, trivial⟩ [] rfl
  · rintro x1 _
    refine TC.seq ?_
    refine TC.region ?_
    refine TL.assign rfl rfl (v := .int .i64 (-1)) rfl ?_
    refine TL.done ?_
    exact TC.retF (Fin.body (fin1 (.inr rfl) rfl (.tmp rfl) [] rfl ⟨rfl, rfl⟩))

end Go.Proofs.Ytiiljfpbcanphaa.G

/- slices.ContainsFunc[[]int64,int64], as a pure function. -/
set_option linter.unusedVariables false
namespace Go.Proofs.Ytiiljfpbcanphaa.G
open Go Go.Sx Go.Proofs

def slices_ContainsFunc_int64_int64.f (s1 : List Int) (f2 : Int → Option Bool) : Option Bool := (G.slices_IndexFunc_int64_int64.f s1 f2).bind (fun r_1 => some (decide (r_1 ≥ 0)))

def slices_ContainsFunc_int64_int64.R (r : Bool) (v : Value) (L : List Asn) : Prop := v = .bool r ∧ L = []

set_option maxRecDepth 100000 in
set_option maxHeartbeats 4000000 in
theorem slices_ContainsFunc_int64_int64.calls (w : World) (s2 : SV) (s1 : List Int) (f1 : Nat) (fst1 : List Value) (cap1 : List Value) (f2 : Int → Option Bool) (h1 : Reads Ei (hp w) s2 s1) (hc1 : ∀ (args_ : Array Value) (w_ : World), (callFunc f1 args_).run Try.prog w_ = .ok (.enter f1 args_) w_) (hf1 : ∀ w_, Hle (hp w) (hp w_) → ∀ (x0_ : Int), ∀ r_, f2 x0_ = some r_ → Calls Try.prog f1 (fst1 ++ ([.int .i64 x0_] : List Value) ++ cap1).toArray w_ (Ret w_ (fun (v_ : Value) (L_ : List Asn) => v_ = .bool r_ ∧ L_ = []))) :
    ∀ r, slices_ContainsFunc_int64_int64.f s1 f2 = some r → Calls Try.prog 103 #[SV.v s2, .func (.func f1) fst1.toArray cap1.toArray] w (Ret w (slices_ContainsFunc_int64_int64.R r)) := by

  refine calls_T (n := 9) (Γ := [(0, SV.v s2), (1, .func (.func f1) fst1.toArray cap1.toArray)]) (R := slices_ContainsFunc_int64_int64.R) Try.func103 rfl rfl (Nat.le_of_ble_eq_true rfl) ⟨rfl, rfl, trivial⟩ ?_
  unfold slices_ContainsFunc_int64_int64.f
  refine TC.seq ?_
  refine TC.region ?_
  refine TL.assign rfl rfl (v := .bool false) rfl ?_
  refine TL.done ?_
  refine TC.seq ?_
  refine TC.region ?_
  refine TL.move rfl rfl (v := SV.v s2) rfl ?_
  refine TL.move rfl rfl (v := .func (.func f1) fst1.toArray cap1.toArray) rfl ?_
  refine TL.call (R := G.slices_IndexFunc_int64_int64.R) Try.call150 rfl rfl rfl (fun w hS => G.slices_IndexFunc_int64_int64.calls w s2 s1 f1 fst1 cap1 f2 ((Rd.old h1) w hS) hc1 (fun w_ hle_ => hf1 w_ (hS.iw.trans hle_))) ?_
  rintro r_1 _ _ ⟨rfl, rfl⟩
  refine TL.bin .i64 r_1 0 rfl rfl rfl rfl (v := .bool (decide (r_1 ≥ 0))) rfl ?_
  refine TL.assign rfl rfl (v := .bool (decide (r_1 ≥ 0))) rfl ?_
  refine TL.done ?_
  exact TC.retF (Fin.body (fin1 (.inr rfl) rfl (.tmp rfl) [] rfl ⟨rfl, rfl⟩))

end Go.Proofs.Ytiiljfpbcanphaa.G

/- impl.polynomialOk$1, as a pure function. -/
set_option linter.unusedVariables false
namespace Go.Proofs.Ytiiljfpbcanphaa.G
open Go Go.Sx Go.Proofs

def impl_polynomialOk_1.f (c1 : Int) (c2 : Int) : Option Bool := (G.impl_in.f c1 0 (w64 (c2 - 1))).bind (fun r_1 => some (!r_1))

def impl_polynomialOk_1.R (r : Bool) (v : Value) (L : List Asn) : Prop := v = .bool r ∧ L = []

set_option maxRecDepth 100000 in
set_option maxHeartbeats 4000000 in
theorem impl_polynomialOk_1.calls (w : World) (c1 : Int) (b_1 : Nat) (c2 : Int) (h1 : At (hp w) b_1 [.one (.int .i64 c2)]) :
    ∀ r, impl_polynomialOk_1.f c1 c2 = some r → Calls Try.prog 138 #[.int .i64 c1, bp b_1 0] w (Ret w (impl_polynomialOk_1.R r)) := by

  refine calls_T (n := 9) (Γ := [(0, .int .i64 c1), (1, bp b_1 0)]) (R := impl_polynomialOk_1.R) Try.func138 rfl rfl (Nat.le_of_ble_eq_true rfl) ⟨rfl, rfl, trivial⟩ ?_
  unfold impl_polynomialOk_1.f
  refine TC.seq ?_
  refine TC.region ?_
  refine TL.assign rfl rfl (v := .bool false) rfl ?_
  refine TL.done ?_
  refine TC.seq ?_
  refine TC.region ?_
  refine TL.move rfl rfl (v := .int .i64 c1) rfl ?_
  refine TL.load1 0 (Src.at h1) Try.isAgg2 rfl rfl rfl rfl rfl ?_
  refine TL.bin .i64 c2 1 rfl rfl rfl rfl (v := .int .i64 (w64 (c2 - 1))) rfl ?_
  refine TL.call (R := G.impl_in.R) Try.call72 rfl rfl rfl (fun w hS => G.impl_in.calls w c1 0 (w64 (c2 - 1))) ?_
  rintro r_1 _ _ ⟨rfl, rfl⟩
  refine TL.not r_1 rfl rfl rfl ?_
  refine TL.assign rfl rfl (v := .bool (!r_1)) rfl ?_
  refine TL.done ?_
  exact TC.retF (Fin.body (fin1 (.inr rfl) rfl (.tmp rfl) [] rfl ⟨rfl, rfl⟩))

end Go.Proofs.Ytiiljfpbcanphaa.G

/- impl.polynomialOk, as a pure function. -/
set_option linter.unusedVariables false
namespace Go.Proofs.Ytiiljfpbcanphaa.G
open Go Go.Sx Go.Proofs

def impl_polynomialOk.f (p1 : Int) (list_1 : List Int) : Option Bool := (G.impl_isPrime.f p1).bind (fun r_1 => (bif r_1 then (G.impl_in.f (list_1.length : Int) 1 6).bind (fun r_2 => some r_2) else some false).bind (fun b_2 => (bif b_2 then (G.slices_ContainsFunc_int64_int64.f list_1 (fun x0_ => G.impl_polynomialOk_1.f x0_ p1)).bind (fun r_3 => some (!r_3)) else some false).bind (fun b_3 => some b_3)))

def impl_polynomialOk.R (r : Bool) (v : Value) (L : List Asn) : Prop := v = .bool r ∧ L = []

set_option maxRecDepth 100000 in
set_option maxHeartbeats 4000000 in
theorem impl_polynomialOk.calls (w : World) (p1 : Int) (s1 : SV) (list_1 : List Int) (h1 : Reads Ei (hp w) s1 list_1) :
    ∀ r, impl_polynomialOk.f p1 list_1 = some r → Calls Try.prog 71 #[.int .i64 p1, SV.v s1] w (Ret w (impl_polynomialOk.R r)) := by

  refine calls_T (n := 18) (Γ := [(0, .int .i64 p1), (1, SV.v s1)]) (R := impl_polynomialOk.R) Try.func71 rfl rfl (Nat.le_of_ble_eq_true rfl) ⟨rfl, rfl, trivial⟩ ?_
  unfold impl_polynomialOk.f
  refine TC.seq ?_
  refine TC.region ?_
  refine TL.box [.one (.int .i64 p1)] rfl rfl rfl rfl fun b_1 => ?_
  refine TL.assign rfl rfl (v := .bool false) rfl ?_
  refine TL.done ?_
  refine TC.seq ?_
  refine TC.region ?_
  refine TL.load1 0 (Src.box 0 rfl) Try.isAgg2 rfl rfl rfl rfl rfl ?_
  refine TL.call (R := G.impl_isPrime.R) Try.call85 rfl rfl rfl (fun w hS => G.impl_isPrime.calls w p1) ?_
  rintro r_1 _ _ ⟨rfl, rfl⟩
  refine TL.move rfl rfl (v := .bool r_1) rfl ?_
  refine TL.cutJ (σ := Bool) (γ := Unit) (Γ' := fun b_2 _ => [(11, .bool b_2), (0, .int .i64 p1), (1, SV.v s1), (2, bp b_1 0), (4, .bool false), (5, .int .i64 p1), (6, .bool r_1), (7, .bool r_1)]) (L' := fun _ _ => [box b_1 2 [.one (.int .i64 p1)]]) 4 ?_ ?_
  · refine TL.ifb (t := 7) (b := r_1) rfl (fun c1 => ?_) (fun c2 => ?_)
    · refine TL.move rfl rfl (v := SV.v s1) rfl ?_
      refine TL.len (Rd.old h1) Try.underlying22 rfl rfl rfl ?_
      refine TL.call (R := G.impl_in.R) Try.call72 rfl rfl rfl (fun w hS => G.impl_in.calls w (list_1.length : Int) 1 6) ?_
      rintro r_2 _ _ ⟨rfl, rfl⟩
      refine TL.pick rfl rfl (b := true) rfl (r := .bool r_2) rfl ?_
      refine TL.done ?_
      exact TC.nrm (r_2) () ⟨rfl, rfl, rfl, rfl, rfl, rfl, rfl, (by rw [c1]; rfl), trivial⟩ [0] (by kernel_rfl)
    · refine TL.skip rfl rfl (by decide) ?_
      refine TL.skip rfl rfl (by decide) ?_
      refine TL.skip rfl rfl (by decide) ?_
      refine TL.pick rfl rfl (b := false) rfl (r := .bool false) rfl ?_
      refine TL.done ?_
      exact TC.nrm (false) () ⟨rfl, rfl, rfl, rfl, rfl, rfl, rfl, (by rw [c2]; rfl), trivial⟩ [0] (by kernel_rfl)
  · rintro b_2 _
    refine TL.move rfl rfl (v := .bool b_2) rfl ?_
    refine TL.cutJ (σ := Bool) (γ := Unit) (Γ' := fun b_3 _ => [(17, .bool b_3), (0, .int .i64 p1), (1, SV.v s1), (2, bp b_1 0), (4, .bool false), (5, .int .i64 p1), (6, .bool r_1), (7, .bool r_1), (11, .bool b_2), (12, .bool b_2)]) (L' := fun _ _ => [box b_1 2 [.one (.int .i64 p1)]]) 5 ?_ ?_
    · refine TL.ifb (t := 12) (b := b_2) rfl (fun c3 => ?_) (fun c4 => ?_)
      · refine TL.move rfl rfl (v := SV.v s1) rfl ?_
        refine TL.makeFunc rfl rfl (us := []) (vs := [bp b_1 0]) rfl rfl ?_
        refine TL.call (R := G.slices_ContainsFunc_int64_int64.R) Try.call103 rfl rfl rfl (fun w hS => G.slices_ContainsFunc_int64_int64.calls w s1 list_1 138 [] [bp b_1 0] (fun x0_ => G.impl_polynomialOk_1.f x0_ p1) ((Rd.old h1) w hS) Try.call138 (fun w_ hle_ x0_ r_ hr_ => G.impl_polynomialOk_1.calls w_ x0_ b_1 p1 (((Src.box 0 rfl) w hS).mono hle_) r_ hr_)) ?_
        rintro r_3 _ _ ⟨rfl, rfl⟩
        refine TL.not r_3 rfl rfl rfl ?_
        refine TL.pick rfl rfl (b := true) rfl (r := .bool (!r_3)) rfl ?_
        refine TL.done ?_
        exact TC.nrm ((!r_3)) () ⟨rfl, rfl, rfl, rfl, rfl, rfl, rfl, rfl, rfl, (by rw [c3]; rfl), trivial⟩ [0] (by kernel_rfl)
      · refine TL.skip rfl rfl (by decide) ?_
        refine TL.skip rfl rfl (by decide) ?_
        refine TL.skip rfl rfl (by decide) ?_
        refine TL.skip rfl rfl (by decide) ?_
        refine TL.pick rfl rfl (b := false) rfl (r := .bool false) rfl ?_
        refine TL.done ?_
        exact TC.nrm (false) () ⟨rfl, rfl, rfl, rfl, rfl, rfl, rfl, rfl, rfl, (by rw [c4]; rfl), trivial⟩ [0] (by kernel_rfl)
    · rintro b_3 _
      refine TL.assign rfl rfl (v := .bool b_3) rfl ?_
      refine TL.done ?_
      exact TC.retF (Fin.body (fin1 (.inr rfl) rfl (.tmp rfl) [] rfl ⟨rfl, rfl⟩))

end Go.Proofs.Ytiiljfpbcanphaa.G

/- slices.Clone[[]int64,int64], as a pure function. -/
set_option linter.unusedVariables false
namespace Go.Proofs.Ytiiljfpbcanphaa.G
open Go Go.Sx Go.Proofs

def slices_Clone_int64_int64.f (s1 : List Int) : Option (List Int) := small (([] : List Int).length + s1.length) (some (([] : List Int) ++ s1))

def slices_Clone_int64_int64.R (r : List Int) (v : Value) (L : List Asn) : Prop := ∃ (s0 : SV), v = SV.v s0 ∧ L = [row Ei 2 s0 r]

set_option maxRecDepth 100000 in
set_option maxHeartbeats 4000000 in
theorem slices_Clone_int64_int64.calls (w : World) (s2 : SV) (s1 : List Int) (h1 : Reads Ei (hp w) s2 s1) :
    ∀ r, slices_Clone_int64_int64.f s1 = some r → Calls Try.prog 139 #[SV.v s2] w (Ret w (slices_Clone_int64_int64.R r)) := by

  refine calls_T (n := 8) (Γ := [(0, SV.v s2)]) (R := slices_Clone_int64_int64.R) Try.func139 rfl rfl (Nat.le_of_ble_eq_true rfl) ⟨rfl, trivial⟩ ?_
  unfold slices_Clone_int64_int64.f
  refine TC.seq ?_
  refine TC.region ?_
  refine TL.assign rfl rfl (v := SV.v ⟨none, 0, 0⟩) rfl ?_
  refine TL.done ?_
  refine TC.seq ?_
  refine TC.seq ?_
  refine TC.region ?_
  refine TL.move rfl rfl (v := SV.v s2) rfl ?_
  refine TL.isNil s2 Try.underlying22 rfl rfl rfl rfl ?_
  refine TL.done ?_
  refine TC.condN (b := s2.a.isNone) rfl (fun c1 => ?_) (fun c2 => ?_)
  · have e_ := h1.isnil c1
    refine TC.as (m' := some ([] : List Int)) (by rw [e_]; rfl) ?_
    refine TC.seq ?_
    refine TC.region ?_
    refine TL.assign rfl rfl (v := SV.v ⟨none, 0, 0⟩) rfl ?_
    refine TL.done ?_
    refine TC.nilrow Ei 2 ?_
    exact TC.retF (Fin.body (fin1 (.inr rfl) rfl (.tmp rfl) [0] rfl ⟨⟨none, 0, 0⟩, rfl, rfl⟩))
  · refine TC.skip ?_
    refine TC.seq ?_
    refine TC.region ?_
    refine TL.bslice0 Ei Try.underlying22 Try.sizeOf2 rfl rfl fun s3 => ?_
    refine TL.move rfl rfl (v := SV.v s2) rfl ?_
    refine TL.small fun h2 => ?_
    refine TL.append 0 rfl (Rd.old h1) Try.underlying22 (info_of Try.type2) (zv := (Try.t2.zero.getD (.bool false))) rfl rfl rfl (by decide) h2 rfl rfl rfl rfl fun s4 => ?_
    refine TL.assign rfl rfl (v := SV.v s4) rfl ?_
    refine TL.done ?_
    exact TC.retF (Fin.body (fin1 (.inr rfl) rfl (.tmp rfl) [0] rfl ⟨s4, rfl, rfl⟩))

end Go.Proofs.Ytiiljfpbcanphaa.G

/- The number of a list of coefficients at a number, from behind: a range over slices.Backward, told by hand. -/
set_option linter.unusedVariables false
namespace Go.Proofs.Ytiiljfpbcanphaa.G
open Go Go.Sx Go.Proofs Go.RowKit Go.Shelf

attribute [local go_sem] Oper.semAt_some

def upto {α : Type} (f : Nat → α) (k : Nat) : List α := (List.range k).map f
theorem upto_succ {α : Type} (f : Nat → α) (k : Nat) : upto f (k + 1) = upto f k ++ [f k] := by simp [upto, List.range_succ]
theorem upto_length {α : Type} (f : Nat → α) (k : Nat) : (upto f k).length = k := by simp [upto]
/-- What comes in round k: the place and the number there. -/
def bk (zs : List Int) (k : Nat) : Int × Int := ((zs.length : Int) - 1 - k, zs[zs.length - 1 - k]?.getD 0)

/-- What a round keeps: all that lay below n₀, and the slice's own box. -/
def Kb (n₀ Bs : Nat) (A B : World) : Prop := Below n₀ A B ∧ B.heap[Bs]? = A.heap[Bs]?
theorem Kb.trans {n₀ Bs : Nat} {A B C : World} (h : Kb n₀ Bs A B) (k : Kb n₀ Bs B C) : Kb n₀ Bs A C := ⟨h.1.trans k.1, k.2.trans h.2⟩

set_option maxRecDepth 100000 in
set_option maxHeartbeats 4000000 in
theorem back1_in (F : Fence) (n : Nat) (h190 : F.fn 190) (hro : F.round = none) (hn : 1 ≤ n) (l Bs n₀ b off cap : Nat) (zs : List Int) (hreach : zs.length ≤ 9223372036854775807) (hb : b < n₀) (J Jx : List (Int × Int) → World → Prop)
    (hY : ∀ pre x W, J pre W → pre.length < zs.length → YieldAt F (n - 1) Try.prog l #[.int .i64 x.1, .int .i64 x.2] W fun e W' =>
      (e = .returned (.bool true) ∧ J (pre ++ [x]) W' ∧ Kb n₀ Bs W W') ∨ (e = .returned (.bool false) ∧ Jx (pre ++ [x]) W'))
    (W : World) (hBs : W.cell? ⟨Bs, 0, none⟩ = some (.slice (some ⟨b, off, none⟩) zs.length cap)) (hc : ∀ j, j < zs.length → W.cell? ⟨b, off + j, none⟩ = some (.int .i64 (zs[j]?.getD 0))) (h0 : J [] W) :
    CallsIn F n Try.prog 190 #[.func (.yield l) #[] #[], .pointer (some ⟨Bs, 0, none⟩)] W fun e W' => (∃ v, e = .returned v) ∧
      ((∃ ys, ys = upto (bk zs) zs.length ∧ J ys W') ∨ (∃ pre, (∃ k, k ≤ zs.length ∧ pre = upto (bk zs) k) ∧ Jx pre W')) := by
  refine callsIn_of_wp Try.func190 rfl h190 ?_ hro
  simp only [Try.ntmps190, List.size_toArray, List.length_cons, List.length_nil, Nat.reduceAdd, Nat.reduceSub, Array.replicate_succ, Array.replicate_zero, List.push_toArray, List.append_toArray, List.nil_append, List.cons_append]
  gi_wp2
  gi_loopw [3] (fun i wr => ∃ k : Nat, k ≤ zs.length ∧ i = .int .i64 ((zs.length : Int) - 1 - k) ∧ J (upto (bk zs) k) wr ∧ Kb n₀ Bs W wr)
    (fun i _ => (intOf i + 1).toNat)
  case atStart => exact ⟨0, Nat.zero_le _, by simp, h0, Below.refl _ _, rfl⟩
  case round =>
    obtain ⟨k, hk, rfl, hJs, hnx, hnb⟩ := hrel
    have hBx : wr.cell? ⟨Bs, 0, none⟩ = some (.slice (some ⟨b, off, none⟩) zs.length cap) := (World.cell?_of_block hnb).trans hBs
    by_cases hlt : k < zs.length
    · have hcx : wr.cell? ⟨b, off + (zs.length - 1 - k), none⟩ = some (.int .i64 (zs[zs.length - 1 - k]?.getD 0)) := (hnx.cell (p := ⟨b, off + (zs.length - 1 - k), none⟩) hb).trans (hc _ (by omega))
      obtain ⟨fn, tmps, assign, body, hy, hR⟩ := hY _ (bk zs k) wr hJs (by rw [upto_length]; exact hlt)
      obtain ⟨j, hj⟩ : ∃ j : Nat, zs.length - 1 - k = j := ⟨_, rfl⟩
      have hi : (zs.length : Int) - 1 - k = (j : Int) := by omega
      have hjl : j < zs.length := by omega
      unfold bk at hy
      rw [hj] at hcx hy
      rw [hi] at hy ⊢
      dsimp only at hy
      obtain ⟨v, hv⟩ : ∃ v, zs[j]?.getD 0 = v := ⟨_, rfl⟩
      rw [hv] at hcx hy
      gi_wp2
      refine hR.mono ?_
      rintro e W3 (⟨rfl, hJ3, hk3⟩ | ⟨rfl, hJx3⟩)
      · gi_wp2
        go_roundw
        case rel => exact ⟨k + 1, by omega, by simp; omega, by rw [upto_succ]; exact hJ3, hnx.trans hk3.1, hk3.2.trans hnb⟩
        case measure => simp [intOf]
      · gi_wp2
        refine bodyPost_ret (results_none rfl _ _ _) rfl ?_
        exact ⟨⟨_, rfl⟩, .inr ⟨_, ⟨k + 1, by omega, (upto_succ _ _).symm⟩, hJx3⟩⟩
    · obtain rfl : k = zs.length := by omega
      have hi : (zs.length : Int) - 1 - (zs.length : Int) = -1 := by omega
      rw [hi]
      gi_wp2
      go_end0
      exact ⟨⟨_, rfl⟩, .inl ⟨_, rfl, hJs⟩⟩

set_option maxRecDepth 100000 in
set_option maxHeartbeats 4000000 in
/-- .. where there is none: no round. -/
theorem back0_in (F : Fence) (n : Nat) (h190 : F.fn 190) (hro : F.round = none) (l Bs : Nat) (J : List (Int × Int) → World → Prop) (W : World) (a : Option Addr) (cap : Nat) (hBs : W.cell? ⟨Bs, 0, none⟩ = some (.slice a 0 cap)) (h0 : J [] W) :
    CallsIn F n Try.prog 190 #[.func (.yield l) #[] #[], .pointer (some ⟨Bs, 0, none⟩)] W fun e W' => (∃ v, e = .returned v) ∧ J [] W' := by
  refine callsIn_of_wp Try.func190 rfl h190 ?_ hro
  simp only [Try.ntmps190, List.size_toArray, List.length_cons, List.length_nil, Nat.reduceAdd, Nat.reduceSub, Array.replicate_succ, Array.replicate_zero, List.push_toArray, List.append_toArray, List.nil_append, List.cons_append]
  gi_wp2
  gi_loopw [3] (fun i wr => i = .int .i64 (-1) ∧ J [] wr) (fun _ _ => 0)
  case atStart => exact ⟨by simp, h0⟩
  case round =>
    obtain ⟨rfl, hJs⟩ := hrel
    gi_wp2
    go_end0
    exact ⟨⟨_, rfl⟩, hJs⟩

theorem bk_all (zs : List Int) : (upto (bk zs) zs.length).map (·.2) = zs.reverse := by
  apply List.ext_getElem?
  intro i
  by_cases h : i < zs.length
  · have h2 : zs.length - 1 - i < zs.length := by omega
    simp [upto, bk, h, h2]
  · simp [upto, h]

theorem back_stops (F : Fence) (n : Nat) (h190 : F.fn 190) (hro : F.round = none) (hn : 1 ≤ n) (Bs : Nat) (w0 w : World) (s : SV) (zs : List Int) (hR : Reads Ei (hp w0) s zs) (hB : Below w0.heap.size w0 w) (hBs : Bs < w.heap.size) (hc : w.cell? ⟨Bs, 0, none⟩ = some s.v) :
    SeqStopsK F n Try.prog 190 #[.pointer (some ⟨Bs, 0, none⟩)] (fun x : Int × Int => #[Value.int .i64 x.1, Value.int .i64 x.2]) (Kb w0.heap.size Bs) (fun ys => ys = upto (bk zs) zs.length) (fun _ => True) zs.length w := fun l J Jx W hW _ _ hY h0 => by
  have hc' := (hW.cell (p := ⟨Bs, 0, none⟩) hBs).trans hc
  obtain ⟨r0, r1, r2, r3⟩ := hR
  obtain ⟨sa, sn, sc⟩ := s
  simp only at r0 r1 r2 r3
  subst r0
  rcases r3 with rfl | ⟨b, o, cs, T, fr, rfl, hb, hcs⟩
  · exact (back0_in F n h190 hro l Bs J W sa sc hc' h0).mono fun e W' ⟨he, hj⟩ => ⟨he, .inl ⟨_, rfl, hj⟩⟩
  · have hbl : b < w0.heap.size := (Array.getElem?_eq_some_iff.1 hb).1
    have hcells : ∀ j, j < zs.length → W.cell? ⟨b, o + j, none⟩ = some (.int .i64 (zs[j]?.getD 0)) := by
      intro j hj
      have hb0 : W.cell? ⟨b, o + j, none⟩ = w0.cell? ⟨b, o + j, none⟩ := (hB.trans (hW.mono hB.size)).cell (p := ⟨b, o + j, none⟩) hbl
      rw [hb0, cell_at (show w0.heap[b]? = _ from hb)]
      refine hcs j _ ?_
      have := encs_get Ei zs j 0 zs[j] (by simp [hj]) (by decide)
      have e : j * Ei.sz + 0 = j := by simp [Ei]
      rw [e] at this
      rw [this]
      simp [Ei, hj]
    refine (back1_in F n h190 hro hn l Bs w0.heap.size b o sc zs (by simp [maxLen] at r2; omega) hbl J Jx hY W hc' hcells h0).mono ?_
    rintro e W' ⟨he, ⟨ys, rfl, hj⟩ | ⟨pre, _, hj⟩⟩
    · exact ⟨he, .inl ⟨_, rfl, hj⟩⟩
    · exact ⟨he, .inr ⟨_, trivial, hj⟩⟩

set_option maxHeartbeats 1000000 in
theorem back_in (F : Fence) (n : Nat) (h177 : F.fn 177) (hro : F.round = none) (a : Option Addr) (len cap : Nat) (w : World) :
    CallsIn F n Try.prog 177 #[.slice a len cap] w fun e w' => e = .returned (.func (.func 190) #[] #[.pointer (some ⟨w.heap.size, 0, none⟩)]) ∧ w' = w.alloc (.cells #[.slice a len cap] 22) := by
  refine callsIn_of_wp Try.func177 rfl h177 ?_ hro
  simp only [Try.ntmps177, List.size_toArray, List.length_cons, List.length_nil, Nat.reduceAdd, Nat.reduceSub, Array.replicate_succ, Array.replicate_zero, List.push_toArray, List.append_toArray, List.nil_append, List.cons_append]
  gi_wp2
  go_ret
  exact ⟨rfl, rfl⟩

def impl_valueAt.g (p r : Int) (l : List Int) (o : Int) : Int := l.foldl (fun o c => Int.tmod (w64 (w64 (o * r) + c)) p) o
def impl_valueAt.f (p : Int) (l : List Int) (r : Int) : Option Int := if l = [] then some 0 else nz p (some (impl_valueAt.g p r l.reverse 0))
def impl_valueAt.R (r : Int) (v : Value) (L : List Asn) : Prop := v = .int .i64 r ∧ L = []
theorem w64_wrap (x : Int) : w64 x = wrap64 x := IntWalk.i64_left x
theorem g_snoc (p r : Int) (l : List Int) (c o : Int) : impl_valueAt.g p r (l ++ [c]) o = Int.tmod (w64 (w64 (impl_valueAt.g p r l o * r) + c)) p := by simp [impl_valueAt.g]

set_option maxRecDepth 100000 in
set_option maxHeartbeats 4000000 in
theorem valueAt_in (F : Fence) (n : Nat) (h140 : F.fn 140) (h177 : F.fn 177) (h190 : F.fn 190) (hro : F.round = none) (hn : 3 ≤ n) (p r : Int) (a : Option Addr) (len cap : Nat) (zs : List Int) (w : World) (hR : Reads Ei (hp w) ⟨a, len, cap⟩ zs) (hp0 : zs ≠ [] → p ≠ 0) :
    CallsIn F n Try.prog 140 #[.int .i64 p, .slice a len cap, .int .i64 r] w fun e W' => e = .returned (.int .i64 (impl_valueAt.g p r zs.reverse 0)) ∧ Below w.heap.size w W' := by
  have h1 : 1 ≤ n := by omega
  refine callsIn_of_wp_marks Try.func140 rfl h140 ?_ hro
  simp only [Try.ntmps140, List.size_toArray, List.length_cons, List.length_nil, Nat.reduceAdd, Nat.reduceSub, Array.replicate_succ, Array.replicate_zero, List.push_toArray, List.append_toArray, List.nil_append, List.cons_append]
  gi_wp2_with (gi_at_call 177; refine (back_in F (n - 1) h177 hro _ _ _ _).mono ?_; rintro e w' ⟨rfl, rfl⟩)
  have bP := Boxed.new w 2 (.int .i64 p)
  have bR := Boxed.new (w.alloc (.cells #[.int .i64 p] 2)) 2 (.int .i64 r)
  have bO := Boxed.new ((w.alloc (.cells #[.int .i64 p] 2)).alloc (.cells #[.int .i64 r] 2)) 2 (.int .i64 0)
  have bN := Boxed.new (((w.alloc (.cells #[.int .i64 p] 2)).alloc (.cells #[.int .i64 r] 2)).alloc (.cells #[.int .i64 0] 2)) 22 (.slice a len cap)
  simp only [World.size_alloc] at bP bR bO bN
  have hB0 : Below w.heap.size w ((((w.alloc (.cells #[.int .i64 p] 2)).alloc (.cells #[.int .i64 r] 2)).alloc (.cells #[.int .i64 0] 2)).alloc (.cells #[.slice a len cap] 22)) :=
    ((((Below.refl _ w).alloc (Nat.le_refl _) _).alloc (by simp) _).alloc (by simp; omega) _).alloc (by simp; omega) _
  refine wpIn_rangeFunc_ownG hro h1 (gf := 190) (lb := #[.pointer (some ⟨w.heap.size + 1 + 1 + 1, 0, none⟩)]) rfl h190 (enters_of Try.func190 (by kernel_rfl) rfl)
    (back_stops F (n - 1) h190 hro (by omega) (w.heap.size + 1 + 1 + 1) w _ ⟨a, len, cap⟩ zs hR hB0 (by simp) bN.cell)
    (fun h k => h.trans k)
    (fun W l o o' hl h hc hw => ⟨belowK_b (by simp; omega) W l o o' hl h hc hw, World.putObj_heap_other (by simp at hl; omega)⟩)
    (Below.refl _ _) (fun _ => rfl)
    (fun pre W => ((W.cell? ⟨w.heap.size + 1 + 1, 0, none⟩ = some (.int .i64 (impl_valueAt.g p r (pre.map (·.2)) 0)) ∧ W.frozen? ⟨w.heap.size + 1 + 1, 0, none⟩ = false) ∧ W.cell? ⟨w.heap.size, 0, none⟩ = some (.int .i64 p) ∧ W.cell? ⟨w.heap.size + 1, 0, none⟩ = some (.int .i64 r)) ∧ Below w.heap.size w W)
    (fun _ _ _ => False)
    (OwnFrom.and (Own.from (fun s A B row hs hg hr => ⟨⟨cell_kept hs.1.1 hg hr, (frozen_kept hs.1.1 hg hr).trans hs.1.2⟩, cell_kept hs.2.1 hg hr, cell_kept hs.2.2 hg hr⟩) _) (ownFrom_below (Nat.le_refl _) (by simp; omega)))
    (fun _ _ _ _ _ hs _ _ => hs)
    ⟨⟨⟨(bO.alloc _).cell, (bO.alloc _).frozen⟩, (((bP.alloc _).alloc _).alloc _).cell, ((bR.alloc _).alloc _).cell⟩, hB0⟩
    (fun x => { tmps := #[.int .i64 p, .slice a len cap, .int .i64 r, .pointer (some ⟨w.heap.size, 0, none⟩), undef, .pointer (some ⟨w.heap.size + 1, 0, none⟩), .int .i64 0, .pointer (some ⟨w.heap.size + 1 + 1, 0, none⟩), undef, .int .i64 x.2, .slice a len cap, .func (.func 190) #[] #[.pointer (some ⟨w.heap.size + 1 + 1 + 1, 0, none⟩)], .int .i64 x.1, .int .i64 x.2, undef, undef, undef, undef, undef, undef, undef, undef], defers := [] }) ?assign ?body ?done ?stop
  case assign =>
    intro l x W K hK
    gi_wp2
    exact hK
  case body =>
    rintro l pre x W ⟨⟨⟨hc, hf⟩, hP, hRr⟩, hB⟩ hlen
    have hpz : p ≠ 0 := hp0 (by rintro rfl; simp at hlen)
    gi_wp2
    have hO : (W.setCell ⟨w.heap.size + 1 + 1, 0, none⟩ (.int .i64 ((wrap64 (wrap64 (impl_valueAt.g p r (pre.map (·.2)) 0 * r) + x.2)).tmod p))).cell? ⟨w.heap.size + 1 + 1, 0, none⟩ = some (.int .i64 (impl_valueAt.g p r ((pre ++ [x]).map (·.2)) 0)) := by
      rw [List.map_append, List.map_cons, List.map_nil, g_snoc, w64_wrap, w64_wrap]
      exact World.cell?_setCell_same' _ _ _ (by rw [hc]; rfl)
    have hk : ∀ k, k ≠ w.heap.size + 1 + 1 → ∀ v, (W.setCell ⟨w.heap.size + 1 + 1, 0, none⟩ v).heap[k]? = W.heap[k]? := fun k hk v => Below.heap_setCell _ _ _ k hk
    exact ⟨(KeepsOthers.setCell _ _ _).from _, ⟨(Below.refl w.heap.size W).setCell (p := ⟨w.heap.size + 1 + 1, 0, none⟩) (by simp; omega) _, hk (w.heap.size + 1 + 1 + 1) (by omega) _⟩,
      ⟨⟨hO, by rw [World.frozen?_setCell]; exact hf⟩, (World.cell?_of_block (hk w.heap.size (by omega) _)).trans hP, (World.cell?_of_block (hk (w.heap.size + 1) (by omega) _)).trans hRr⟩, hB.setCell (p := ⟨w.heap.size + 1 + 1, 0, none⟩) (by simp; omega) _⟩
  case done =>
    rintro D ys W hD rfl ⟨⟨⟨hc, _⟩, _⟩, hB⟩ hK
    gi_wp2
    refine ⟨by simp, .inl ⟨_, _, rfl, run_takeDeferred hK, ?_⟩⟩
    rw [bk_all]
    exact ⟨_, results_tmp rfl _ _ _, rfl, hB.trans (belowK_b (w := w) (Nat.le_refl _) W D _ _ (by simp at hD; omega) hK rfl rfl)⟩
  case stop =>
    rintro D c pre W _ _ h _
    exact h.elim
theorem impl_valueAt.calls (w : World) (p : Int) (s : SV) (l : List Int) (r : Int) (h1 : Reads Ei (hp w) s l) :
    ∀ v, impl_valueAt.f p l r = some v → Calls Try.prog 140 #[.int .i64 p, SV.v s, .int .i64 r] w (Ret w (impl_valueAt.R v)) := by
  intro v hv
  have hp0 : l ≠ [] → p ≠ 0 := by
    intro hl h0
    unfold impl_valueAt.f at hv
    rw [if_neg hl] at hv
    unfold nz at hv
    rw [if_pos h0] at hv
    cases hv
  have hg : impl_valueAt.g p r l.reverse 0 = v := by
    unfold impl_valueAt.f at hv
    by_cases hl : l = []
    · subst hl
      rw [if_pos rfl] at hv
      exact Option.some.inj hv
    · rw [if_neg hl] at hv
      unfold nz at hv
      rw [if_neg (hp0 hl)] at hv
      exact Option.some.inj hv
  obtain ⟨a, len, cap⟩ := s
  refine callsIn_wide.1 ((valueAt_in Fence.wide 3 trivial trivial trivial rfl (Nat.le_refl _) p r a len cap l w h1 hp0).mono ?_)
  rintro e W' ⟨rfl, hb⟩
  refine ⟨.int .i64 v, [], by rw [hg], ⟨rfl, rfl⟩, ⟨hb, .refl _, ?_, [], rfl, by simp, by simp⟩⟩
  intro b o hbo
  have hbl : b < w.heap.size := (Array.getElem?_eq_some_iff.1 hbo).1
  exact (hb.block b hbl).trans hbo
end Go.Proofs.Ytiiljfpbcanphaa.G

/- impl.valueAt, told by hand. -/
namespace Go.Proofs.Ytiiljfpbcanphaa.G
end Go.Proofs.Ytiiljfpbcanphaa.G

/- impl.slope, as a pure function. -/
set_option linter.unusedVariables false
namespace Go.Proofs.Ytiiljfpbcanphaa.G
open Go Go.Sx Go.Proofs

def impl_slope.b0 (r_2 : List Int) (p1 : Int) : (List Int) × Int → Option (LB ((List Int) × Int)) := fun p => match p with | (out1, x1) => (bif (decide (x1 < ((((r_2 ++ ([1] : List Int)).drop 1).take (((r_2 ++ ([1] : List Int)).length) - 1)).length : Int))) then chk x1 ((((r_2 ++ ([1] : List Int)).drop 1).take (((r_2 ++ ([1] : List Int)).length) - 1)).length) (nz p1 (small (out1.length + ([(Int.tmod (w64 ((w64 (x1 + 1)) * (gt (((r_2 ++ ([1] : List Int)).drop 1).take (((r_2 ++ ([1] : List Int)).length) - 1)) x1))) p1)] : List Int).length) (some (.next ((out1 ++ ([(Int.tmod (w64 ((w64 (x1 + 1)) * (gt (((r_2 ++ ([1] : List Int)).drop 1).take (((r_2 ++ ([1] : List Int)).length) - 1)) x1))) p1)] : List Int)), (w64 (x1 + 1))))))) else some (.brk (out1, x1)))

def impl_slope.f (p1 : Int) (list_1 : List Int) (r_1 : Int) : Option Int := (G.slices_Clone_int64_int64.f list_1).bind (fun r_2 => small (r_2.length + ([1] : List Int).length) (grd (decide (0 ≤ 1) && decide (1 ≤ ((r_2 ++ ([1] : List Int)).length : Int)) && decide (((r_2 ++ ([1] : List Int)).length : Int) ≤ ((r_2 ++ ([1] : List Int)).length : Int))) ((loop1 (impl_slope.b0 r_2 p1) (([] : List Int), 0)).bind (fun p => match p with | (out1, x1) => (G.impl_valueAt.f p1 out1 r_1).bind (fun r_3 => some r_3)))))

def impl_slope.R (r : Int) (v : Value) (L : List Asn) : Prop := v = .int .i64 r ∧ L = []

set_option maxRecDepth 100000 in
set_option maxHeartbeats 4000000 in
theorem impl_slope.calls (w : World) (p1 : Int) (s1 : SV) (list_1 : List Int) (r_1 : Int) (h1 : Reads Ei (hp w) s1 list_1) :
    ∀ r, impl_slope.f p1 list_1 r_1 = some r → Calls Try.prog 73 #[.int .i64 p1, SV.v s1, .int .i64 r_1] w (Ret w (impl_slope.R r)) := by

  refine calls_T (n := 38) (Γ := [(0, .int .i64 p1), (1, SV.v s1), (2, .int .i64 r_1)]) (R := impl_slope.R) Try.func73 rfl rfl (Nat.le_of_ble_eq_true rfl) ⟨rfl, rfl, rfl, trivial⟩ ?_
  unfold impl_slope.f
  refine TC.seq ?_
  refine TC.region ?_
  refine TL.assign rfl rfl (v := .int .i64 0) rfl ?_
  refine TL.done ?_
  refine TC.seq ?_
  refine TC.region ?_
  refine TL.move rfl rfl (v := SV.v s1) rfl ?_
  refine TL.call (R := G.slices_Clone_int64_int64.R) Try.call139 rfl rfl rfl (fun w hS => G.slices_Clone_int64_int64.calls w s1 list_1 ((Rd.old h1) w hS)) ?_
  rintro r_2 _ _ ⟨s2, rfl, rfl⟩
  refine TL.blit Ei ([1] : List Int) Try.underlying22 Try.sizeOf2 Try.zeroValue2 rfl rfl rfl [(0, .int .i64 1)] rfl ⟨rfl, rfl, trivial⟩ rfl rfl fun s3 => ?_
  refine TL.small fun h2 => ?_
  refine TL.append 1 rfl (Rd.row 0 rfl) Try.underlying22 (info_of Try.type2) (zv := (Try.t2.zero.getD (.bool false))) rfl rfl rfl (by decide) h2 rfl rfl rfl rfl fun s4 => ?_
  refine TL.bslice0 Ei Try.underlying22 Try.sizeOf2 rfl rfl fun s5 => ?_
  refine TL.assign rfl rfl (v := SV.v s4) rfl ?_
  refine TL.assign rfl rfl (v := SV.v s5) rfl ?_
  refine TL.done ?_
  refine TC.seq ?_
  refine TC.seq ?_
  refine TC.region ?_
  refine TL.move rfl rfl (v := SV.v s4) rfl ?_
  refine TL.grd fun h3 => ?_
  refine TL.slice (li := (some 1)) (hi' := none) (l := 1) (h := ((r_2 ++ ([1] : List Int)).length)) (Rd.row 2 rfl) Try.underlying22 Try.sizeOf2 rfl rfl (by have h_ := h3; simp only [Bool.and_eq_true, decide_eq_true_eq] at h_; first | rfl | omega | (simp only [Option.getD_none, Option.getD_some]; omega)) (by have h_ := h3; simp only [Bool.and_eq_true, decide_eq_true_eq] at h_; first | rfl | omega | (simp only [Option.getD_none, Option.getD_some]; omega)) (by have h_ := h3; simp only [Bool.and_eq_true, decide_eq_true_eq] at h_; omega) (by have h_ := h3; simp only [Bool.and_eq_true, decide_eq_true_eq] at h_; omega) rfl rfl rfl ?_
  refine TL.len (Rd.cut (Rd.row 2 rfl) (by have h_ := h3; simp only [Bool.and_eq_true, decide_eq_true_eq] at h_; omega) (by have h_ := h3; simp only [Bool.and_eq_true, decide_eq_true_eq] at h_; omega)) Try.underlying22 rfl rfl rfl ?_
  refine TL.move rfl rfl (v := .int .i64 0) rfl ?_
  refine TL.done ?_
  refine TC.loop1 (σ := (List Int) × Int) (γ := SV) (Γ' := (fun p q => match p, q with | (out1, x1), s6 => [(0, .int .i64 p1), (2, .int .i64 r_1), (8, SV.v s6), (17, SV.v (SV.cut s4 1 ((r_2 ++ ([1] : List Int)).length) s4.c Ei.sz)), (18, .int .i64 ((((r_2 ++ ([1] : List Int)).drop 1).take (((r_2 ++ ([1] : List Int)).length) - 1)).length : Int)), (19, .int .i64 x1)])) (L' := (fun p q => match p, q with | (out1, x1), s6 => [row Ei 2 s6 out1, row Ei 2 s4 (r_2 ++ ([1] : List Int))])) (Γb := (fun p q => match p, q with | (out1, x1), s6 => [(0, .int .i64 p1), (2, .int .i64 r_1), (8, SV.v s6), (17, SV.v (SV.cut s4 1 ((r_2 ++ ([1] : List Int)).length) s4.c Ei.sz)), (18, .int .i64 ((((r_2 ++ ([1] : List Int)).drop 1).take (((r_2 ++ ([1] : List Int)).length) - 1)).length : Int)), (19, .int .i64 x1)])) (Lb := (fun p q => match p, q with | (out1, x1), s6 => [row Ei 2 s6 out1, row Ei 2 s4 (r_2 ++ ([1] : List Int))])) ((([] : List Int), 0)) (s5) ⟨rfl, rfl, rfl, rfl, rfl, rfl, trivial⟩ [0, 1] rfl ?_ ?_
  · rintro ⟨out1, x1⟩ s6
    refine TC.seq ?_
    refine TC.region ?_
    refine TL.bin .i64 x1 ((((r_2 ++ ([1] : List Int)).drop 1).take (((r_2 ++ ([1] : List Int)).length) - 1)).length : Int) rfl rfl rfl rfl (v := .bool (decide (x1 < ((((r_2 ++ ([1] : List Int)).drop 1).take (((r_2 ++ ([1] : List Int)).length) - 1)).length : Int)))) rfl ?_
    refine TL.done ?_
    refine TC.seq ?_
    refine TC.cond (b := (decide (x1 < ((((r_2 ++ ([1] : List Int)).drop 1).take (((r_2 ++ ([1] : List Int)).length) - 1)).length : Int)))) rfl (fun c1 => ?_) (fun c2 => ?_)
    · refine TC.skip ?_
      refine TC.seq ?_
      refine TC.block (NoEx.loop1 rfl) ?_
      refine TC.seq ?_
      refine TC.region ?_
      refine TL.move rfl rfl (v := .int .i64 x1) rfl ?_
      refine TL.chk fun h4 => ?_
      refine TL.ixs x1 x1.toNat (Rd.cut (Rd.row 1 rfl) (by have h_ := h3; simp only [Bool.and_eq_true, decide_eq_true_eq] at h_; omega) (by have h_ := h3; simp only [Bool.and_eq_true, decide_eq_true_eq] at h_; omega)) h4 Try.underlying22 Try.sizeOf2 rfl rfl rfl rfl (by omega) ?_
      refine TL.loadE (Rd.cut (Rd.row 1 rfl) (by have h_ := h3; simp only [Bool.and_eq_true, decide_eq_true_eq] at h_; omega) (by have h_ := h3; simp only [Bool.and_eq_true, decide_eq_true_eq] at h_; omega)) Try.isAgg2 x1.toNat 0 (gt_spec h4) (v := .int .i64 (gt (((r_2 ++ ([1] : List Int)).drop 1).take (((r_2 ++ ([1] : List Int)).length) - 1)) x1)) rfl (by simp only [show Ei.sz = 1 from rfl] <;> omega) rfl rfl rfl ?_
      refine TL.assign rfl rfl (v := .int .i64 x1) rfl ?_
      refine TL.assign rfl rfl (v := .int .i64 (gt (((r_2 ++ ([1] : List Int)).drop 1).take (((r_2 ++ ([1] : List Int)).length) - 1)) x1)) rfl ?_
      refine TL.done ?_
      refine TC.region ?_
      refine TL.move rfl rfl (v := SV.v s6) rfl ?_
      refine TL.move rfl rfl (v := .int .i64 x1) rfl ?_
      refine TL.bin .i64 x1 1 rfl rfl rfl rfl (v := .int .i64 (w64 (x1 + 1))) rfl ?_
      refine TL.move rfl rfl (v := .int .i64 (gt (((r_2 ++ ([1] : List Int)).drop 1).take (((r_2 ++ ([1] : List Int)).length) - 1)) x1)) rfl ?_
      refine TL.bin .i64 (w64 (x1 + 1)) (gt (((r_2 ++ ([1] : List Int)).drop 1).take (((r_2 ++ ([1] : List Int)).length) - 1)) x1) rfl rfl rfl rfl (v := .int .i64 (w64 ((w64 (x1 + 1)) * (gt (((r_2 ++ ([1] : List Int)).drop 1).take (((r_2 ++ ([1] : List Int)).length) - 1)) x1)))) rfl ?_
      refine TL.move rfl rfl (v := .int .i64 p1) rfl ?_
      refine TL.nz fun z1 => ?_
      refine TL.rem .i64 (w64 ((w64 (x1 + 1)) * (gt (((r_2 ++ ([1] : List Int)).drop 1).take (((r_2 ++ ([1] : List Int)).length) - 1)) x1))) p1 z1 rfl rfl rfl rfl ?_
      refine TL.blit Ei ([(Int.tmod (w64 ((w64 (x1 + 1)) * (gt (((r_2 ++ ([1] : List Int)).drop 1).take (((r_2 ++ ([1] : List Int)).length) - 1)) x1))) p1)] : List Int) Try.underlying22 Try.sizeOf2 Try.zeroValue2 rfl rfl rfl [(0, .int .i64 (Int.tmod (w64 ((w64 (x1 + 1)) * (gt (((r_2 ++ ([1] : List Int)).drop 1).take (((r_2 ++ ([1] : List Int)).length) - 1)) x1))) p1))] rfl ⟨rfl, rfl, trivial⟩ rfl rfl fun s7 => ?_
      refine TL.small fun h5 => ?_
      refine TL.append 1 rfl (Rd.row 0 rfl) Try.underlying22 (info_of Try.type2) (zv := (Try.t2.zero.getD (.bool false))) rfl rfl rfl (by decide) h5 rfl rfl rfl rfl fun s8 => ?_
      refine TL.assign rfl rfl (v := SV.v s8) rfl ?_
      refine TL.done ?_
      refine TC.region ?_
      refine TL.bin .i64 x1 1 rfl rfl rfl rfl (v := .int .i64 (w64 (x1 + 1))) rfl ?_
      refine TL.move rfl rfl (v := .int .i64 (w64 (x1 + 1))) rfl ?_
      refine TL.done ?_
      exact TC.next1 (((out1 ++ ([(Int.tmod (w64 ((w64 (x1 + 1)) * (gt (((r_2 ++ ([1] : List Int)).drop 1).take (((r_2 ++ ([1] : List Int)).length) - 1)) x1))) p1)] : List Int)), (w64 (x1 + 1)))) (s8) ⟨rfl, rfl, rfl, rfl, rfl, rfl, trivial⟩ [1, 1] rfl
    · exact TC.brk1 ((out1, x1)) (s6) ⟨rfl, rfl, rfl, rfl, rfl, rfl, trivial⟩ [0, 0] rfl
  · rintro ⟨out1, x1⟩ s6
    refine TC.seq ?_
    refine TC.region ?_
    refine TL.move rfl rfl (v := .int .i64 p1) rfl ?_
    refine TL.move rfl rfl (v := SV.v s6) rfl ?_
    refine TL.move rfl rfl (v := .int .i64 r_1) rfl ?_
    refine TL.call (R := G.impl_valueAt.R) Try.call140 rfl rfl rfl (fun w hS => G.impl_valueAt.calls w p1 s6 out1 r_1 ((Rd.row 0 rfl) w hS)) ?_
    rintro r_3 _ _ ⟨rfl, rfl⟩
    refine TL.assign rfl rfl (v := .int .i64 r_3) rfl ?_
    refine TL.done ?_
    exact TC.retF (Fin.body (fin1 (.inr rfl) rfl (.tmp rfl) [] rfl ⟨rfl, rfl⟩))

end Go.Proofs.Ytiiljfpbcanphaa.G

/- impl.roots, as a pure function. -/
set_option linter.unusedVariables false
namespace Go.Proofs.Ytiiljfpbcanphaa.G
open Go Go.Sx Go.Proofs

def impl_roots.b0 (p1 : Int) (r_1 : List Int) : (List Int) × Int → Option (LB ((List Int) × Int)) := fun p => match p with | (out1, x1) => (bif (decide (x1 < p1)) then (G.impl_valueAt.f p1 (r_1 ++ ([1] : List Int)) x1).bind (fun r_2 => ((bif (r_2 == 0) then small (out1.length + ([x1] : List Int).length) (some (out1 ++ ([x1] : List Int))) else some out1)).bind (fun out2 => some (.next (out2, (w64 (x1 + 1)))))) else some (.brk (out1, x1)))

def impl_roots.f (p1 : Int) (list_1 : List Int) : Option (List Int) := (G.slices_Clone_int64_int64.f list_1).bind (fun r_1 => small (r_1.length + ([1] : List Int).length) ((loop1 (impl_roots.b0 p1 r_1) (([] : List Int), 0)).bind (fun p => match p with | (out1, x1) => some out1)))

def impl_roots.R (r : List Int) (v : Value) (L : List Asn) : Prop := ∃ (s0 : SV), v = SV.v s0 ∧ L = [row Ei 2 s0 r]

set_option maxRecDepth 100000 in
set_option maxHeartbeats 4000000 in
theorem impl_roots.calls (w : World) (p1 : Int) (s1 : SV) (list_1 : List Int) (h1 : Reads Ei (hp w) s1 list_1) :
    ∀ r, impl_roots.f p1 list_1 = some r → Calls Try.prog 75 #[.int .i64 p1, SV.v s1] w (Ret w (impl_roots.R r)) := by

  refine calls_T (n := 28) (Γ := [(0, .int .i64 p1), (1, SV.v s1)]) (R := impl_roots.R) Try.func75 rfl rfl (Nat.le_of_ble_eq_true rfl) ⟨rfl, rfl, trivial⟩ ?_
  unfold impl_roots.f
  refine TC.seq ?_
  refine TC.region ?_
  refine TL.assign rfl rfl (v := SV.v ⟨none, 0, 0⟩) rfl ?_
  refine TL.done ?_
  refine TC.seq ?_
  refine TC.region ?_
  refine TL.bslice0 Ei Try.underlying22 Try.sizeOf2 rfl rfl fun s2 => ?_
  refine TL.move rfl rfl (v := SV.v s1) rfl ?_
  refine TL.call (R := G.slices_Clone_int64_int64.R) Try.call139 rfl rfl rfl (fun w hS => G.slices_Clone_int64_int64.calls w s1 list_1 ((Rd.old h1) w hS)) ?_
  rintro r_1 _ _ ⟨s3, rfl, rfl⟩
  refine TL.blit Ei ([1] : List Int) Try.underlying22 Try.sizeOf2 Try.zeroValue2 rfl rfl rfl [(0, .int .i64 1)] rfl ⟨rfl, rfl, trivial⟩ rfl rfl fun s4 => ?_
  refine TL.small fun h2 => ?_
  refine TL.append 1 rfl (Rd.row 0 rfl) Try.underlying22 (info_of Try.type2) (zv := (Try.t2.zero.getD (.bool false))) rfl rfl rfl (by decide) h2 rfl rfl rfl rfl fun s5 => ?_
  refine TL.assign rfl rfl (v := SV.v s2) rfl ?_
  refine TL.assign rfl rfl (v := SV.v s5) rfl ?_
  refine TL.done ?_
  refine TC.seq ?_
  refine TC.seq ?_
  refine TC.region ?_
  refine TL.move rfl rfl (v := .int .i64 p1) rfl ?_
  refine TL.move rfl rfl (v := .int .i64 0) rfl ?_
  refine TL.done ?_
  refine TC.loop1 (σ := (List Int) × Int) (γ := SV) (Γ' := (fun p q => match p, q with | (out1, x1), s6 => [(0, .int .i64 p1), (5, SV.v s6), (6, SV.v s5), (13, .int .i64 p1), (14, .int .i64 x1)])) (L' := (fun p q => match p, q with | (out1, x1), s6 => [row Ei 2 s6 out1, row Ei 2 s5 (r_1 ++ ([1] : List Int))])) (Γb := (fun p q => match p, q with | (out1, x1), s6 => [(0, .int .i64 p1), (5, SV.v s6), (6, SV.v s5), (13, .int .i64 p1), (14, .int .i64 x1)])) (Lb := (fun p q => match p, q with | (out1, x1), s6 => [row Ei 2 s6 out1, row Ei 2 s5 (r_1 ++ ([1] : List Int))])) ((([] : List Int), 0)) (s2) ⟨rfl, rfl, rfl, rfl, rfl, trivial⟩ [2, 1] rfl ?_ ?_
  · rintro ⟨out1, x1⟩ s6
    refine TC.seq ?_
    refine TC.region ?_
    refine TL.bin .i64 x1 p1 rfl rfl rfl rfl (v := .bool (decide (x1 < p1))) rfl ?_
    refine TL.done ?_
    refine TC.seq ?_
    refine TC.cond (b := (decide (x1 < p1))) rfl (fun c1 => ?_) (fun c2 => ?_)
    · refine TC.skip ?_
      refine TC.seq ?_
      refine TC.block (NoEx.loop1 rfl) ?_
      refine TC.seq ?_
      refine TC.region ?_
      refine TL.move rfl rfl (v := .int .i64 x1) rfl ?_
      refine TL.assign rfl rfl (v := .int .i64 x1) rfl ?_
      refine TL.done ?_
      refine TC.seq ?_
      refine TC.region ?_
      refine TL.move rfl rfl (v := .int .i64 p1) rfl ?_
      refine TL.move rfl rfl (v := SV.v s5) rfl ?_
      refine TL.move rfl rfl (v := .int .i64 x1) rfl ?_
      refine TL.call (R := G.impl_valueAt.R) Try.call140 rfl rfl rfl (fun w hS => G.impl_valueAt.calls w p1 s5 (r_1 ++ ([1] : List Int)) x1 ((Rd.row 1 rfl) w hS)) ?_
      rintro r_2 _ _ ⟨rfl, rfl⟩
      refine TL.bin .i64 r_2 0 rfl rfl rfl rfl (v := .bool (r_2 == 0)) rfl ?_
      refine TL.done ?_
      refine TC.join1 (σ := (List Int)) (γ := SV) (Γ' := (fun out2 s7 => [(0, .int .i64 p1), (5, SV.v s7), (6, SV.v s5), (13, .int .i64 p1), (14, .int .i64 x1)])) (L' := (fun out2 s7 => [row Ei 2 s7 out2, row Ei 2 s5 (r_1 ++ ([1] : List Int))])) ?_ ?_
      · refine TC.cond (b := (r_2 == 0)) rfl (fun c3 => ?_) (fun c4 => ?_)
        · refine TC.region ?_
          refine TL.move rfl rfl (v := SV.v s6) rfl ?_
          refine TL.move rfl rfl (v := .int .i64 x1) rfl ?_
          refine TL.blit Ei ([x1] : List Int) Try.underlying22 Try.sizeOf2 Try.zeroValue2 rfl rfl rfl [(0, .int .i64 x1)] rfl ⟨rfl, rfl, trivial⟩ rfl rfl fun s8 => ?_
          refine TL.small fun h3 => ?_
          refine TL.append 1 rfl (Rd.row 0 rfl) Try.underlying22 (info_of Try.type2) (zv := (Try.t2.zero.getD (.bool false))) rfl rfl rfl (by decide) h3 rfl rfl rfl rfl fun s9 => ?_
          refine TL.assign rfl rfl (v := SV.v s9) rfl ?_
          refine TL.done ?_
          exact TC.nrm ((out1 ++ ([x1] : List Int))) (s9) ⟨rfl, rfl, rfl, rfl, rfl, trivial⟩ [1, 1] rfl
        · refine TC.skip ?_
          exact TC.nrm (out1) (s6) ⟨rfl, rfl, rfl, rfl, rfl, trivial⟩ [0, 0] rfl
      · rintro out2 s7
        refine TC.region ?_
        refine TL.bin .i64 x1 1 rfl rfl rfl rfl (v := .int .i64 (w64 (x1 + 1))) rfl ?_
        refine TL.move rfl rfl (v := .int .i64 (w64 (x1 + 1))) rfl ?_
        refine TL.done ?_
        exact TC.next1 ((out2, (w64 (x1 + 1)))) (s7) ⟨rfl, rfl, rfl, rfl, rfl, trivial⟩ [0, 0] rfl
    · exact TC.brk1 ((out1, x1)) (s6) ⟨rfl, rfl, rfl, rfl, rfl, trivial⟩ [0, 0] rfl
  · rintro ⟨out1, x1⟩ s6
    refine TC.seq ?_
    refine TC.region ?_
    refine TL.move rfl rfl (v := SV.v s6) rfl ?_
    refine TL.assign rfl rfl (v := SV.v s6) rfl ?_
    refine TL.done ?_
    exact TC.retF (Fin.body (fin1 (.inr rfl) rfl (.tmp rfl) [0] rfl ⟨s6, rfl, rfl⟩))

end Go.Proofs.Ytiiljfpbcanphaa.G

/- impl.power, as a pure function. -/
set_option linter.unusedVariables false
namespace Go.Proofs.Ytiiljfpbcanphaa.G
open Go Go.Sx Go.Proofs

def impl_power.b0 (k_1 : Int) (p1 : Int) (n_1 : Int) : Int × Int → Option (LB (Int × Int)) := fun p => match p with | (out1, x1) => (bif (decide (x1 < k_1)) then nz p1 (some (.next ((Int.tmod (w64 (out1 * n_1)) p1), (w64 (x1 + 1))))) else some (.brk (out1, x1)))

def impl_power.f (n_1 : Int) (k_1 : Int) (p1 : Int) : Option Int := (loop1 (impl_power.b0 k_1 p1 n_1) (1, 0)).bind (fun p => match p with | (out1, x1) => some out1)

def impl_power.R (r : Int) (v : Value) (L : List Asn) : Prop := v = .int .i64 r ∧ L = []

set_option maxRecDepth 100000 in
set_option maxHeartbeats 4000000 in
theorem impl_power.calls (w : World) (n_1 : Int) (k_1 : Int) (p1 : Int) :
    ∀ r, impl_power.f n_1 k_1 p1 = some r → Calls Try.prog 78 #[.int .i64 n_1, .int .i64 k_1, .int .i64 p1] w (Ret w (impl_power.R r)) := by

  refine calls_T (n := 18) (Γ := [(0, .int .i64 n_1), (1, .int .i64 k_1), (2, .int .i64 p1)]) (R := impl_power.R) Try.func78 rfl rfl (Nat.le_of_ble_eq_true rfl) ⟨rfl, rfl, rfl, trivial⟩ ?_
  unfold impl_power.f
  refine TC.seq ?_
  refine TC.region ?_
  refine TL.assign rfl rfl (v := .int .i64 0) rfl ?_
  refine TL.done ?_
  refine TC.seq ?_
  refine TC.region ?_
  refine TL.assign rfl rfl (v := .int .i64 1) rfl ?_
  refine TL.done ?_
  refine TC.seq ?_
  refine TC.seq ?_
  refine TC.region ?_
  refine TL.move rfl rfl (v := .int .i64 k_1) rfl ?_
  refine TL.move rfl rfl (v := .int .i64 0) rfl ?_
  refine TL.done ?_
  refine TC.loop1 (σ := Int × Int) (γ := Unit) (Γ' := (fun p q => match p, q with | (out1, x1), _ => [(0, .int .i64 n_1), (2, .int .i64 p1), (7, .int .i64 out1), (8, .int .i64 k_1), (9, .int .i64 x1)])) (L' := (fun p q => match p, q with | (out1, x1), _ => [])) (Γb := (fun p q => match p, q with | (out1, x1), _ => [(0, .int .i64 n_1), (2, .int .i64 p1), (7, .int .i64 out1), (8, .int .i64 k_1), (9, .int .i64 x1)])) (Lb := (fun p q => match p, q with | (out1, x1), _ => [])) ((1, 0)) (()) ⟨rfl, rfl, rfl, rfl, rfl, trivial⟩ [] rfl ?_ ?_
  · rintro ⟨out1, x1⟩ _
    refine TC.seq ?_
    refine TC.region ?_
    refine TL.bin .i64 x1 k_1 rfl rfl rfl rfl (v := .bool (decide (x1 < k_1))) rfl ?_
    refine TL.done ?_
    refine TC.seq ?_
    refine TC.cond (b := (decide (x1 < k_1))) rfl (fun c1 => ?_) (fun c2 => ?_)
    · refine TC.skip ?_
      refine TC.seq ?_
      refine TC.block (NoEx.loop1 rfl) ?_
      refine TC.region ?_
      refine TL.move rfl rfl (v := .int .i64 out1) rfl ?_
      refine TL.move rfl rfl (v := .int .i64 n_1) rfl ?_
      refine TL.bin .i64 out1 n_1 rfl rfl rfl rfl (v := .int .i64 (w64 (out1 * n_1))) rfl ?_
      refine TL.move rfl rfl (v := .int .i64 p1) rfl ?_
      refine TL.nz fun z1 => ?_
      refine TL.rem .i64 (w64 (out1 * n_1)) p1 z1 rfl rfl rfl rfl ?_
      refine TL.assign rfl rfl (v := .int .i64 (Int.tmod (w64 (out1 * n_1)) p1)) rfl ?_
      refine TL.done ?_
      refine TC.region ?_
      refine TL.bin .i64 x1 1 rfl rfl rfl rfl (v := .int .i64 (w64 (x1 + 1))) rfl ?_
      refine TL.move rfl rfl (v := .int .i64 (w64 (x1 + 1))) rfl ?_
      refine TL.done ?_
      exact TC.next1 (((Int.tmod (w64 (out1 * n_1)) p1), (w64 (x1 + 1)))) (()) ⟨rfl, rfl, rfl, rfl, rfl, trivial⟩ [] rfl
    · exact TC.brk1 ((out1, x1)) (()) ⟨rfl, rfl, rfl, rfl, rfl, trivial⟩ [] rfl
  · rintro ⟨out1, x1⟩ _
    refine TC.seq ?_
    refine TC.region ?_
    refine TL.move rfl rfl (v := .int .i64 out1) rfl ?_
    refine TL.assign rfl rfl (v := .int .i64 out1) rfl ?_
    refine TL.done ?_
    exact TC.retF (Fin.body (fin1 (.inr rfl) rfl (.tmp rfl) [] rfl ⟨rfl, rfl⟩))

end Go.Proofs.Ytiiljfpbcanphaa.G

/- impl.inverse, as a pure function. -/
set_option linter.unusedVariables false
namespace Go.Proofs.Ytiiljfpbcanphaa.G
open Go Go.Sx Go.Proofs

def impl_inverse.f (n_1 : Int) (p1 : Int) : Option Int := (G.impl_power.f n_1 (w64 (p1 - 2)) p1).bind (fun r_1 => some r_1)

def impl_inverse.R (r : Int) (v : Value) (L : List Asn) : Prop := v = .int .i64 r ∧ L = []

set_option maxRecDepth 100000 in
set_option maxHeartbeats 4000000 in
theorem impl_inverse.calls (w : World) (n_1 : Int) (p1 : Int) :
    ∀ r, impl_inverse.f n_1 p1 = some r → Calls Try.prog 77 #[.int .i64 n_1, .int .i64 p1] w (Ret w (impl_inverse.R r)) := by

  refine calls_T (n := 10) (Γ := [(0, .int .i64 n_1), (1, .int .i64 p1)]) (R := impl_inverse.R) Try.func77 rfl rfl (Nat.le_of_ble_eq_true rfl) ⟨rfl, rfl, trivial⟩ ?_
  unfold impl_inverse.f
  refine TC.seq ?_
  refine TC.region ?_
  refine TL.assign rfl rfl (v := .int .i64 0) rfl ?_
  refine TL.done ?_
  refine TC.seq ?_
  refine TC.region ?_
  refine TL.move rfl rfl (v := .int .i64 n_1) rfl ?_
  refine TL.move rfl rfl (v := .int .i64 p1) rfl ?_
  refine TL.bin .i64 p1 2 rfl rfl rfl rfl (v := .int .i64 (w64 (p1 - 2))) rfl ?_
  refine TL.move rfl rfl (v := .int .i64 p1) rfl ?_
  refine TL.call (R := G.impl_power.R) Try.call78 rfl rfl rfl (fun w hS => G.impl_power.calls w n_1 (w64 (p1 - 2)) p1) ?_
  rintro r_1 _ _ ⟨rfl, rfl⟩
  refine TL.assign rfl rfl (v := .int .i64 r_1) rfl ?_
  refine TL.done ?_
  exact TC.retF (Fin.body (fin1 (.inr rfl) rfl (.tmp rfl) [] rfl ⟨rfl, rfl⟩))

end Go.Proofs.Ytiiljfpbcanphaa.G

/- impl.RootNumber, as a pure function. -/
set_option linter.unusedVariables false
namespace Go.Proofs.Ytiiljfpbcanphaa.G
open Go Go.Sx Go.Proofs

def impl_RootNumber.b0 (r_3 : List Int) (p1 : Int) (list_1 : List Int) (g1 : Int) : Int × Int → Option (LB (Int × Int)) := fun p => match p with | (sum1, x1) => (bif (decide (x1 < (r_3.length : Int))) then chk x1 r_3.length ((G.impl_slope.f p1 list_1 (gt r_3 x1)).bind (fun r_4 => (G.impl_inverse.f r_4 p1).bind (fun r_5 => (G.impl_power.f r_4 g1 p1).bind (fun r_6 => some (.next ((w64 (sum1 + (w64 (r_5 * r_6)))), (w64 (x1 + 1)))))))) else some (.brk (sum1, x1)))

def impl_RootNumber.f (p1 : Int) (list_1 : List Int) (g1 : Int) : Option (Int × Int) := (G.impl_polynomialOk.f p1 list_1).bind (fun r_1 => (bif (!r_1) then some true else (G.impl_in.f g1 0 30).bind (fun r_2 => some (!r_2))).bind (fun b_1 => (bif b_1 then some (0, 2) else (G.impl_roots.f p1 list_1).bind (fun r_3 => (bif (decide ((r_3.length : Int) < (list_1.length : Int))) then some (0, 5) else (loop1 (impl_RootNumber.b0 r_3 p1 list_1 g1) (0, 0)).bind (fun p => match p with | (sum1, x1) => nz p1 (some ((Int.tmod sum1 p1), 0))))))))

def impl_RootNumber.R (r : Int × Int) (v : Value) (L : List Asn) : Prop := v = .tuple #[.int .i64 r.1, .int .i64 r.2] ∧ L = []

set_option maxRecDepth 100000 in
set_option maxHeartbeats 4000000 in
theorem impl_RootNumber.calls (w : World) (p1 : Int) (s1 : SV) (list_1 : List Int) (g1 : Int) (h1 : Reads Ei (hp w) s1 list_1) :
    ∀ r, impl_RootNumber.f p1 list_1 g1 = some r → Calls Try.prog 21 #[.int .i64 p1, SV.v s1, .int .i64 g1] w (Ret w (impl_RootNumber.R r)) := by

  refine calls_T (n := 54) (Γ := [(0, .int .i64 p1), (1, SV.v s1), (2, .int .i64 g1)]) (R := impl_RootNumber.R) Try.func21 rfl rfl (Nat.le_of_ble_eq_true rfl) ⟨rfl, rfl, rfl, trivial⟩ ?_
  unfold impl_RootNumber.f
  refine TC.seq ?_
  refine TC.region ?_
  refine TL.assign rfl rfl (v := .int .i64 0) rfl ?_
  refine TL.assign rfl rfl (v := .int .i64 0) rfl ?_
  refine TL.done ?_
  refine TC.seq ?_
  refine TC.seq ?_
  refine TC.region ?_
  refine TL.move rfl rfl (v := .int .i64 p1) rfl ?_
  refine TL.move rfl rfl (v := SV.v s1) rfl ?_
  refine TL.call (R := G.impl_polynomialOk.R) Try.call71 rfl rfl rfl (fun w hS => G.impl_polynomialOk.calls w p1 s1 list_1 ((Rd.old h1) w hS)) ?_
  rintro r_1 _ _ ⟨rfl, rfl⟩
  refine TL.not r_1 rfl rfl rfl ?_
  refine TL.move rfl rfl (v := .bool (!r_1)) rfl ?_
  refine TL.cutJ (σ := Bool) (γ := Unit) (Γ' := fun b_1 _ => [(21, .bool b_1), (0, .int .i64 p1), (1, SV.v s1), (2, .int .i64 g1), (6, .int .i64 0), (7, .int .i64 0), (13, .int .i64 p1), (14, SV.v s1), (15, .bool r_1), (16, .bool (!r_1)), (17, .bool (!r_1))]) (L' := fun _ _ => []) 4 ?_ ?_
  · refine TL.ifb (t := 17) (b := (!r_1)) rfl (fun c1 => ?_) (fun c2 => ?_)
    · refine TL.skip rfl rfl (by decide) ?_
      refine TL.skip rfl rfl (by decide) ?_
      refine TL.skip rfl rfl (by decide) ?_
      refine TL.pick rfl rfl (b := true) rfl (r := .bool true) rfl ?_
      refine TL.done ?_
      exact TC.nrm (true) () ⟨rfl, rfl, rfl, rfl, rfl, rfl, rfl, rfl, rfl, rfl, (by rw [c1]; rfl), trivial⟩ [] (by kernel_rfl)
    · refine TL.move rfl rfl (v := .int .i64 g1) rfl ?_
      refine TL.call (R := G.impl_in.R) Try.call72 rfl rfl rfl (fun w hS => G.impl_in.calls w g1 0 30) ?_
      rintro r_2 _ _ ⟨rfl, rfl⟩
      refine TL.not r_2 rfl rfl rfl ?_
      refine TL.pick rfl rfl (b := false) rfl (r := .bool (!r_2)) rfl ?_
      refine TL.done ?_
      exact TC.nrm ((!r_2)) () ⟨rfl, rfl, rfl, rfl, rfl, rfl, rfl, rfl, rfl, rfl, (by rw [c2]; rfl), trivial⟩ [] (by kernel_rfl)
  · rintro b_1 _
    refine TL.done ?_
    refine TC.cond (b := b_1) rfl (fun c3 => ?_) (fun c4 => ?_)
    · refine TC.seq ?_
      refine TC.region ?_
      refine TL.assign rfl rfl (v := .int .i64 0) rfl ?_
      refine TL.assign rfl rfl (v := .int .i64 2) rfl ?_
      refine TL.done ?_
      exact TC.retF (Fin.body (fin2 (.inr rfl) rfl (.tmp rfl) (.tmp rfl) [] rfl ⟨rfl, rfl⟩))
    · refine TC.skip ?_
      refine TC.seq ?_
      refine TC.region ?_
      refine TL.move rfl rfl (v := .int .i64 p1) rfl ?_
      refine TL.move rfl rfl (v := SV.v s1) rfl ?_
      refine TL.call (R := G.impl_roots.R) Try.call75 rfl rfl rfl (fun w hS => G.impl_roots.calls w p1 s1 list_1 ((Rd.old h1) w hS)) ?_
      rintro r_3 _ _ ⟨s2, rfl, rfl⟩
      refine TL.assign rfl rfl (v := SV.v s2) rfl ?_
      refine TL.done ?_
      refine TC.seq ?_
      refine TC.seq ?_
      refine TC.region ?_
      refine TL.move rfl rfl (v := SV.v s2) rfl ?_
      refine TL.len (Rd.row 0 rfl) Try.underlying22 rfl rfl rfl ?_
      refine TL.move rfl rfl (v := SV.v s1) rfl ?_
      refine TL.len (Rd.old h1) Try.underlying22 rfl rfl rfl ?_
      refine TL.bin .i64 (r_3.length : Int) (list_1.length : Int) rfl rfl rfl rfl (v := .bool (decide ((r_3.length : Int) < (list_1.length : Int)))) rfl ?_
      refine TL.done ?_
      refine TC.cond (b := (decide ((r_3.length : Int) < (list_1.length : Int)))) rfl (fun c5 => ?_) (fun c6 => ?_)
      · refine TC.seq ?_
        refine TC.region ?_
        refine TL.assign rfl rfl (v := .int .i64 0) rfl ?_
        refine TL.assign rfl rfl (v := .int .i64 5) rfl ?_
        refine TL.done ?_
        exact TC.retF (Fin.body (fin2 (.inr rfl) rfl (.tmp rfl) (.tmp rfl) [] rfl ⟨rfl, rfl⟩))
      · refine TC.skip ?_
        refine TC.seq ?_
        refine TC.region ?_
        refine TL.assign rfl rfl (v := .int .i64 0) rfl ?_
        refine TL.done ?_
        refine TC.seq ?_
        refine TC.seq ?_
        refine TC.region ?_
        refine TL.move rfl rfl (v := SV.v s2) rfl ?_
        refine TL.len (Rd.row 0 rfl) Try.underlying22 rfl rfl rfl ?_
        refine TL.move rfl rfl (v := .int .i64 0) rfl ?_
        refine TL.done ?_
        refine TC.loop1 (σ := Int × Int) (γ := Unit) (Γ' := (fun p q => match p, q with | (sum1, x1), _ => [(0, .int .i64 p1), (1, SV.v s1), (2, .int .i64 g1), (9, .int .i64 sum1), (30, SV.v s2), (31, .int .i64 (r_3.length : Int)), (32, .int .i64 x1)])) (L' := (fun p q => match p, q with | (sum1, x1), _ => [row Ei 2 s2 r_3])) (Γb := (fun p q => match p, q with | (sum1, x1), _ => [(0, .int .i64 p1), (1, SV.v s1), (2, .int .i64 g1), (9, .int .i64 sum1), (30, SV.v s2), (31, .int .i64 (r_3.length : Int)), (32, .int .i64 x1)])) (Lb := (fun p q => match p, q with | (sum1, x1), _ => [row Ei 2 s2 r_3])) ((0, 0)) (()) ⟨rfl, rfl, rfl, rfl, rfl, rfl, rfl, trivial⟩ [0] rfl ?_ ?_
        · rintro ⟨sum1, x1⟩ _
          refine TC.seq ?_
          refine TC.region ?_
          refine TL.bin .i64 x1 (r_3.length : Int) rfl rfl rfl rfl (v := .bool (decide (x1 < (r_3.length : Int)))) rfl ?_
          refine TL.done ?_
          refine TC.seq ?_
          refine TC.cond (b := (decide (x1 < (r_3.length : Int)))) rfl (fun c7 => ?_) (fun c8 => ?_)
          · refine TC.skip ?_
            refine TC.seq ?_
            refine TC.block (NoEx.loop1 rfl) ?_
            refine TC.seq ?_
            refine TC.region ?_
            refine TL.chk fun h2 => ?_
            refine TL.ixs x1 x1.toNat (Rd.row 0 rfl) h2 Try.underlying22 Try.sizeOf2 rfl rfl rfl rfl (by omega) ?_
            refine TL.loadE (Rd.row 0 rfl) Try.isAgg2 x1.toNat 0 (gt_spec h2) (v := .int .i64 (gt r_3 x1)) rfl (by simp only [show Ei.sz = 1 from rfl] <;> omega) rfl rfl rfl ?_
            refine TL.assign rfl rfl (v := .int .i64 (gt r_3 x1)) rfl ?_
            refine TL.done ?_
            refine TC.seq ?_
            refine TC.region ?_
            refine TL.move rfl rfl (v := .int .i64 p1) rfl ?_
            refine TL.move rfl rfl (v := SV.v s1) rfl ?_
            refine TL.move rfl rfl (v := .int .i64 (gt r_3 x1)) rfl ?_
            refine TL.call (R := G.impl_slope.R) Try.call73 rfl rfl rfl (fun w hS => G.impl_slope.calls w p1 s1 list_1 (gt r_3 x1) ((Rd.old h1) w hS)) ?_
            rintro r_4 _ _ ⟨rfl, rfl⟩
            refine TL.assign rfl rfl (v := .int .i64 r_4) rfl ?_
            refine TL.done ?_
            refine TC.region ?_
            refine TL.move rfl rfl (v := .int .i64 sum1) rfl ?_
            refine TL.move rfl rfl (v := .int .i64 r_4) rfl ?_
            refine TL.move rfl rfl (v := .int .i64 p1) rfl ?_
            refine TL.call (R := G.impl_inverse.R) Try.call77 rfl rfl rfl (fun w hS => G.impl_inverse.calls w r_4 p1) ?_
            rintro r_5 _ _ ⟨rfl, rfl⟩
            refine TL.move rfl rfl (v := .int .i64 r_4) rfl ?_
            refine TL.move rfl rfl (v := .int .i64 g1) rfl ?_
            refine TL.move rfl rfl (v := .int .i64 p1) rfl ?_
            refine TL.call (R := G.impl_power.R) Try.call78 rfl rfl rfl (fun w hS => G.impl_power.calls w r_4 g1 p1) ?_
            rintro r_6 _ _ ⟨rfl, rfl⟩
            refine TL.bin .i64 r_5 r_6 rfl rfl rfl rfl (v := .int .i64 (w64 (r_5 * r_6))) rfl ?_
            refine TL.bin .i64 sum1 (w64 (r_5 * r_6)) rfl rfl rfl rfl (v := .int .i64 (w64 (sum1 + (w64 (r_5 * r_6))))) rfl ?_
            refine TL.assign rfl rfl (v := .int .i64 (w64 (sum1 + (w64 (r_5 * r_6))))) rfl ?_
            refine TL.done ?_
            refine TC.region ?_
            refine TL.bin .i64 x1 1 rfl rfl rfl rfl (v := .int .i64 (w64 (x1 + 1))) rfl ?_
            refine TL.move rfl rfl (v := .int .i64 (w64 (x1 + 1))) rfl ?_
            refine TL.done ?_
            exact TC.next1 (((w64 (sum1 + (w64 (r_5 * r_6)))), (w64 (x1 + 1)))) (()) ⟨rfl, rfl, rfl, rfl, rfl, rfl, rfl, trivial⟩ [0] rfl
          · exact TC.brk1 ((sum1, x1)) (()) ⟨rfl, rfl, rfl, rfl, rfl, rfl, rfl, trivial⟩ [0] rfl
        · rintro ⟨sum1, x1⟩ _
          refine TC.seq ?_
          refine TC.region ?_
          refine TL.move rfl rfl (v := .int .i64 sum1) rfl ?_
          refine TL.move rfl rfl (v := .int .i64 p1) rfl ?_
          refine TL.nz fun z1 => ?_
          refine TL.rem .i64 sum1 p1 z1 rfl rfl rfl rfl ?_
          refine TL.assign rfl rfl (v := .int .i64 (Int.tmod sum1 p1)) rfl ?_
          refine TL.assign rfl rfl (v := .int .i64 0) rfl ?_
          refine TL.done ?_
          exact TC.retF (Fin.body (fin2 (.inr rfl) rfl (.tmp rfl) (.tmp rfl) [] rfl ⟨rfl, rfl⟩))

end Go.Proofs.Ytiiljfpbcanphaa.G

/- laws.FnExactRootNumber, as a pure function. -/
set_option linter.unusedVariables false
namespace Go.Proofs.Ytiiljfpbcanphaa.G
open Go Go.Sx Go.Proofs

def laws_FnExactRootNumber.f (aP1 : Int) (aList1 : List Int) (aG1 : Int) : Option Bool := (bif (decide ((aList1.length : Int) > 1048576)) then some true else (G.laws_toInt64S.f aList1).bind (fun r_1 => (G.spec_RootNumber.f aP1 r_1 aG1).bind (fun p => match p with | (r_2, r_3) => (G.laws_toInt64S.f aList1).bind (fun r_4 => (G.impl_RootNumber.f aP1 r_4 aG1).bind (fun p => match p with | (r_5, r_6) => (bif ((r_5 != r_2) || (r_6 != r_3)) then some false else (G.laws_toInt64S.f aList1).bind (fun r_7 => (G.laws_eqInt64S.f r_4 r_7).bind (fun r_8 => (bif (!r_8) then some false else some true)))))))))

def laws_FnExactRootNumber.R (r : Bool) (v : Value) (L : List Asn) : Prop := v = .bool r ∧ L = []

set_option maxRecDepth 100000 in
set_option maxHeartbeats 4000000 in
theorem laws_FnExactRootNumber.calls (w : World) (aP1 : Int) (s1 : SV) (aList1 : List Int) (aG1 : Int) (h1 : Reads Ei (hp w) s1 aList1) :
    ∀ r, laws_FnExactRootNumber.f aP1 aList1 aG1 = some r → Calls Try.prog 5 #[.int .i64 aP1, SV.v s1, .int .i64 aG1] w (Ret w (laws_FnExactRootNumber.R r)) := by

  refine calls_T (n := 45) (Γ := [(0, .int .i64 aP1), (1, SV.v s1), (2, .int .i64 aG1)]) (R := laws_FnExactRootNumber.R) Try.func5 rfl rfl (Nat.le_of_ble_eq_true rfl) ⟨rfl, rfl, rfl, trivial⟩ ?_
  unfold laws_FnExactRootNumber.f
  refine TC.seq ?_
  refine TC.region ?_
  refine TL.assign rfl rfl (v := .bool false) rfl ?_
  refine TL.done ?_
  refine TC.seq ?_
  refine TC.seq ?_
  refine TC.region ?_
  refine TL.move rfl rfl (v := SV.v s1) rfl ?_
  refine TL.len (Rd.old h1) Try.underlying22 rfl rfl rfl ?_
  refine TL.bin .i64 (aList1.length : Int) 1048576 rfl rfl rfl rfl (v := .bool (decide ((aList1.length : Int) > 1048576))) rfl ?_
  refine TL.done ?_
  refine TC.cond (b := (decide ((aList1.length : Int) > 1048576))) rfl (fun c1 => ?_) (fun c2 => ?_)
  · refine TC.seq ?_
    refine TC.region ?_
    refine TL.assign rfl rfl (v := .bool true) rfl ?_
    refine TL.done ?_
    exact TC.retF (Fin.body (fin1 (.inr rfl) rfl (.tmp rfl) [] rfl ⟨rfl, rfl⟩))
  · refine TC.skip ?_
    refine TC.seq ?_
    refine TC.region ?_
    refine TL.move rfl rfl (v := .int .i64 aP1) rfl ?_
    refine TL.move rfl rfl (v := SV.v s1) rfl ?_
    refine TL.call (R := G.laws_toInt64S.R) Try.call13 rfl rfl rfl (fun w hS => G.laws_toInt64S.calls w s1 aList1 ((Rd.old h1) w hS)) ?_
    rintro r_1 _ _ ⟨s2, rfl, rfl⟩
    refine TL.move rfl rfl (v := .int .i64 aG1) rfl ?_
    refine TL.call (R := G.spec_RootNumber.R) Try.call20 rfl rfl rfl (fun w hS => G.spec_RootNumber.calls w aP1 s2 r_1 aG1 ((Rd.row 0 rfl) w hS)) ?_
    rintro ⟨r_2, r_3⟩ _ _ ⟨rfl, rfl⟩
    refine TL.move rfl rfl (v := .tuple #[.int .i64 r_2, .int .i64 r_3]) rfl ?_
    refine TL.extract rfl rfl rfl (v := .int .i64 r_2) rfl ?_
    refine TL.extract rfl rfl rfl (v := .int .i64 r_3) rfl ?_
    refine TL.assign rfl rfl (v := .int .i64 r_2) rfl ?_
    refine TL.assign rfl rfl (v := .int .i64 r_3) rfl ?_
    refine TL.done ?_
    refine TC.seq ?_
    refine TC.region ?_
    refine TL.move rfl rfl (v := SV.v s1) rfl ?_
    refine TL.call (R := G.laws_toInt64S.R) Try.call13 rfl rfl rfl (fun w hS => G.laws_toInt64S.calls w s1 aList1 ((Rd.old h1) w hS)) ?_
    rintro r_4 _ _ ⟨s3, rfl, rfl⟩
    refine TL.assign rfl rfl (v := SV.v s3) rfl ?_
    refine TL.done ?_
    refine TC.seq ?_
    refine TC.region ?_
    refine TL.move rfl rfl (v := .int .i64 aP1) rfl ?_
    refine TL.move rfl rfl (v := SV.v s3) rfl ?_
    refine TL.move rfl rfl (v := .int .i64 aG1) rfl ?_
    refine TL.call (R := G.impl_RootNumber.R) Try.call21 rfl rfl rfl (fun w hS => G.impl_RootNumber.calls w aP1 s3 r_4 aG1 ((Rd.row 0 rfl) w hS)) ?_
    rintro ⟨r_5, r_6⟩ _ _ ⟨rfl, rfl⟩
    refine TL.move rfl rfl (v := .tuple #[.int .i64 r_5, .int .i64 r_6]) rfl ?_
    refine TL.extract rfl rfl rfl (v := .int .i64 r_5) rfl ?_
    refine TL.extract rfl rfl rfl (v := .int .i64 r_6) rfl ?_
    refine TL.assign rfl rfl (v := .int .i64 r_5) rfl ?_
    refine TL.assign rfl rfl (v := .int .i64 r_6) rfl ?_
    refine TL.done ?_
    refine TC.seq ?_
    refine TC.seq ?_
    refine TC.region ?_
    refine TL.move rfl rfl (v := .int .i64 r_5) rfl ?_
    refine TL.move rfl rfl (v := .int .i64 r_2) rfl ?_
    refine TL.bin .i64 r_5 r_2 rfl rfl rfl rfl (v := .bool (r_5 != r_2)) rfl ?_
    refine TL.move rfl rfl (v := .bool (r_5 != r_2)) rfl ?_
    refine TL.cutU 4 [(39, .bool ((r_5 != r_2) || (r_6 != r_3))), (0, .int .i64 aP1), (1, SV.v s1), (2, .int .i64 aG1), (6, .bool false), (12, SV.v s1), (13, .int .i64 (aList1.length : Int)), (14, .bool (decide ((aList1.length : Int) > 1048576))), (16, .int .i64 aP1), (17, SV.v s1), (18, SV.v s2), (19, .int .i64 aG1), (20, .tuple #[.int .i64 r_2, .int .i64 r_3]), (15, .tuple #[.int .i64 r_2, .int .i64 r_3]), (21, .int .i64 r_2), (22, .int .i64 r_3), (7, .int .i64 r_2), (8, .int .i64 r_3), (23, SV.v s1), (24, SV.v s3), (9, SV.v s3), (26, .int .i64 aP1), (27, SV.v s3), (28, .int .i64 aG1), (29, .tuple #[.int .i64 r_5, .int .i64 r_6]), (25, .tuple #[.int .i64 r_5, .int .i64 r_6]), (30, .int .i64 r_5), (31, .int .i64 r_6), (10, .int .i64 r_5), (11, .int .i64 r_6), (32, .int .i64 r_5), (33, .int .i64 r_2), (34, .bool (r_5 != r_2)), (35, .bool (r_5 != r_2))] [row Ei 2 s3 r_4, row Ei 2 s2 r_1] ?_ ?_
    · refine TL.cases (t := 35) (b := (r_5 != r_2)) rfl (fun c3 => ?_) (fun c4 => ?_)
      · refine TL.skip rfl rfl (by decide) ?_
        refine TL.skip rfl rfl (by decide) ?_
        refine TL.skip rfl rfl (by decide) ?_
        refine TL.pick rfl rfl (b := true) rfl (r := .bool true) rfl ?_
        refine TL.done ?_
        exact TC.nrm () () ⟨(by rw [c3]; rfl), rfl, rfl, rfl, rfl, rfl, rfl, rfl, rfl, rfl, rfl, rfl, rfl, rfl, rfl, rfl, rfl, rfl, rfl, rfl, rfl, rfl, rfl, rfl, rfl, rfl, rfl, rfl, rfl, rfl, rfl, rfl, rfl, (by rw [c3]; rfl), trivial⟩ [0, 0] (by kernel_rfl)
      · refine TL.move rfl rfl (v := .int .i64 r_6) rfl ?_
        refine TL.move rfl rfl (v := .int .i64 r_3) rfl ?_
        refine TL.bin .i64 r_6 r_3 rfl rfl rfl rfl (v := .bool (r_6 != r_3)) rfl ?_
        refine TL.pick rfl rfl (b := false) rfl (r := .bool (r_6 != r_3)) rfl ?_
        refine TL.done ?_
        exact TC.nrm () () ⟨(by rw [c4]; rfl), rfl, rfl, rfl, rfl, rfl, rfl, rfl, rfl, rfl, rfl, rfl, rfl, rfl, rfl, rfl, rfl, rfl, rfl, rfl, rfl, rfl, rfl, rfl, rfl, rfl, rfl, rfl, rfl, rfl, rfl, rfl, rfl, (by rw [c4]; rfl), trivial⟩ [0, 0] (by kernel_rfl)
    · refine TL.done ?_
      refine TC.cond (b := ((r_5 != r_2) || (r_6 != r_3))) rfl (fun c5 => ?_) (fun c6 => ?_)
      · refine TC.seq ?_
        refine TC.region ?_
        refine TL.assign rfl rfl (v := .bool false) rfl ?_
        refine TL.done ?_
        exact TC.retF (Fin.body (fin1 (.inr rfl) rfl (.tmp rfl) [] rfl ⟨rfl, rfl⟩))
      · refine TC.skip ?_
        refine TC.seq ?_
        refine TC.seq ?_
        refine TC.region ?_
        refine TL.move rfl rfl (v := SV.v s3) rfl ?_
        refine TL.move rfl rfl (v := SV.v s1) rfl ?_
        refine TL.call (R := G.laws_toInt64S.R) Try.call13 rfl rfl rfl (fun w hS => G.laws_toInt64S.calls w s1 aList1 ((Rd.old h1) w hS)) ?_
        rintro r_7 _ _ ⟨s4, rfl, rfl⟩
        refine TL.call (R := G.laws_eqInt64S.R) Try.call15 rfl rfl rfl (fun w hS => G.laws_eqInt64S.calls w s3 r_4 s4 r_7 ((Rd.row 1 rfl) w hS) ((Rd.row 0 rfl) w hS)) ?_
        rintro r_8 _ _ ⟨rfl, rfl⟩
        refine TL.not r_8 rfl rfl rfl ?_
        refine TL.done ?_
        refine TC.cond (b := (!r_8)) rfl (fun c7 => ?_) (fun c8 => ?_)
        · refine TC.seq ?_
          refine TC.region ?_
          refine TL.assign rfl rfl (v := .bool false) rfl ?_
          refine TL.done ?_
          exact TC.retF (Fin.body (fin1 (.inr rfl) rfl (.tmp rfl) [] rfl ⟨rfl, rfl⟩))
        · refine TC.skip ?_
          refine TC.seq ?_
          refine TC.region ?_
          refine TL.assign rfl rfl (v := .bool true) rfl ?_
          refine TL.done ?_
          exact TC.retF (Fin.body (fin1 (.inr rfl) rfl (.tmp rfl) [] rfl ⟨rfl, rfl⟩))

end Go.Proofs.Ytiiljfpbcanphaa.G
