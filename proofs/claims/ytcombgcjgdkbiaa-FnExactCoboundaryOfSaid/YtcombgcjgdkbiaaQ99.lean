/- slices.ContainsFunc[[]int64,int64], as a pure function. -/
import Derived.Test.YtcombgcjgdkbiaaProg
import Derived.Test.YtcombgcjgdkbiaaSx9
import Derived.Test.YtcombgcjgdkbiaaQ123
set_option linter.unusedVariables false
namespace Go.Proofs.Ytcombgcjgdkbiaa.G
open Go Go.Sx Go.Proofs

def slices_ContainsFunc_int64_int64.f (s1 : List Int) (f2 : Int → Option Bool) : Option Bool := (G.slices_IndexFunc_int64_int64.f s1 f2).bind (fun r_1 => some (decide (r_1 ≥ 0)))

def slices_ContainsFunc_int64_int64.R (r : Bool) (v : Value) (L : List Asn) : Prop := v = .bool r ∧ L = []

set_option maxRecDepth 100000 in
set_option maxHeartbeats 4000000 in
theorem slices_ContainsFunc_int64_int64.calls (w : World) (s2 : SV) (s1 : List Int) (f1 : Nat) (fst1 : List Value) (cap1 : List Value) (f2 : Int → Option Bool) (h1 : Reads Ei (hp w) s2 s1) (hc1 : ∀ (args_ : Array Value) (w_ : World), (callFunc f1 args_).run Try.prog w_ = .ok (.enter f1 args_) w_) (hf1 : ∀ w_, Hle (hp w) (hp w_) → ∀ (x0_ : Int), ∀ r_, f2 x0_ = some r_ → Calls Try.prog f1 (fst1 ++ ([.int .i64 x0_] : List Value) ++ cap1).toArray w_ (Ret w_ (fun (v_ : Value) (L_ : List Asn) => v_ = .bool r_ ∧ L_ = []))) :
    ∀ r, slices_ContainsFunc_int64_int64.f s1 f2 = some r → Calls Try.prog 99 #[SV.v s2, .func (.func f1) fst1.toArray cap1.toArray] w (Ret w (slices_ContainsFunc_int64_int64.R r)) := by

  refine calls_T (n := 9) (Γ := [(0, SV.v s2), (1, .func (.func f1) fst1.toArray cap1.toArray)]) (R := slices_ContainsFunc_int64_int64.R) Try.func99 rfl rfl (Nat.le_of_ble_eq_true rfl) ⟨rfl, rfl, trivial⟩ ?_
  unfold slices_ContainsFunc_int64_int64.f
  refine TC.seq ?_
  refine TC.region ?_
  refine TL.assign rfl rfl (v := .bool false) rfl ?_
  refine TL.done ?_
  refine TC.seq ?_
  refine TC.region ?_
  refine TL.move rfl rfl (v := SV.v s2) rfl ?_
  refine TL.move rfl rfl (v := .func (.func f1) fst1.toArray cap1.toArray) rfl ?_
  refine TL.call (R := G.slices_IndexFunc_int64_int64.R) Try.call123 rfl rfl rfl (fun w hS => G.slices_IndexFunc_int64_int64.calls w s2 s1 f1 fst1 cap1 f2 ((Rd.old h1) w hS) hc1 (fun w_ hle_ => hf1 w_ (hS.iw.trans hle_))) ?_
  rintro r_1 _ _ ⟨rfl, rfl⟩
  refine TL.bin .i64 r_1 0 rfl rfl rfl rfl (v := .bool (decide (r_1 ≥ 0))) rfl ?_
  refine TL.assign rfl rfl (v := .bool (decide (r_1 ≥ 0))) rfl ?_
  refine TL.done ?_
  exact TC.retF (Fin.body (fin1 (.inr rfl) rfl (.tmp rfl) [] rfl ⟨rfl, rfl⟩))

end Go.Proofs.Ytcombgcjgdkbiaa.G
