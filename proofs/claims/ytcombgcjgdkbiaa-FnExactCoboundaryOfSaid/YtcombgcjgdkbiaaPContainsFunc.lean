/- Slices of numbers that are searched by a test. -/
import Derived.Test.YtcombgcjgdkbiaaPContains
import Derived.Test.YtcombgcjgdkbiaaQ99
namespace Go.Proofs.Ytcombgcjgdkbiaa.G
open Go Go.Sx Go.Proofs
theorem hasInts (a : List Int) (h : a.length < 10000000) (f : Int → Option Bool) (p : Int → Bool) (hf : ∀ x ∈ a, f x = some (p x)) : slices_ContainsFunc_int64_int64.f a f = some (a.any p) := by
  unfold slices_ContainsFunc_int64_int64.f slices_IndexFunc_int64_int64.f
  have hl := loop_find (f := slices_IndexFunc_int64_int64.b0 a f) (fun i => (i : Int)) a.length (fun (i : Nat) => p (gt a (i : Int))) (fun i => (i : Int)) (a.length : Int) (by omega) (fun i hi => by
    unfold slices_IndexFunc_int64_int64.b0
    simp only [dlt_nat, hi, decide_true, cond_true]
    rw [chk_in (by omega), hf _ (by rw [gt_ix hi]; exact List.getElem_mem _), Option.bind_some, w64_succ (by omega)]
    cases p (gt a (i : Int)) <;> rfl) (by
    unfold slices_IndexFunc_int64_int64.b0
    simp)
  have hl' : loop (slices_IndexFunc_int64_int64.b0 a f) 0 = _ := hl
  rw [hl', ← any_ix a p]
  exact found _ _
end Go.Proofs.Ytcombgcjgdkbiaa.G
