/- Surfaces copied. -/
import Derived.Test.YtnppkcemnjkboaaPl
import Derived.Test.YtnppkcemnjkboaaPCopyDeep
import Derived.Test.YtnppkcemnjkboaaQ99
import Derived.Test.YtnppkcemnjkboaaQ61
namespace Go.Proofs.Ytnppkcemnjkboaa.G
open Go Go.Sx Go.Proofs
theorem clone_eq (s : List (List Int)) (h : s.length ≤ 1000000) (hr : ∀ r ∈ s, r.length ≤ 1000000) : spec_l07Copy.f s = some s ∧ impl_cloneSurface.f s = some s := by
  have key : ∀ f : (List (List Int)) × Int → Option (LB ((List (List Int)) × Int)), (∀ (o : List (List Int)) (i : Nat), i < s.length → o.length ≤ 1000000 → f (o, (i : Int)) = some (.next (o ++ [gt s (i : Int)], ((i + 1 : Nat) : Int)))) → (∀ o, f (o, (s.length : Int)) = some (.brk (o, (s.length : Int)))) → loop1 f ([], 0) = some (s, (s.length : Int)) := by
    intro f hs hf
    have := loop1_upto (f := f) (fun i => (s.take i, (i : Int))) s.length (s, (s.length : Int)) (by omega) (fun i hi => by
      rw [hs _ i hi (by simp; omega), gt_at hi, List.take_add_one, List.getElem?_eq_getElem hi]
      rfl) (by rw [List.take_length]; exact hf s)
    simpa using this
  constructor
  · unfold spec_l07Copy.f
    rw [key _ (fun o i hi ho => by
      unfold spec_l07Copy.b0 spec_l01Own.f
      simp only [dlt_nat, hi, decide_true, cond_true]
      have := hr (gt s (i : Int)) (by rw [gt_at hi]; exact List.getElem_mem _)
      rw [chk_in (by omega), small_in (by simp; omega), Option.bind_some, small_in (by omega), w64_succ (by omega)]
      rfl) (fun o => by
      unfold spec_l07Copy.b0
      simp)]
    rfl
  · unfold impl_cloneSurface.f
    rw [key _ (fun o i hi ho => by
      unfold impl_cloneSurface.b0 slices_Clone_int64_int64.f
      simp only [dlt_nat, hi, decide_true, cond_true]
      have := hr (gt s (i : Int)) (by rw [gt_at hi]; exact List.getElem_mem _)
      rw [chk_in (by omega), small_in (by simp; omega), Option.bind_some, small_in (by omega), w64_succ (by omega)]
      rfl) (fun o => by
      unfold impl_cloneSurface.b0
      simp)]
    rfl
end Go.Proofs.Ytnppkcemnjkboaa.G
