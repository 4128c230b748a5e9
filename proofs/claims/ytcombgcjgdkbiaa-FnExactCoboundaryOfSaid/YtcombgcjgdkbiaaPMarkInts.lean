/- Slices of numbers: the same as themselves; marked, and held. -/
import Derived.Test.YtcombgcjgdkbiaaPl
import Derived.Test.YtcombgcjgdkbiaaQ18
import Derived.Test.YtcombgcjgdkbiaaQ19
import Derived.Test.YtcombgcjgdkbiaaQ20
namespace Go.Proofs.Ytcombgcjgdkbiaa.G
open Go Go.Sx Go.Proofs
theorem eqS_refl (a : List Int) (h : a.length < 1000000000000) : laws_eqInt64S.f a a = some true := by
  unfold laws_eqInt64S.f
  have e : (((a.length : Nat) : Int) != (a.length : Int)) = false := by simp
  rw [e, cond_false]
  have hl := loop_upto (f := laws_eqInt64S.b0 a a) (fun i => (i : Int)) a.length (a.length : Int) (by omega) (fun i hi => by
    unfold laws_eqInt64S.b0
    simp only [dlt_nat, hi, decide_true, cond_true]
    rw [chk_in (by omega), chk_in (by omega), w64_succ (by omega)]
    simp) (by
    unfold laws_eqInt64S.b0
    simp)
  have hl' : loop (laws_eqInt64S.b0 a a) 0 = some (.brk (a.length : Int)) := hl
  rw [hl']; rfl
/-- So many numbers from k on. -/
def iota (k n : Nat) : List Int := (List.range n).map fun i => ((k + i : Nat) : Int)
theorem iota_length (k n : Nat) : (iota k n).length = n := by simp [iota]
theorem iota_gt {k n i : Nat} (h : i < n) : gt (iota k n) (i : Int) = ((k + i : Nat) : Int) := by simp [gt, iota, List.getD, h]
theorem markS (a : List Int) (k : Nat) (h : k + a.length < 1000000000000) : laws_markInt64S.f a k = some (((k + a.length : Nat) : Int), iota k a.length) := by
  unfold laws_markInt64S.f
  have hl := loop1_upto (f := laws_markInt64S.b0) (fun i => (iota k i ++ a.drop i, ((k + i : Nat) : Int), (i : Int))) a.length (iota k a.length, ((k + a.length : Nat) : Int), (a.length : Int)) (by omega) (fun i hi => by
    unfold laws_markInt64S.b0
    have e : (iota k i ++ a.drop i).length = a.length := by rw [List.length_append, iota_length, List.length_drop]; omega
    simp only [e, dlt_nat, hi, decide_true, cond_true]
    rw [chk_in (by omega), w64_succ (by omega), w64_succ (by omega), Int.toNat_natCast]
    have e2 : (iota k i ++ a.drop i).set i ((k + i : Nat) : Int) = iota k (i + 1) ++ a.drop (i + 1) := by
      rw [List.set_append_right _ _ (by rw [iota_length]; exact Nat.le_refl _), iota_length, Nat.sub_self]
      have h3 : a.drop i = a[i] :: a.drop (i + 1) := by rw [List.getElem_cons_drop]
      rw [h3, List.set_cons_zero]
      unfold iota
      rw [List.range_succ, List.map_append]
      simp
    rw [e2]
    rfl) (by
    unfold laws_markInt64S.b0
    simp [iota_length])
  have hl' : loop1 laws_markInt64S.b0 (a, (k : Int), 0) = some (iota k a.length, ((k + a.length : Nat) : Int), (a.length : Int)) := hl
  rw [hl']; rfl
theorem heldS (k n : Nat) (h : k + n < 1000000000000) : laws_heldInt64S.f (iota k n) k = some ((k + n : Nat) : Int) := by
  unfold laws_heldInt64S.f
  have hl := loop_upto (f := laws_heldInt64S.b0 (iota k n)) (fun i => (((k + i : Nat) : Int), (i : Int))) n (((k + n : Nat) : Int), (n : Int)) (by omega) (fun i hi => by
    unfold laws_heldInt64S.b0
    simp only [iota_length, dlt_nat, hi, decide_true, cond_true]
    rw [chk_in (by omega), iota_gt hi, w64_succ (by omega), w64_succ (by omega)]
    simp
    rfl) (by
    unfold laws_heldInt64S.b0
    simp [iota_length])
  have hl' : loop (laws_heldInt64S.b0 (iota k n)) ((k : Int), 0) = some (.brk (((k + n : Nat) : Int), (n : Int))) := hl
  rw [hl']; rfl
end Go.Proofs.Ytcombgcjgdkbiaa.G
