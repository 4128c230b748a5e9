/- Rows of numbers: the same as themselves; marked, and held. -/
import Derived.Test.YtcombgcjgdkbiaaPMarkInts
import Derived.Test.YtcombgcjgdkbiaaQ41
import Derived.Test.YtcombgcjgdkbiaaQ42
import Derived.Test.YtcombgcjgdkbiaaQ43
namespace Go.Proofs.Ytcombgcjgdkbiaa.G
open Go Go.Sx Go.Proofs
/-- k and all the rows' lengths. -/
def tot (k : Nat) : List (List Int) → Nat
  | [] => k
  | r :: rs => tot (k + r.length) rs
def marks (k : Nat) : List (List Int) → List (List Int)
  | [] => []
  | r :: rs => iota k r.length :: marks (k + r.length) rs
theorem marks_length (k : Nat) (a : List (List Int)) : (marks k a).length = a.length := by
  induction a generalizing k with
  | nil => rfl
  | cons r rs ih => simp [marks, ih]
theorem tot_le (k : Nat) (a : List (List Int)) : k ≤ tot k a := by
  induction a generalizing k with
  | nil => exact Nat.le_refl _
  | cons r rs ih => have := ih (k + r.length); simp only [tot]; omega
theorem tot_append (k : Nat) (a b : List (List Int)) : tot k (a ++ b) = tot (tot k a) b := by
  induction a generalizing k with
  | nil => rfl
  | cons r rs ih => simp only [List.cons_append, tot]; exact ih _
theorem marks_append (k : Nat) (a b : List (List Int)) : marks k (a ++ b) = marks k a ++ marks (tot k a) b := by
  induction a generalizing k with
  | nil => rfl
  | cons r rs ih => simp only [List.cons_append, marks, tot, ih]
theorem take_one {α : Type} {a : List α} {i : Nat} (h : i < a.length) : a.take (i + 1) = a.take i ++ [a[i]] := by rw [List.take_add_one, List.getElem?_eq_getElem h]; rfl
theorem gt_get {α : Type} [Inhabited α] {a : List α} {i : Nat} (h : i < a.length) : gt a (i : Int) = a[i] := by simp [gt, List.getD, h]
theorem tot_part (k : Nat) {a : List (List Int)} {i : Nat} (h : i < a.length) : tot k (a.take (i + 1)) = tot k (a.take i) + a[i].length := by rw [take_one h, tot_append]; rfl
theorem tot_mono (k : Nat) (a : List (List Int)) (i : Nat) : tot k (a.take i) ≤ tot k a := by
  have h : tot k a = tot (tot k (a.take i)) (a.drop i) := by rw [← tot_append, List.take_append_drop]
  rw [h]; exact tot_le _ _
theorem eqSS_refl (a : List (List Int)) (h : a.length < 1000000000000) (hr : ∀ r ∈ a, r.length < 1000000000000) : laws_eqInt64SS.f a a = some true := by
  unfold laws_eqInt64SS.f
  have e : (((a.length : Nat) : Int) != (a.length : Int)) = false := by simp
  rw [e, cond_false]
  have hl := loop_upto (f := laws_eqInt64SS.b0 a a) (fun i => (i : Int)) a.length (a.length : Int) (by omega) (fun i hi => by
    unfold laws_eqInt64SS.b0
    simp only [dlt_nat, hi, decide_true, cond_true]
    rw [chk_in (by omega), chk_in (by omega), eqS_refl _ (hr _ (by rw [gt_get hi]; exact List.getElem_mem _)), w64_succ (by omega)]
    rfl) (by
    unfold laws_eqInt64SS.b0
    simp)
  have hl' : loop (laws_eqInt64SS.b0 a a) 0 = some (.brk (a.length : Int)) := hl
  rw [hl']; rfl
theorem markSS (a : List (List Int)) (k : Nat) (h : tot k a < 1000000000000) (ha : a.length < 1000000000000) : laws_markInt64SS.f a k = some ((tot k a : Int), marks k a) := by
  unfold laws_markInt64SS.f
  have hl := loop1_upto (f := laws_markInt64SS.b0) (fun i => (marks k (a.take i) ++ a.drop i, (tot k (a.take i) : Int), (i : Int))) a.length (marks k a, (tot k a : Int), (a.length : Int)) (by omega) (fun i hi => by
    unfold laws_markInt64SS.b0
    have hm : (marks k (a.take i)).length = i := by rw [marks_length, List.length_take]; omega
    have e : (marks k (a.take i) ++ a.drop i).length = a.length := by rw [List.length_append, hm, List.length_drop]; omega
    have h1 := tot_part k hi
    have h2 := tot_mono k a (i + 1)
    simp only [e, dlt_nat, hi, decide_true, cond_true]
    have hd : a.drop i = a[i] :: a.drop (i + 1) := by rw [List.getElem_cons_drop]
    have g : gt (marks k (a.take i) ++ a.drop i) (i : Int) = a[i] := by
      rw [gt_get (by rw [e]; exact hi), List.getElem_append_right (by omega)]
      simp [hm]
    rw [chk_in (by omega), g, markS _ _ (by omega)]
    simp only [Option.bind_some, Int.toNat_natCast, w64_succ (by omega : i < 4611686018427387904)]
    have e2 : (marks k (a.take i) ++ a.drop i).set i (iota (tot k (a.take i)) a[i].length) = marks k (a.take (i + 1)) ++ a.drop (i + 1) := by
      rw [List.set_append_right _ _ (by omega), hm, Nat.sub_self, hd, List.set_cons_zero, take_one hi, marks_append]
      simp [marks]
    rw [e2, h1]) (by
    unfold laws_markInt64SS.b0
    simp [marks_length])
  have hl' : loop1 laws_markInt64SS.b0 (a, (k : Int), 0) = some (marks k a, (tot k a : Int), (a.length : Int)) := hl
  rw [hl']; rfl
theorem marks_get (k : Nat) {a : List (List Int)} {i : Nat} (h : i < a.length) : gt (marks k a) (i : Int) = iota (tot k (a.take i)) a[i].length := by
  rw [gt_get (by rw [marks_length]; exact h)]
  have h1 : a = a.take i ++ a[i] :: a.drop (i + 1) := by rw [List.getElem_cons_drop, List.take_append_drop]
  have h2 : marks k a = marks k (a.take i) ++ (iota (tot k (a.take i)) a[i].length :: marks (tot k (a.take i) + a[i].length) (a.drop (i + 1))) := by
    conv => lhs; rw [h1]
    rw [marks_append]; rfl
  have hm : (marks k (a.take i)).length = i := by rw [marks_length, List.length_take]; omega
  have h3 : (marks k a)[i]? = some (iota (tot k (a.take i)) a[i].length) := by
    rw [h2, List.getElem?_append_right (by omega), hm, Nat.sub_self]; rfl
  rw [List.getElem?_eq_getElem (by rw [marks_length]; exact h)] at h3
  exact Option.some.inj h3
theorem heldSS (a : List (List Int)) (k : Nat) (h : tot k a < 1000000000000) (ha : a.length < 1000000000000) : laws_heldInt64SS.f (marks k a) k = some (tot k a : Int) := by
  unfold laws_heldInt64SS.f
  have hl := loop_upto (f := laws_heldInt64SS.b0 (marks k a)) (fun i => ((tot k (a.take i) : Int), (i : Int))) a.length ((tot k a : Int), (a.length : Int)) (by omega) (fun i hi => by
    unfold laws_heldInt64SS.b0
    have h1 := tot_part k hi
    have h2 := tot_mono k a (i + 1)
    simp only [marks_length, dlt_nat, hi, decide_true, cond_true]
    rw [chk_in (by omega), marks_get k hi, heldS _ _ (by omega), Option.bind_some, w64_succ (by omega), ← h1]
    have hd : decide ((tot k (a.take (i + 1)) : Int) < 0) = false := decide_eq_false (by omega)
    rw [hd]; rfl) (by
    unfold laws_heldInt64SS.b0
    simp [marks_length])
  have hl' : loop (laws_heldInt64SS.b0 (marks k a)) ((k : Int), 0) = some (.brk ((tot k a : Int), (a.length : Int))) := hl
  rw [hl']; rfl
theorem tot_eq (k : Nat) (a : List (List Int)) : tot k a = k + (a.map List.length).sum := by
  induction a generalizing k with
  | nil => rfl
  | cons r rs ih => simp only [tot, ih, List.map_cons, List.sum_cons]; omega
theorem sum_le_mul (c : Nat) : ∀ (a : List (List Int)), (∀ r ∈ a, r.length ≤ c) → (a.map List.length).sum ≤ c * a.length
  | [], _ => by simp
  | r :: rs, h => by
    have h1 := sum_le_mul c rs fun x hx => h x (List.mem_cons_of_mem _ hx)
    have h2 := h r (by simp)
    simp only [List.map_cons, List.sum_cons, List.length_cons, Nat.mul_add]; omega
end Go.Proofs.Ytcombgcjgdkbiaa.G
