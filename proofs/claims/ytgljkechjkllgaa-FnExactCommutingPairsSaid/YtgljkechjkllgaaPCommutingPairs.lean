/- Both ways to count commuting pairs tell the same. -/
import Derived.Test.YtgljkechjkllgaaPIsGroup
import Derived.Test.YtgljkechjkllgaaPCopy
import Derived.Test.YtgljkechjkllgaaQ11
namespace Go.Proofs.Ytgljkechjkllgaa.G
open Go Go.Sx Go.Proofs
def comm (t : Nat → UInt8) (i j : Nat) : Bool := decide (tb t i j = tb t j i)
def cpRow (t : Nat → UInt8) (i k : Nat) : Nat := (List.range k).countP (comm t i)
def cpAll (n : Nat) (t : Nat → UInt8) (k : Nat) : Nat := ((List.range k).map fun i => cpRow t i n).sum
theorem cpRow_succ (t : Nat → UInt8) (i k : Nat) : cpRow t i (k + 1) = cpRow t i k + (bif comm t i k then 1 else 0) := by
  unfold cpRow
  rw [List.range_succ, List.countP_append]
  cases h : comm t i k <;> simp [h]
theorem cpRow_le (t : Nat → UInt8) (i k : Nat) : cpRow t i k ≤ k := by have := List.countP_le_length (p := comm t i) (l := List.range k); simpa [cpRow] using this
theorem cpAll_succ (n : Nat) (t : Nat → UInt8) (k : Nat) : cpAll n t (k + 1) = cpAll n t k + cpRow t k n := by
  unfold cpAll
  rw [List.range_succ, List.map_append, List.sum_append]
  simp
theorem cpAll_le (n : Nat) (t : Nat → UInt8) (hn : n ≤ 6) : ∀ k, cpAll n t k ≤ 6 * k
  | 0 => by simp [cpAll]
  | k + 1 => by rw [cpAll_succ]; have := cpAll_le n t hn k; have := cpRow_le t k n; omega
theorem cp_inner {f : Int × Int → Option (LB (Int × Int))} {n : Nat} (hn : n ≤ 6) (t : Nat → UInt8) (i a : Nat) (ha : a ≤ 1000)
    (hs : ∀ (o j : Nat), j < n → o ≤ 2000 → f (o, j) = some (.next (((o + (bif comm t i j then 1 else 0) : Nat) : Int), ((j + 1 : Nat) : Int)))) (hf : ∀ (o : Int), f (o, (n : Int)) = some (.brk (o, (n : Int)))) :
    loop1 f ((a : Int), 0) = some (((a + cpRow t i n : Nat) : Int), (n : Int)) := by
  have := loop1_upto (f := f) (fun j => (((a + cpRow t i j : Nat) : Int), (j : Int))) n (((a + cpRow t i n : Nat) : Int), (n : Int)) (by omega) (fun j hj => by
    have h1 := cpRow_le t i j
    rw [hs _ j hj (by omega), cpRow_succ, Nat.add_assoc]) (hf _)
  simpa [cpRow] using this
theorem cp_outer {f : Int × Int → Option (LB (Int × Int))} {n : Nat} (hn : n ≤ 6) (t : Nat → UInt8)
    (hs : ∀ (o i : Nat), i < n → o ≤ 1000 → f (o, i) = some (.next (((o + cpRow t i n : Nat) : Int), ((i + 1 : Nat) : Int)))) (hf : ∀ (o : Int), f (o, (n : Int)) = some (.brk (o, (n : Int)))) :
    loop1 f (0, 0) = some ((cpAll n t n : Int), (n : Int)) := by
  have := loop1_upto (f := f) (fun i => ((cpAll n t i : Int), (i : Int))) n ((cpAll n t n : Int), (n : Int)) (by omega) (fun i hi => by
    have h1 := cpAll_le n t hn i
    rw [hs _ i hi (by omega), cpAll_succ]) (hf _)
  simpa [cpAll] using this
theorem specCP_eq {n : Nat} (h1 : 1 ≤ n) (hn : n ≤ 6) (t : Nat → UInt8) : (loop1 (spec_CommutingPairs.b1 n t) (0, 0)) = some ((cpAll n t n : Int), (n : Int)) := by
  refine cp_outer hn t (fun o i hi ho => ?_) (fun o => ?_)
  · unfold spec_CommutingPairs.b1
    simp only [dlt_nat, hi, decide_true, cond_true]
    rw [cp_inner hn t i o ho (fun o j hj ho => ?_) (fun o => ?_)]
    · simp only [Option.bind_some]
      rw [w64_succ (by omega)]
    · unfold spec_CommutingPairs.b0
      simp only [dlt_nat, hj, decide_true, cond_true]
      rw [chk_in (by omega), chk_in (by omega), beq_nat]
      have e : decide ((t (((i : Nat) : Int).toNat * 6 + ((j : Nat) : Int).toNat)).toNat = (t (((j : Nat) : Int).toNat * 6 + ((i : Nat) : Int).toNat)).toNat) = comm t i j := rfl
      rw [e, w64_succ (by omega : j < _), w64_succ (by omega : o < _)]
      cases comm t i j <;> rfl
    · unfold spec_CommutingPairs.b0
      simp
  · unfold spec_CommutingPairs.b1
    simp
theorem implCP_eq {n : Nat} (h1 : 1 ≤ n) (hn : n ≤ 6) (t : Nat → UInt8) : (loop1 (impl_CommutingPairs.b1 n n t) (0, 0)) = some ((cpAll n t n : Int), (n : Int)) := by
  refine cp_outer hn t (fun o i hi ho => ?_) (fun o => ?_)
  · unfold impl_CommutingPairs.b1
    simp only [dlt_nat, hi, decide_true, cond_true, gn_eq, Option.bind_some]
    rw [cp_inner hn t i o ho (fun o j hj ho => ?_) (fun o => ?_)]
    · simp only [Option.bind_some]
      rw [w64_succ (by omega)]
    · unfold impl_CommutingPairs.b0
      simp only [dlt_nat, hj, decide_true, cond_true]
      rw [times_eq _ _ (by omega) (by omega), times_eq _ _ (by omega) (by omega)]
      simp only [Option.bind_some]
      rw [beq_nat]
      have e : decide (tb t i j = tb t j i) = comm t i j := rfl
      rw [e, w64_succ (by omega : j < _), w64_succ (by omega : o < _)]
      cases comm t i j <;> rfl
    · unfold impl_CommutingPairs.b0
      simp
  · unfold impl_CommutingPairs.b1
    simp
theorem cp_same (g : Int) (t : Nat → UInt8) : ∃ r, spec_CommutingPairs.f g t = some r ∧ impl_CommutingPairs.f g t = some r := by
  obtain ⟨b, h1, h2, h3⟩ := isGroup_same g t
  unfold spec_CommutingPairs.f impl_CommutingPairs.f
  rw [h1, h2]
  cases b with
  | false => exact ⟨_, rfl, rfl⟩
  | true =>
    obtain ⟨n, rfl, k1, k2, _⟩ := h3 rfl
    simp only [Option.bind_some, Bool.not_true, cond_false, gn_eq]
    rw [specCP_eq k1 k2, implCP_eq k1 k2]
    exact ⟨_, rfl, rfl⟩
theorem plain_FnExactCommutingPairs (g : Int) (t : Nat → UInt8) (_w : IntKind.i64.has g) : laws_FnExactCommutingPairs.f g t = some true := by
  obtain ⟨r, h1, h2⟩ := cp_same g (cut0 36 t)
  unfold laws_FnExactCommutingPairs.f
  simp only [toGroup_eq, Option.bind_some, h1, h2]
  simp
end Go.Proofs.Ytgljkechjkllgaa.G
