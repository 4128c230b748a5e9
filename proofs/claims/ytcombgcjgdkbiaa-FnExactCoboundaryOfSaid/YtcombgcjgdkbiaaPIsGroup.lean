/- The program's IsGroup and the reference's tell the same. -/
import Derived.Test.YtcombgcjgdkbiaaPl
import Derived.Test.YtcombgcjgdkbiaaQ64
import Derived.Test.YtcombgcjgdkbiaaQ61
set_option linter.unusedSimpArgs false
namespace Go.Proofs.Ytcombgcjgdkbiaa.G
open Go Go.Sx Go.Proofs

/-- The entry of a table. -/
def tb (t : Nat → UInt8) (i j : Nat) : Nat := (t (i * 6 + j)).toNat
def badE (n : Nat) (t : Nat → UInt8) (i j : Nat) : Bool := if i < n ∧ j < n then decide (n ≤ tb t i j) else decide (tb t i j ≠ 0)
def badEs (n : Nat) (t : Nat → UInt8) : Bool := (List.range 6).any fun i => (List.range 6).any fun j => badE n t i j
def assocB (t : Nat → UInt8) (i j k : Nat) : Bool := decide (tb t (tb t i j) k ≠ tb t i (tb t j k))
def assocBs (n : Nat) (t : Nat → UInt8) (i : Nat) : Bool := (List.range n).any fun j => (List.range n).any fun k => assocB t i j k
def invB (n : Nat) (t : Nat → UInt8) (i : Nat) : Bool := (List.range n).any fun j => decide (tb t i j = 0 ∧ tb t j i = 0)
def unitB (t : Nat → UInt8) (i : Nat) : Bool := decide (tb t 0 i ≠ i) || decide (tb t i 0 ≠ i)
/-- What both tell, for an order in 1 .. 6. -/
def groupB (n : Nat) (t : Nat → UInt8) : Bool := !badEs n t && !((List.range n).any fun i => unitB t i || !invB n t i || assocBs n t i)

theorem in_eq (x a b : Int) : impl_in.f x a b = some (decide (x ≥ a) && decide (x ≤ b)) := by
  unfold impl_in.f
  rfl
theorem l01In_eq (x a b : Int) : spec_l01In.f x a b = some (decide (x ≥ a) && decide (x ≤ b)) := by
  unfold spec_l01In.f
  rfl
theorem gn_eq (g : Int) (t : Nat → UInt8) : impl_Group_n.f g t = some g := rfl
theorem times_eq (g : Int) (t : Nat → UInt8) {i j : Nat} (hi : i < 6) (hj : j < 6) : impl_Group_times.f g t i j = some (tb t i j : Int) := by
  unfold impl_Group_times.f
  rw [chk_in (by omega), chk_in (by omega)]
  simp [tb]

theorem badEs_entry {n : Nat} {t : Nat → UInt8} (h : badEs n t = false) {i j : Nat} (hi : i < n) (hj : j < n) (hn : n ≤ 6) : tb t i j < n := by
  unfold badEs at h
  rw [List.any_eq_false] at h
  have h1 := h i (List.mem_range.2 (by omega))
  rw [Bool.not_eq_true, List.any_eq_false] at h1
  have h2 := h1 j (List.mem_range.2 (by omega))
  simp only [badE, hi, hj, and_self, if_true, decide_eq_true_eq] at h2
  omega

theorem inverse_eq {n : Nat} (hn : n ≤ 6) (t : Nat → UInt8) {i : Nat} (hi : i < 6) : ∃ x, impl_Group_inverse.f n t i = some x ∧ decide (x < 0) = !invB n t i := by
  unfold impl_Group_inverse.f
  rw [gn_eq, Option.bind_some]
  have h := loop_find (f := impl_Group_inverse.b0 n n t i) (fun j => (j : Int)) n (fun j => decide (tb t i j = 0 ∧ tb t j i = 0)) (fun j => (j : Int)) n (by omega) (by
    intro j hj
    dsimp only [impl_Group_inverse.b0]
    rw [dlt_nat, show decide (j < n) = true by simp [hj], cond_true, times_eq _ t hi (by omega), Option.bind_some, times_eq _ t (by omega) hi, Option.bind_some]
    by_cases h1 : tb t i j = 0
    · by_cases h2 : tb t j i = 0
      · simp [beq_nat, beq_nat0, bne_nat, bne_nat0, h1, h2]
      · simp [beq_nat, beq_nat0, bne_nat, bne_nat0, h1, h2, w64_succ (show j < 4611686018427387904 by omega)]
    · simp [beq_nat, beq_nat0, bne_nat, bne_nat0, h1, w64_succ (show j < 4611686018427387904 by omega)]) (by
    dsimp only [impl_Group_inverse.b0]
    simp)
  rw [show ((0 : Int)) = ((0 : Nat) : Int) from rfl, h]
  cases hf : (List.range n).find? (fun j => decide (tb t i j = 0 ∧ tb t j i = 0)) with
  | none =>
    refine ⟨-1, rfl, ?_⟩
    have : invB n t i = false := by
      unfold invB
      rw [List.any_eq_false]; intro x hx; have := List.find?_eq_none.1 hf x hx; simpa using this
    rw [this]; rfl
  | some j =>
    refine ⟨j, rfl, ?_⟩
    have : invB n t i = true := List.any_eq_true.2 ⟨j, List.mem_of_find?_eq_some hf, by have := List.find?_some hf; exact this⟩
    rw [this]
    simp

theorem entriesOk_eq {n : Nat} (_hn : n ≤ 6) (t : Nat → UInt8) : impl_Group_entriesOk.f n t = some (!badEs n t) := by
  unfold impl_Group_entriesOk.f
  have inner : ∀ i : Nat, i < 6 → loop (impl_Group_entriesOk.b0 n t i) 0 = some (bif (List.range 6).any (badE n t i) then .ret (.ret false) else .brk 6) := by
    intro i hi
    refine loop_any (f := impl_Group_entriesOk.b0 n t i) (fun j => (j : Int)) 6 (badE n t i) (.ret false) 6 (by omega) ?_ (by dsimp only [impl_Group_entriesOk.b0]; simp)
    intro j hj
    dsimp only [impl_Group_entriesOk.b0]
    rw [show decide ((j : Int) < 6) = true by simp; omega, cond_true, chk_in (by omega), gn_eq, Option.bind_some, Option.bind_some, w64_succ (by omega)]
    have hs : ((sub t ((i : Int).toNat * 6)) (j : Int).toNat).toNat = tb t i j := by simp [sub, tb]
    rw [hs]
    by_cases h1 : i < n
    · by_cases h2 : j < n
      · by_cases h3 : n ≤ tb t i j
        · simp [beq_nat, beq_nat0, bne_nat, bne_nat0, h1, h2, h3, badE]
        · simp [beq_nat, beq_nat0, bne_nat, bne_nat0, h1, h2, h3, badE]
      · by_cases h3 : tb t i j = 0
        · simp [beq_nat, beq_nat0, bne_nat, bne_nat0, h1, h2, h3, badE]
        · simp [beq_nat, beq_nat0, bne_nat, bne_nat0, h1, h2, h3, badE]
    · by_cases h3 : tb t i j = 0
      · simp [beq_nat, beq_nat0, bne_nat, bne_nat0, h1, h3, badE]
      · simp [beq_nat, beq_nat0, bne_nat, bne_nat0, h1, h3, badE]
  have outer := loop_any (f := impl_Group_entriesOk.b1 n t) (fun i => (i : Int)) 6 (fun i => (List.range 6).any (badE n t i)) false 6 (by omega) (by
    intro i hi
    dsimp only [impl_Group_entriesOk.b1]
    rw [show decide ((i : Int) < 6) = true by simp; omega, cond_true, chk_in (by omega), inner i hi, Option.bind_some, w64_succ (by omega)]
    cases (List.range 6).any (badE n t i) <;> rfl) (by dsimp only [impl_Group_entriesOk.b1]; simp)
  rw [show ((0 : Int)) = ((0 : Nat) : Int) from rfl, outer]
  unfold badEs
  cases (List.range 6).any fun i => (List.range 6).any (badE n t i) <;> rfl

theorem implIsGroup_eq {n : Nat} (h1 : 1 ≤ n) (hn : n ≤ 6) (t : Nat → UInt8) : impl_IsGroup.f n t = some (groupB n t) := by
  unfold impl_IsGroup.f
  rw [in_eq, Option.bind_some, show (decide ((n : Int) ≥ 1) && decide ((n : Int) ≤ 6)) = true by simp; omega, entriesOk_eq hn]
  simp only [Bool.not_true, cond_false, Option.bind_some, gn_eq]
  unfold groupB
  cases hE : badEs n t with
  | true => rfl
  | false =>
    simp only [Bool.not_false, Bool.not_true, cond_false, Bool.true_and]
    have inner2 : ∀ i j : Nat, i < n → j < n → loop (impl_IsGroup.b0 n n t i j) 0 = some (bif (List.range n).any (assocB t i j) then .ret (.ret (.ret false)) else .brk n) := by
      intro i j hi hj
      refine loop_any (f := impl_IsGroup.b0 n n t i j) (fun k => (k : Int)) n (assocB t i j) (.ret (.ret false)) n (by omega) ?_ (by dsimp only [impl_IsGroup.b0]; simp)
      intro k hk
      have e1 := badEs_entry hE hi hj hn
      have e2 := badEs_entry hE hj hk hn
      dsimp only [impl_IsGroup.b0]
      rw [dlt_nat, show decide (k < n) = true by simp [hk], cond_true, times_eq _ t (by omega) (by omega), Option.bind_some, times_eq _ t (by omega) (by omega), Option.bind_some, times_eq _ t (by omega) (by omega), Option.bind_some, times_eq _ t (by omega) (by omega), Option.bind_some, w64_succ (by omega)]
      unfold assocB
      by_cases h : tb t (tb t i j) k = tb t i (tb t j k)
      · simp [h]
      · have h' : ¬ ((tb t (tb t i j) k : Int) = (tb t i (tb t j k) : Int)) := by omega
        simp [beq_nat, bne_nat, h]
    have inner1 : ∀ i : Nat, i < n → loop (impl_IsGroup.b1 n n t i) 0 = some (bif assocBs n t i then .ret (.ret false) else .brk n) := by
      intro i hi
      refine loop_any (f := impl_IsGroup.b1 n n t i) (fun j => (j : Int)) n (fun j => (List.range n).any (assocB t i j)) (.ret false) n (by omega) ?_ (by dsimp only [impl_IsGroup.b1]; simp)
      intro j hj
      dsimp only [impl_IsGroup.b1]
      rw [dlt_nat, show decide (j < n) = true by simp [hj], cond_true, gn_eq, Option.bind_some, inner2 i j hi hj, Option.bind_some, w64_succ (by omega)]
      cases (List.range n).any (assocB t i j) <;> rfl
    have outer := loop_any (f := impl_IsGroup.b2 n n t) (fun i => (i : Int)) n (fun i => unitB t i || !invB n t i || assocBs n t i) false n (by omega) (by
      intro i hi
      obtain ⟨x, hx1, hx2⟩ := inverse_eq hn t (show i < 6 by omega)
      dsimp only [impl_IsGroup.b2]
      have z : ((0 : Int)) = ((0 : Nat) : Int) := rfl
      rw [dlt_nat, show decide (i < n) = true by simp [hi], cond_true, z, times_eq _ t (by omega) (by omega), Option.bind_some, times_eq _ t (by omega) (by omega), Option.bind_some, hx1, Option.bind_some, ← z, hx2, gn_eq, Option.bind_some, inner1 i hi, Option.bind_some, w64_succ (by omega)]
      unfold unitB
      by_cases g1 : tb t 0 i = i
      · have g1' : ((tb t 0 i : Int) = (i : Int)) := by omega
        by_cases g2 : tb t i 0 = i
        · have g2' : ((tb t i 0 : Int) = (i : Int)) := by omega
          cases invB n t i <;> cases assocBs n t i <;> simp [beq_nat, bne_nat, g1, g2, ln]
        · have g2' : ¬ ((tb t i 0 : Int) = (i : Int)) := by omega
          cases invB n t i <;> cases assocBs n t i <;> simp [beq_nat, bne_nat, g1, g2, ln]
      · have g1' : ¬ ((tb t 0 i : Int) = (i : Int)) := by omega
        cases invB n t i <;> cases assocBs n t i <;> simp [beq_nat, bne_nat, g1, ln]) (by dsimp only [impl_IsGroup.b2]; simp)
    rw [show ((0 : Int)) = ((0 : Nat) : Int) from rfl, outer]
    cases (List.range n).any fun i => unitB t i || !invB n t i || assocBs n t i <;> rfl

theorem u8z (x : UInt8) : (((x.toNat : Int)) != ((0 : UInt8).toNat : Int)) = decide (x.toNat ≠ 0) := by
  rw [Bool.eq_iff_iff]
  simp only [bne_iff_ne, ne_eq, decide_eq_true_eq]
  show (¬ (x.toNat : Int) = 0) ↔ _
  omega
theorem u8z' (x : UInt8) : (((x.toNat : Int)) == ((0 : UInt8).toNat : Int)) = decide (x.toNat = 0) := by
  rw [Bool.eq_iff_iff]
  simp only [beq_iff_eq, decide_eq_true_eq]
  show ((x.toNat : Int) = 0) ↔ _
  omega

theorem specIsGroup_eq {n : Nat} (h1 : 1 ≤ n) (hn : n ≤ 6) (t : Nat → UInt8) : spec_l06Is.f n t = some (groupB n t) := by
  unfold spec_l06Is.f
  rw [l01In_eq, Option.bind_some, show (decide ((n : Int) ≥ 1) && decide ((n : Int) ≤ 6)) = true by simp; omega]
  simp only [Bool.not_true, cond_false]
  have e0 : ∀ i : Nat, i < 6 → loop (spec_l06Is.b0 i n t) 0 = some (bif (List.range 6).any (badE n t i) then .ret (.ret false) else .brk 6) := by
    intro i hi
    refine loop_any (f := spec_l06Is.b0 i n t) (fun j => (j : Int)) 6 (badE n t i) (.ret false) 6 (by omega) ?_ (by dsimp only [spec_l06Is.b0]; simp)
    intro j hj
    dsimp only [spec_l06Is.b0]
    rw [show decide ((j : Int) < 6) = true by simp; omega, cond_true, chk_in (by omega), chk_in (by omega), chk_in (by omega), chk_in (by omega), w64_succ (by omega), u8z]
    have hs : (t ((i : Int).toNat * 6 + (j : Int).toNat)).toNat = tb t i j := by simp [tb]
    rw [hs]
    by_cases h1 : i < n
    · by_cases h2 : j < n
      · by_cases h3 : n ≤ tb t i j
        · simp [beq_nat, beq_nat0, bne_nat, bne_nat0, h1, h2, h3, badE, jn, show ¬ n ≤ i by omega, show ¬ n ≤ j by omega]
        · simp [beq_nat, beq_nat0, bne_nat, bne_nat0, h1, h2, h3, badE, jn, show ¬ n ≤ i by omega, show ¬ n ≤ j by omega]
      · by_cases h3 : tb t i j = 0
        · simp [beq_nat, beq_nat0, bne_nat, bne_nat0, h1, h2, h3, badE, jn, show n ≤ j by omega]
        · simp [beq_nat, beq_nat0, bne_nat, bne_nat0, h1, h2, h3, badE, jn, show n ≤ j by omega]
    · by_cases h3 : tb t i j = 0
      · simp [beq_nat, beq_nat0, bne_nat, bne_nat0, h1, h3, badE, jn, show n ≤ i by omega]
      · simp [beq_nat, beq_nat0, bne_nat, bne_nat0, h1, h3, badE, jn, show n ≤ i by omega]
  have e1 := loop_any (f := spec_l06Is.b1 n t) (fun i => (i : Int)) 6 (fun i => (List.range 6).any (badE n t i)) false 6 (by omega) (by
    intro i hi
    dsimp only [spec_l06Is.b1]
    rw [show decide ((i : Int) < 6) = true by simp; omega, cond_true, e0 i hi, Option.bind_some, w64_succ (by omega)]
    cases (List.range 6).any (badE n t i) <;> rfl) (by dsimp only [spec_l06Is.b1]; simp)
  have z : ((0 : Int)) = ((0 : Nat) : Int) := rfl
  rw [z, e1]
  have hbe : ((List.range 6).any fun i => (List.range 6).any (badE n t i)) = badEs n t := rfl
  rw [hbe, Option.bind_some]
  unfold groupB
  cases hE : badEs n t with
  | true => rfl
  | false =>
    simp only [Bool.not_false, Bool.true_and, cond_false, ln]
    have e2 : ∀ i j : Nat, i < n → j < n → loop (spec_l06Is.b2 n i j t) ((0 : Nat) : Int) = some (bif (List.range n).any (assocB t i j) then .ret (.ret (.ret false)) else .brk n) := by
      intro i j hi hj
      refine loop_any (f := spec_l06Is.b2 n i j t) (fun k => (k : Int)) n (assocB t i j) (.ret (.ret false)) n (by omega) ?_ (by dsimp only [spec_l06Is.b2]; simp)
      intro k hk
      have a1 := badEs_entry hE hi hj hn
      have a2 := badEs_entry hE hj hk hn
      dsimp only [spec_l06Is.b2]
      have s1 : (t ((i : Int).toNat * 6 + (j : Int).toNat)).toNat = tb t i j := by simp [tb]
      have s2 : (t ((j : Int).toNat * 6 + (k : Int).toNat)).toNat = tb t j k := by simp [tb]
      rw [s1, s2, dlt_nat, show decide (k < n) = true by simp [hk], cond_true, chk_in (by omega), chk_in (by omega), chk_in (by omega), chk_in (by omega), chk_in (by omega), w64_succ (by omega)]
      have s3 : (t (tb t i j * 6 + (k : Int).toNat)).toNat = tb t (tb t i j) k := by simp [tb]
      have s4 : (t ((i : Int).toNat * 6 + tb t j k)).toNat = tb t i (tb t j k) := by simp [tb]
      rw [s3, s4]
      unfold assocB
      by_cases h : tb t (tb t i j) k = tb t i (tb t j k)
      · simp [h]
      · have h' : ¬ ((tb t (tb t i j) k : Int) = (tb t i (tb t j k) : Int)) := by omega
        simp [beq_nat, bne_nat, h]
    have e3 : ∀ i : Nat, i < n → loop (spec_l06Is.b3 n i t) (false, ((0 : Nat) : Int)) = some (bif assocBs n t i then .ret (.ret false) else .brk (invB n t i, (n : Int))) := by
      intro i hi
      have := loop_any (f := spec_l06Is.b3 n i t) (fun j => ((List.range j).any fun j => decide (tb t i j = 0 ∧ tb t j i = 0), (j : Int))) n (fun j => (List.range n).any (assocB t i j)) (.ret false) (invB n t i, (n : Int)) (by omega) (by
        intro j hj
        dsimp only [spec_l06Is.b3]
        have s1 : (t ((i : Int).toNat * 6 + (j : Int).toNat)).toNat = tb t i j := by simp [tb]
        have s2 : (t ((j : Int).toNat * 6 + (i : Int).toNat)).toNat = tb t j i := by simp [tb]
        rw [dlt_nat, show decide (j < n) = true by simp [hj], cond_true, chk_in (by omega), chk_in (by omega), u8z', u8z', s1, s2, w64_succ (by omega), List.range_succ, List.any_append, z]
        have e2' := e2 i j hi hj
        cases (List.range j).any fun j => decide (tb t i j = 0 ∧ tb t j i = 0) with
        | true =>
          simp only [cond_true, Option.bind_some, e2', Bool.true_or]
          cases (List.range n).any (assocB t i j) <;> rfl
        | false =>
          simp only [cond_false, Option.bind_some, e2', Bool.false_or, List.any_cons, List.any_nil, Bool.or_false, Bool.decide_and]
          cases (List.range n).any (assocB t i j) <;> rfl) (by dsimp only [spec_l06Is.b3]; simp [invB])
      exact this
    have e4 := loop_any (f := spec_l06Is.b4 n t) (fun i => (i : Int)) n (fun i => unitB t i || !invB n t i || assocBs n t i) false n (by omega) (by
      intro i hi
      dsimp only [spec_l06Is.b4]
      rw [dlt_nat, show decide (i < n) = true by simp [hi], cond_true, z, e3 i hi, Option.bind_some, w64_succ (by omega)]
      cases hA : assocBs n t i with
      | true => simp [ln]
      | false =>
        simp only [cond_false, ln, Bool.or_false]
        rw [chk_in (by omega), chk_in (by omega)]
        have s1 : (t (i : Int).toNat).toNat = tb t 0 i := by simp [tb]
        have s2 : (t ((i : Int).toNat * 6)).toNat = tb t i 0 := by simp [tb]
        rw [s1, s2]
        unfold unitB
        by_cases g1 : tb t 0 i = i
        · have g1' : ((tb t 0 i : Int) = (i : Int)) := by omega
          by_cases g2 : tb t i 0 = i
          · have g2' : ((tb t i 0 : Int) = (i : Int)) := by omega
            cases invB n t i <;> simp [beq_nat, bne_nat, g1, g2]
          · have g2' : ¬ ((tb t i 0 : Int) = (i : Int)) := by omega
            cases invB n t i <;> simp [beq_nat, bne_nat, g1, g2]
        · have g1' : ¬ ((tb t 0 i : Int) = (i : Int)) := by omega
          cases invB n t i <;> simp [beq_nat, bne_nat, g1]) (by dsimp only [spec_l06Is.b4]; simp)
    rw [e4, Option.bind_some]
    cases (List.range n).any fun i => unitB t i || !invB n t i || assocBs n t i <;> rfl

theorem isGroup_out {g : Int} (h : ¬ (1 ≤ g ∧ g ≤ 6)) (t : Nat → UInt8) : spec_l06Is.f g t = some false ∧ impl_IsGroup.f g t = some false := by
  have hb : (decide (g ≥ 1) && decide (g ≤ 6)) = false := by
    rw [Bool.and_eq_false_iff]
    simp only [decide_eq_false_iff_not]
    omega
  constructor
  · unfold spec_l06Is.f
    rw [l01In_eq, Option.bind_some, hb]; rfl
  · unfold impl_IsGroup.f
    rw [in_eq, Option.bind_some, hb]; rfl

/-- Both tell the same, and where they tell yes the order is in 1 .. 6. -/
theorem isGroup_same (g : Int) (t : Nat → UInt8) : ∃ b, spec_l06Is.f g t = some b ∧ impl_IsGroup.f g t = some b ∧ (b = true → ∃ n : Nat, g = n ∧ 1 ≤ n ∧ n ≤ 6 ∧ groupB n t = true) := by
  by_cases h : 1 ≤ g ∧ g ≤ 6
  · obtain ⟨n, rfl⟩ := Int.eq_ofNat_of_zero_le (show 0 ≤ g by omega)
    exact ⟨groupB n t, specIsGroup_eq (by omega) (by omega) t, implIsGroup_eq (by omega) (by omega) t, fun hb => ⟨n, rfl, by omega, by omega, hb⟩⟩
  · exact ⟨false, (isGroup_out h t).1, (isGroup_out h t).2, fun h => by cases h⟩
end Go.Proofs.Ytcombgcjgdkbiaa.G
