/- Plain laws. -/
import Derived.Test.YtcombgcjgdkbiaaMTwistedAlgebra5
import Derived.ProofKit
import Derived.OpenShut
import Derived.ShutString
import Derived.ChangeOld
import Derived.Carry
import Derived.SizedLaws
import Derived.ChangeSlices
import Derived.Deep.Matrix
/- Pl: plain laws of the loops, and of whole numbers. -/
namespace Go.Sx

theorem loopN_mono {σ ρ : Type} {f : σ → Option (LR σ ρ)} : ∀ {k s o}, loopN f k s = some o → ∀ {k'}, k ≤ k' → loopN f k' s = some o
  | 0, _, _, h, _, _ => by cases h
  | k + 1, s, o, h, k', hk => by
    obtain ⟨j, rfl⟩ : ∃ j, k' = j + 1 := ⟨k' - 1, by omega⟩
    simp only [loopN] at h ⊢
    split at h
    · cases h
    · exact loopN_mono h (by omega)
    · exact h
    · exact h

theorem loop_run {σ ρ : Type} {f : σ → Option (LR σ ρ)} (Inv : σ → Prop) (m : σ → Nat) (Q : LO σ ρ → Prop)
    (h : ∀ s, Inv s → (∃ s', f s = some (.next s') ∧ Inv s' ∧ m s' < m s) ∨ (∃ s', f s = some (.brk s') ∧ Q (.brk s')) ∨ (∃ r, f s = some (.ret r) ∧ Q (.ret r)))
    (s : σ) (hs : Inv s) (hm : m s < 4611686018427387904) : ∃ o, loop f s = some o ∧ Q o := by
  have key : ∀ k s, Inv s → m s < k → ∃ o, loopN f k s = some o ∧ Q o := by
    intro k
    induction k with
    | zero => intro s _ h; omega
    | succ k ih =>
      intro s hs hm
      rcases h s hs with ⟨s', h1, h2, h3⟩ | ⟨s', h1, h2⟩ | ⟨r, h1, h2⟩
      · obtain ⟨o, ho, hq⟩ := ih s' h2 (by omega)
        exact ⟨o, by simp only [loopN, h1]; exact ho, hq⟩
      · exact ⟨_, by simp only [loopN, h1], h2⟩
      · exact ⟨_, by simp only [loopN, h1], h2⟩
  obtain ⟨o, ho, hq⟩ := key (m s + 1) s hs (by omega)
  exact ⟨o, loopN_mono ho (by unfold FUEL; omega), hq⟩

theorem loop1_of {σ : Type} {f : σ → Option (LB σ)} {s s' : σ} (h : loop (ρ := Empty) (fun s => (f s).map LB.lr) s = some (.brk s')) : loop1 f s = some s' := by
  unfold loop1; rw [h]

theorem loop1_run {σ : Type} {f : σ → Option (LB σ)} (Inv : σ → Prop) (m : σ → Nat) (Q : σ → Prop)
    (h : ∀ s, Inv s → (∃ s', f s = some (.next s') ∧ Inv s' ∧ m s' < m s) ∨ (∃ s', f s = some (.brk s') ∧ Q s'))
    (s : σ) (hs : Inv s) (hm : m s < 4611686018427387904) : ∃ o, loop1 f s = some o ∧ Q o := by
  obtain ⟨o, ho, hq⟩ := loop_run (ρ := Empty) (f := fun s => (f s).map LB.lr) Inv m (fun o => match o with | .brk s => Q s | .ret r => nomatch r) (by
    intro s hs
    rcases h s hs with ⟨s', h1, h2, h3⟩ | ⟨s', h1, h2⟩
    · exact .inl ⟨s', by rw [h1]; rfl, h2, h3⟩
    · exact .inr (.inl ⟨s', by rw [h1]; rfl, h2⟩)) s hs hm
  cases o with
  | brk s' => exact ⟨s', loop1_of ho, hq⟩
  | ret r => exact nomatch r

theorem loop_of {σ ρ : Type} {f : σ → Option (LR σ ρ)} {s : σ} {o : LO σ ρ} {k : Nat} (h : loopN f k s = some o) (hk : k ≤ 4611686018427387904) : loop f s = some o :=
  loopN_mono h (by unfold FUEL; omega)

/-- A loop that counts up to n, and leaves by its end. -/
theorem loop_upto {σ ρ : Type} {f : σ → Option (LR σ ρ)} (S : Nat → σ) (n : Nat) (b : σ) (hn : n < 4611686018427387904) (step : ∀ i, i < n → f (S i) = some (.next (S (i + 1)))) (fin : f (S n) = some (.brk b)) : loop f (S 0) = some (.brk b) := by
  have key : ∀ d i, i + d = n → loopN f (d + 1) (S i) = some (.brk b) := by
    intro d
    induction d with
    | zero => intro i hi; obtain rfl : i = n := by omega
              simp only [loopN, fin]
    | succ d ih => intro i hi; rw [loopN, step i (by omega)]; exact ih (i + 1) (by omega)
  exact loop_of (key n 0 (by omega)) (by omega)
theorem loop1_upto {σ : Type} {f : σ → Option (LB σ)} (S : Nat → σ) (n : Nat) (b : σ) (hn : n < 4611686018427387904) (step : ∀ i, i < n → f (S i) = some (.next (S (i + 1)))) (fin : f (S n) = some (.brk b)) : loop1 f (S 0) = some b :=
  loop1_of (loop_upto (ρ := Empty) (f := fun s => (f s).map LB.lr) S n b hn (fun i hi => by rw [step i hi]; rfl) (by rw [fin]; rfl))

/-- A loop that counts up to n and looks for something. -/
theorem loop_find {σ ρ : Type} {f : σ → Option (LR σ ρ)} (S : Nat → σ) (n : Nat) (bad : Nat → Bool) (r : Nat → ρ) (b : σ) (hn : n < 4611686018427387904)
    (step : ∀ i, i < n → f (S i) = some (bif bad i then .ret (r i) else .next (S (i + 1)))) (fin : f (S n) = some (.brk b)) :
    loop f (S 0) = some (match (List.range n).find? bad with | some i => .ret (r i) | none => .brk b) := by
  have key : ∀ d i, i + d = n → loopN f (d + 1) (S i) = some (match (List.range' i d).find? bad with | some i => .ret (r i) | none => .brk b) := by
    intro d
    induction d with
    | zero => intro i hi; obtain rfl : i = n := by omega
              simp only [loopN, fin]; rfl
    | succ d ih =>
      intro i hi
      rw [loopN, step i (by omega), List.range'_succ, List.find?_cons]
      cases hb : bad i with
      | true => rfl
      | false => exact ih (i + 1) (by omega)
  rw [List.range_eq_range']
  exact loop_of (key n 0 (by omega)) (by omega)
theorem loop_any {σ ρ : Type} {f : σ → Option (LR σ ρ)} (S : Nat → σ) (n : Nat) (bad : Nat → Bool) (r : ρ) (b : σ) (hn : n < 4611686018427387904)
    (step : ∀ i, i < n → f (S i) = some (bif bad i then .ret r else .next (S (i + 1)))) (fin : f (S n) = some (.brk b)) :
    loop f (S 0) = some (bif (List.range n).any bad then .ret r else .brk b) := by
  rw [loop_find S n bad (fun _ => r) b hn step fin]
  cases hf : (List.range n).find? bad with
  | none =>
    have : (List.range n).any bad = false := by
      rw [List.any_eq_false]; intro x hx; have := List.find?_eq_none.1 hf x hx; simpa using this
    rw [this]; rfl
  | some i =>
    have : (List.range n).any bad = true := List.any_eq_true.2 ⟨i, List.mem_of_find?_eq_some hf, List.find?_some hf⟩
    rw [this]; rfl

theorem w64_in {x : Int} (h : -9223372036854775808 ≤ x ∧ x ≤ 9223372036854775807) : w64 x = x := IntWalk.i64_in x h
theorem w64_succ {i : Nat} (h : i < 4611686018427387904) : w64 ((i : Int) + 1) = ((i + 1 : Nat) : Int) := by rw [w64_in (by omega)]; omega
theorem w64_pred {i : Nat} (h : i < 4611686018427387904) : w64 (((i + 1 : Nat) : Int) - 1) = (i : Int) := by rw [w64_in (by omega)]; omega
theorem chk_in {α : Type} {i : Int} {n : Nat} {k : Option α} (h : 0 ≤ i ∧ i < n) : chk i n k = k := if_pos h
theorem nz_in {α : Type} {b : Int} {k : Option α} (h : b ≠ 0) : nz b k = k := if_neg h
theorem small_in {α : Type} {n : Nat} {k : Option α} (h : n ≤ 1099511627776) : small n k = k := if_pos h
theorem dlt_nat (i n : Nat) : decide ((i : Int) < (n : Int)) = decide (i < n) := by simp
theorem beq_nat (a b : Nat) : ((a : Int) == (b : Int)) = decide (a = b) := by rw [Bool.eq_iff_iff]; simp; omega
theorem beq_nat0 (a : Nat) : ((a : Int) == 0) = decide (a = 0) := by rw [Bool.eq_iff_iff]; simp
theorem bne_nat (a b : Nat) : ((a : Int) != (b : Int)) = !decide (a = b) := by rw [bne, beq_nat]
theorem bne_nat0 (a : Nat) : ((a : Int) != 0) = !decide (a = 0) := by rw [bne, beq_nat0]
theorem any_congr {n : Nat} {p q : Nat → Bool} (h : ∀ i, i < n → p i = q i) : (List.range n).any p = (List.range n).any q := by
  rw [Bool.eq_iff_iff]
  simp only [List.any_eq_true, List.mem_range]
  constructor
  · rintro ⟨i, hi, hp⟩; exact ⟨i, hi, by rw [← h i hi]; exact hp⟩
  · rintro ⟨i, hi, hp⟩; exact ⟨i, hi, by rw [h i hi]; exact hp⟩
end Go.Sx

/- The program's IsGroup and the reference's tell the same. -/
set_option linter.unusedSimpArgs false
namespace Go.Proofs.Ytcombgcjgdkbiaa.G
open Go Go.Sx Go.Proofs

/-- The entry of a table. -/
def tb (t : Nat → UInt8) (i j : Nat) : Nat := (t (i * 6 + j)).toNat
def badE (n : Nat) (t : Nat → UInt8) (i j : Nat) : Bool := if i < n ∧ j < n then decide (n ≤ tb t i j) else decide (tb t i j ≠ 0)
def badEs (n : Nat) (t : Nat → UInt8) : Bool := (List.range 6).any fun i => (List.range 6).any fun j => badE n t i j
def assocB (t : Nat → UInt8) (i j k : Nat) : Bool := decide (tb t (tb t i j) k ≠ tb t i (tb t j k))
def assocBs (n : Nat) (t : Nat → UInt8) (i : Nat) : Bool := (List.range n).any fun j => (List.range n).any fun k => assocB t i j k
def invB (n : Nat) (t : Nat → UInt8) (i : Nat) : Bool := (List.range n).any fun j => decide (tb t i j = 0 ∧ tb t j i = 0)
def unitB (t : Nat → UInt8) (i : Nat) : Bool := decide (tb t 0 i ≠ i) || decide (tb t i 0 ≠ i)
/-- What both tell, for an order in 1 .. 6. -/
def groupB (n : Nat) (t : Nat → UInt8) : Bool := !badEs n t && !((List.range n).any fun i => unitB t i || !invB n t i || assocBs n t i)

theorem in_eq (x a b : Int) : impl_in.f x a b = some (decide (x ≥ a) && decide (x ≤ b)) := by
  unfold impl_in.f
  rfl
theorem l01In_eq (x a b : Int) : spec_l01In.f x a b = some (decide (x ≥ a) && decide (x ≤ b)) := by
  unfold spec_l01In.f
  rfl
theorem gn_eq (g : Int) (t : Nat → UInt8) : impl_Group_n.f g t = some g := rfl
theorem times_eq (g : Int) (t : Nat → UInt8) {i j : Nat} (hi : i < 6) (hj : j < 6) : impl_Group_times.f g t i j = some (tb t i j : Int) := by
  unfold impl_Group_times.f
  rw [chk_in (by omega), chk_in (by omega)]
  simp [tb]

theorem badEs_entry {n : Nat} {t : Nat → UInt8} (h : badEs n t = false) {i j : Nat} (hi : i < n) (hj : j < n) (hn : n ≤ 6) : tb t i j < n := by
  unfold badEs at h
  rw [List.any_eq_false] at h
  have h1 := h i (List.mem_range.2 (by omega))
  rw [Bool.not_eq_true, List.any_eq_false] at h1
  have h2 := h1 j (List.mem_range.2 (by omega))
  simp only [badE, hi, hj, and_self, if_true, decide_eq_true_eq] at h2
  omega

theorem inverse_eq {n : Nat} (hn : n ≤ 6) (t : Nat → UInt8) {i : Nat} (hi : i < 6) : ∃ x, impl_Group_inverse.f n t i = some x ∧ decide (x < 0) = !invB n t i := by
  unfold impl_Group_inverse.f
  rw [gn_eq, Option.bind_some]
  have h := loop_find (f := impl_Group_inverse.b0 n n t i) (fun j => (j : Int)) n (fun j => decide (tb t i j = 0 ∧ tb t j i = 0)) (fun j => (j : Int)) n (by omega) (by
    intro j hj
    dsimp only [impl_Group_inverse.b0]
    rw [dlt_nat, show decide (j < n) = true by simp [hj], cond_true, times_eq _ t hi (by omega), Option.bind_some, times_eq _ t (by omega) hi, Option.bind_some]
    by_cases h1 : tb t i j = 0
    · by_cases h2 : tb t j i = 0
      · simp [beq_nat, beq_nat0, bne_nat, bne_nat0, h1, h2]
      · simp [beq_nat, beq_nat0, bne_nat, bne_nat0, h1, h2, w64_succ (show j < 4611686018427387904 by omega)]
    · simp [beq_nat, beq_nat0, bne_nat, bne_nat0, h1, w64_succ (show j < 4611686018427387904 by omega)]) (by
    dsimp only [impl_Group_inverse.b0]
    simp)
  rw [show ((0 : Int)) = ((0 : Nat) : Int) from rfl, h]
  cases hf : (List.range n).find? (fun j => decide (tb t i j = 0 ∧ tb t j i = 0)) with
  | none =>
    refine ⟨-1, rfl, ?_⟩
    have : invB n t i = false := by
      unfold invB
      rw [List.any_eq_false]; intro x hx; have := List.find?_eq_none.1 hf x hx; simpa using this
    rw [this]; rfl
  | some j =>
    refine ⟨j, rfl, ?_⟩
    have : invB n t i = true := List.any_eq_true.2 ⟨j, List.mem_of_find?_eq_some hf, by have := List.find?_some hf; exact this⟩
    rw [this]
    simp

theorem entriesOk_eq {n : Nat} (_hn : n ≤ 6) (t : Nat → UInt8) : impl_Group_entriesOk.f n t = some (!badEs n t) := by
  unfold impl_Group_entriesOk.f
  have inner : ∀ i : Nat, i < 6 → loop (impl_Group_entriesOk.b0 n t i) 0 = some (bif (List.range 6).any (badE n t i) then .ret (.ret false) else .brk 6) := by
    intro i hi
    refine loop_any (f := impl_Group_entriesOk.b0 n t i) (fun j => (j : Int)) 6 (badE n t i) (.ret false) 6 (by omega) ?_ (by dsimp only [impl_Group_entriesOk.b0]; simp)
    intro j hj
    dsimp only [impl_Group_entriesOk.b0]
    rw [show decide ((j : Int) < 6) = true by simp; omega, cond_true, chk_in (by omega), gn_eq, Option.bind_some, Option.bind_some, w64_succ (by omega)]
    have hs : ((sub t ((i : Int).toNat * 6)) (j : Int).toNat).toNat = tb t i j := by simp [sub, tb]
    rw [hs]
    by_cases h1 : i < n
    · by_cases h2 : j < n
      · by_cases h3 : n ≤ tb t i j
        · simp [beq_nat, beq_nat0, bne_nat, bne_nat0, h1, h2, h3, badE]
        · simp [beq_nat, beq_nat0, bne_nat, bne_nat0, h1, h2, h3, badE]
      · by_cases h3 : tb t i j = 0
        · simp [beq_nat, beq_nat0, bne_nat, bne_nat0, h1, h2, h3, badE]
        · simp [beq_nat, beq_nat0, bne_nat, bne_nat0, h1, h2, h3, badE]
    · by_cases h3 : tb t i j = 0
      · simp [beq_nat, beq_nat0, bne_nat, bne_nat0, h1, h3, badE]
      · simp [beq_nat, beq_nat0, bne_nat, bne_nat0, h1, h3, badE]
  have outer := loop_any (f := impl_Group_entriesOk.b1 n t) (fun i => (i : Int)) 6 (fun i => (List.range 6).any (badE n t i)) false 6 (by omega) (by
    intro i hi
    dsimp only [impl_Group_entriesOk.b1]
    rw [show decide ((i : Int) < 6) = true by simp; omega, cond_true, chk_in (by omega), inner i hi, Option.bind_some, w64_succ (by omega)]
    cases (List.range 6).any (badE n t i) <;> rfl) (by dsimp only [impl_Group_entriesOk.b1]; simp)
  rw [show ((0 : Int)) = ((0 : Nat) : Int) from rfl, outer]
  unfold badEs
  cases (List.range 6).any fun i => (List.range 6).any (badE n t i) <;> rfl

theorem implIsGroup_eq {n : Nat} (h1 : 1 ≤ n) (hn : n ≤ 6) (t : Nat → UInt8) : impl_IsGroup.f n t = some (groupB n t) := by
  unfold impl_IsGroup.f
  rw [in_eq, Option.bind_some, show (decide ((n : Int) ≥ 1) && decide ((n : Int) ≤ 6)) = true by simp; omega, entriesOk_eq hn]
  simp only [Bool.not_true, cond_false, Option.bind_some, gn_eq]
  unfold groupB
  cases hE : badEs n t with
  | true => rfl
  | false =>
    simp only [Bool.not_false, Bool.not_true, cond_false, Bool.true_and]
    have inner2 : ∀ i j : Nat, i < n → j < n → loop (impl_IsGroup.b0 n n t i j) 0 = some (bif (List.range n).any (assocB t i j) then .ret (.ret (.ret false)) else .brk n) := by
      intro i j hi hj
      refine loop_any (f := impl_IsGroup.b0 n n t i j) (fun k => (k : Int)) n (assocB t i j) (.ret (.ret false)) n (by omega) ?_ (by dsimp only [impl_IsGroup.b0]; simp)
      intro k hk
      have e1 := badEs_entry hE hi hj hn
      have e2 := badEs_entry hE hj hk hn
      dsimp only [impl_IsGroup.b0]
      rw [dlt_nat, show decide (k < n) = true by simp [hk], cond_true, times_eq _ t (by omega) (by omega), Option.bind_some, times_eq _ t (by omega) (by omega), Option.bind_some, times_eq _ t (by omega) (by omega), Option.bind_some, times_eq _ t (by omega) (by omega), Option.bind_some, w64_succ (by omega)]
      unfold assocB
      by_cases h : tb t (tb t i j) k = tb t i (tb t j k)
      · simp [h]
      · have h' : ¬ ((tb t (tb t i j) k : Int) = (tb t i (tb t j k) : Int)) := by omega
        simp [beq_nat, bne_nat, h]
    have inner1 : ∀ i : Nat, i < n → loop (impl_IsGroup.b1 n n t i) 0 = some (bif assocBs n t i then .ret (.ret false) else .brk n) := by
      intro i hi
      refine loop_any (f := impl_IsGroup.b1 n n t i) (fun j => (j : Int)) n (fun j => (List.range n).any (assocB t i j)) (.ret false) n (by omega) ?_ (by dsimp only [impl_IsGroup.b1]; simp)
      intro j hj
      dsimp only [impl_IsGroup.b1]
      rw [dlt_nat, show decide (j < n) = true by simp [hj], cond_true, gn_eq, Option.bind_some, inner2 i j hi hj, Option.bind_some, w64_succ (by omega)]
      cases (List.range n).any (assocB t i j) <;> rfl
    have outer := loop_any (f := impl_IsGroup.b2 n n t) (fun i => (i : Int)) n (fun i => unitB t i || !invB n t i || assocBs n t i) false n (by omega) (by
      intro i hi
      obtain ⟨x, hx1, hx2⟩ := inverse_eq hn t (show i < 6 by omega)
      dsimp only [impl_IsGroup.b2]
      have z : ((0 : Int)) = ((0 : Nat) : Int) := rfl
      rw [dlt_nat, show decide (i < n) = true by simp [hi], cond_true, z, times_eq _ t (by omega) (by omega), Option.bind_some, times_eq _ t (by omega) (by omega), Option.bind_some, hx1, Option.bind_some, ← z, hx2, gn_eq, Option.bind_some, inner1 i hi, Option.bind_some, w64_succ (by omega)]
      unfold unitB
      by_cases g1 : tb t 0 i = i
      · have g1' : ((tb t 0 i : Int) = (i : Int)) := by omega
        by_cases g2 : tb t i 0 = i
        · have g2' : ((tb t i 0 : Int) = (i : Int)) := by omega
          cases invB n t i <;> cases assocBs n t i <;> simp [beq_nat, bne_nat, g1, g2, ln]
        · have g2' : ¬ ((tb t i 0 : Int) = (i : Int)) := by omega
          cases invB n t i <;> cases assocBs n t i <;> simp [beq_nat, bne_nat, g1, g2, ln]
      · have g1' : ¬ ((tb t 0 i : Int) = (i : Int)) := by omega
        cases invB n t i <;> cases assocBs n t i <;> simp [beq_nat, bne_nat, g1, ln]) (by dsimp only [impl_IsGroup.b2]; simp)
    rw [show ((0 : Int)) = ((0 : Nat) : Int) from rfl, outer]
    cases (List.range n).any fun i => unitB t i || !invB n t i || assocBs n t i <;> rfl

theorem u8z (x : UInt8) : (((x.toNat : Int)) != ((0 : UInt8).toNat : Int)) = decide (x.toNat ≠ 0) := by
  rw [Bool.eq_iff_iff]
  simp only [bne_iff_ne, ne_eq, decide_eq_true_eq]
  show (¬ (x.toNat : Int) = 0) ↔ _
  omega
theorem u8z' (x : UInt8) : (((x.toNat : Int)) == ((0 : UInt8).toNat : Int)) = decide (x.toNat = 0) := by
  rw [Bool.eq_iff_iff]
  simp only [beq_iff_eq, decide_eq_true_eq]
  show ((x.toNat : Int) = 0) ↔ _
  omega

theorem specIsGroup_eq {n : Nat} (h1 : 1 ≤ n) (hn : n ≤ 6) (t : Nat → UInt8) : spec_l06Is.f n t = some (groupB n t) := by
  unfold spec_l06Is.f
  rw [l01In_eq, Option.bind_some, show (decide ((n : Int) ≥ 1) && decide ((n : Int) ≤ 6)) = true by simp; omega]
  simp only [Bool.not_true, cond_false]
  have e0 : ∀ i : Nat, i < 6 → loop (spec_l06Is.b0 i n t) 0 = some (bif (List.range 6).any (badE n t i) then .ret (.ret false) else .brk 6) := by
    intro i hi
    refine loop_any (f := spec_l06Is.b0 i n t) (fun j => (j : Int)) 6 (badE n t i) (.ret false) 6 (by omega) ?_ (by dsimp only [spec_l06Is.b0]; simp)
    intro j hj
    dsimp only [spec_l06Is.b0]
    rw [show decide ((j : Int) < 6) = true by simp; omega, cond_true, chk_in (by omega), chk_in (by omega), chk_in (by omega), chk_in (by omega), w64_succ (by omega), u8z]
    have hs : (t ((i : Int).toNat * 6 + (j : Int).toNat)).toNat = tb t i j := by simp [tb]
    rw [hs]
    by_cases h1 : i < n
    · by_cases h2 : j < n
      · by_cases h3 : n ≤ tb t i j
        · simp [beq_nat, beq_nat0, bne_nat, bne_nat0, h1, h2, h3, badE, jn, show ¬ n ≤ i by omega, show ¬ n ≤ j by omega]
        · simp [beq_nat, beq_nat0, bne_nat, bne_nat0, h1, h2, h3, badE, jn, show ¬ n ≤ i by omega, show ¬ n ≤ j by omega]
      · by_cases h3 : tb t i j = 0
        · simp [beq_nat, beq_nat0, bne_nat, bne_nat0, h1, h2, h3, badE, jn, show n ≤ j by omega]
        · simp [beq_nat, beq_nat0, bne_nat, bne_nat0, h1, h2, h3, badE, jn, show n ≤ j by omega]
    · by_cases h3 : tb t i j = 0
      · simp [beq_nat, beq_nat0, bne_nat, bne_nat0, h1, h3, badE, jn, show n ≤ i by omega]
      · simp [beq_nat, beq_nat0, bne_nat, bne_nat0, h1, h3, badE, jn, show n ≤ i by omega]
  have e1 := loop_any (f := spec_l06Is.b1 n t) (fun i => (i : Int)) 6 (fun i => (List.range 6).any (badE n t i)) false 6 (by omega) (by
    intro i hi
    dsimp only [spec_l06Is.b1]
    rw [show decide ((i : Int) < 6) = true by simp; omega, cond_true, e0 i hi, Option.bind_some, w64_succ (by omega)]
    cases (List.range 6).any (badE n t i) <;> rfl) (by dsimp only [spec_l06Is.b1]; simp)
  have z : ((0 : Int)) = ((0 : Nat) : Int) := rfl
  rw [z, e1]
  have hbe : ((List.range 6).any fun i => (List.range 6).any (badE n t i)) = badEs n t := rfl
  rw [hbe, Option.bind_some]
  unfold groupB
  cases hE : badEs n t with
  | true => rfl
  | false =>
    simp only [Bool.not_false, Bool.true_and, cond_false, ln]
    have e2 : ∀ i j : Nat, i < n → j < n → loop (spec_l06Is.b2 n i j t) ((0 : Nat) : Int) = some (bif (List.range n).any (assocB t i j) then .ret (.ret (.ret false)) else .brk n) := by
      intro i j hi hj
      refine loop_any (f := spec_l06Is.b2 n i j t) (fun k => (k : Int)) n (assocB t i j) (.ret (.ret false)) n (by omega) ?_ (by dsimp only [spec_l06Is.b2]; simp)
      intro k hk
      have a1 := badEs_entry hE hi hj hn
      have a2 := badEs_entry hE hj hk hn
      dsimp only [spec_l06Is.b2]
      have s1 : (t ((i : Int).toNat * 6 + (j : Int).toNat)).toNat = tb t i j := by simp [tb]
      have s2 : (t ((j : Int).toNat * 6 + (k : Int).toNat)).toNat = tb t j k := by simp [tb]
      rw [s1, s2, dlt_nat, show decide (k < n) = true by simp [hk], cond_true, chk_in (by omega), chk_in (by omega), chk_in (by omega), chk_in (by omega), chk_in (by omega), w64_succ (by omega)]
      have s3 : (t (tb t i j * 6 + (k : Int).toNat)).toNat = tb t (tb t i j) k := by simp [tb]
      have s4 : (t ((i : Int).toNat * 6 + tb t j k)).toNat = tb t i (tb t j k) := by simp [tb]
      rw [s3, s4]
      unfold assocB
      by_cases h : tb t (tb t i j) k = tb t i (tb t j k)
      · simp [h]
      · have h' : ¬ ((tb t (tb t i j) k : Int) = (tb t i (tb t j k) : Int)) := by omega
        simp [beq_nat, bne_nat, h]
    have e3 : ∀ i : Nat, i < n → loop (spec_l06Is.b3 n i t) (false, ((0 : Nat) : Int)) = some (bif assocBs n t i then .ret (.ret false) else .brk (invB n t i, (n : Int))) := by
      intro i hi
      have := loop_any (f := spec_l06Is.b3 n i t) (fun j => ((List.range j).any fun j => decide (tb t i j = 0 ∧ tb t j i = 0), (j : Int))) n (fun j => (List.range n).any (assocB t i j)) (.ret false) (invB n t i, (n : Int)) (by omega) (by
        intro j hj
        dsimp only [spec_l06Is.b3]
        have s1 : (t ((i : Int).toNat * 6 + (j : Int).toNat)).toNat = tb t i j := by simp [tb]
        have s2 : (t ((j : Int).toNat * 6 + (i : Int).toNat)).toNat = tb t j i := by simp [tb]
        rw [dlt_nat, show decide (j < n) = true by simp [hj], cond_true, chk_in (by omega), chk_in (by omega), u8z', u8z', s1, s2, w64_succ (by omega), List.range_succ, List.any_append, z]
        have e2' := e2 i j hi hj
        cases (List.range j).any fun j => decide (tb t i j = 0 ∧ tb t j i = 0) with
        | true =>
          simp only [cond_true, Option.bind_some, e2', Bool.true_or]
          cases (List.range n).any (assocB t i j) <;> rfl
        | false =>
          simp only [cond_false, Option.bind_some, e2', Bool.false_or, List.any_cons, List.any_nil, Bool.or_false, Bool.decide_and]
          cases (List.range n).any (assocB t i j) <;> rfl) (by dsimp only [spec_l06Is.b3]; simp [invB])
      exact this
    have e4 := loop_any (f := spec_l06Is.b4 n t) (fun i => (i : Int)) n (fun i => unitB t i || !invB n t i || assocBs n t i) false n (by omega) (by
      intro i hi
      dsimp only [spec_l06Is.b4]
      rw [dlt_nat, show decide (i < n) = true by simp [hi], cond_true, z, e3 i hi, Option.bind_some, w64_succ (by omega)]
      cases hA : assocBs n t i with
      | true => simp [ln]
      | false =>
        simp only [cond_false, ln, Bool.or_false]
        rw [chk_in (by omega), chk_in (by omega)]
        have s1 : (t (i : Int).toNat).toNat = tb t 0 i := by simp [tb]
        have s2 : (t ((i : Int).toNat * 6)).toNat = tb t i 0 := by simp [tb]
        rw [s1, s2]
        unfold unitB
        by_cases g1 : tb t 0 i = i
        · have g1' : ((tb t 0 i : Int) = (i : Int)) := by omega
          by_cases g2 : tb t i 0 = i
          · have g2' : ((tb t i 0 : Int) = (i : Int)) := by omega
            cases invB n t i <;> simp [beq_nat, bne_nat, g1, g2]
          · have g2' : ¬ ((tb t i 0 : Int) = (i : Int)) := by omega
            cases invB n t i <;> simp [beq_nat, bne_nat, g1, g2]
        · have g1' : ¬ ((tb t 0 i : Int) = (i : Int)) := by omega
          cases invB n t i <;> simp [beq_nat, bne_nat, g1]) (by dsimp only [spec_l06Is.b4]; simp)
    rw [e4, Option.bind_some]
    cases (List.range n).any fun i => unitB t i || !invB n t i || assocBs n t i <;> rfl

theorem isGroup_out {g : Int} (h : ¬ (1 ≤ g ∧ g ≤ 6)) (t : Nat → UInt8) : spec_l06Is.f g t = some false ∧ impl_IsGroup.f g t = some false := by
  have hb : (decide (g ≥ 1) && decide (g ≤ 6)) = false := by
    rw [Bool.and_eq_false_iff]
    simp only [decide_eq_false_iff_not]
    omega
  constructor
  · unfold spec_l06Is.f
    rw [l01In_eq, Option.bind_some, hb]; rfl
  · unfold impl_IsGroup.f
    rw [in_eq, Option.bind_some, hb]; rfl

/-- Both tell the same, and where they tell yes the order is in 1 .. 6. -/
theorem isGroup_same (g : Int) (t : Nat → UInt8) : ∃ b, spec_l06Is.f g t = some b ∧ impl_IsGroup.f g t = some b ∧ (b = true → ∃ n : Nat, g = n ∧ 1 ≤ n ∧ n ≤ 6 ∧ groupB n t = true) := by
  by_cases h : 1 ≤ g ∧ g ≤ 6
  · obtain ⟨n, rfl⟩ := Int.eq_ofNat_of_zero_le (show 0 ≤ g by omega)
    exact ⟨groupB n t, specIsGroup_eq (by omega) (by omega) t, implIsGroup_eq (by omega) (by omega) t, fun hb => ⟨n, rfl, by omega, by omega, hb⟩⟩
  · exact ⟨false, (isGroup_out h t).1, (isGroup_out h t).2, fun h => by cases h⟩
end Go.Proofs.Ytcombgcjgdkbiaa.G

/- Slices of numbers that are searched. -/
namespace Go.Proofs.Ytcombgcjgdkbiaa.G
open Go Go.Sx Go.Proofs
theorem gt_ix {α : Type} [Inhabited α] {a : List α} {i : Nat} (h : i < a.length) : gt a (i : Int) = a[i] := by simp [gt, List.getD, h]
theorem any_ix {α : Type} [Inhabited α] (a : List α) (p : α → Bool) : (List.range a.length).any (fun (i : Nat) => p (gt a (i : Int))) = a.any p := by
  rw [Bool.eq_iff_iff, List.any_eq_true, List.any_eq_true]
  constructor
  · rintro ⟨i, hi, h⟩
    have hi' := List.mem_range.1 hi
    exact ⟨a[i], List.getElem_mem _, by rwa [gt_ix hi'] at h⟩
  · rintro ⟨x, hx, h⟩
    obtain ⟨i, hi, rfl⟩ := List.mem_iff_getElem.1 hx
    exact ⟨i, List.mem_range.2 hi, by rw [gt_ix hi]; exact h⟩
theorem found {n : Nat} (p : Nat → Bool) (b : Int) : (((some (match (List.range n).find? p with | some i => LO.ret ((i : Nat) : Int) | none => LO.brk b) : Option (LO Int Int)).bind (ln fun _ => some (-1))).bind fun r_1 => some (decide (r_1 ≥ 0))) = some ((List.range n).any p) := by
  cases hfd : (List.range n).find? p with
  | none =>
    have : (List.range n).any p = false := by
      rw [List.any_eq_false]; intro x hx; have := List.find?_eq_none.1 hfd x hx; simpa using this
    rw [this]; rfl
  | some i =>
    have : (List.range n).any p = true := List.any_eq_true.2 ⟨i, List.mem_of_find?_eq_some hfd, List.find?_some hfd⟩
    rw [this]
    have hd : decide ((i : Int) ≥ 0) = true := by simp
    simp only [Option.bind_some, ln, hd]
theorem hasVal (a : List Int) (h : a.length < 1000000) (v : Int) : slices_Contains_int64_int64.f a v = some (a.any fun x => v == x) := by
  unfold slices_Contains_int64_int64.f slices_Index_int64_int64.f
  have hl := loop_find (f := slices_Index_int64_int64.b0 a v) (fun i => (i : Int)) a.length (fun (i : Nat) => v == gt a (i : Int)) (fun i => (i : Int)) (a.length : Int) (by omega) (fun i hi => by
    unfold slices_Index_int64_int64.b0
    simp only [dlt_nat, hi, decide_true, cond_true]
    rw [chk_in (by omega), w64_succ (by omega)]
    cases v == gt a (i : Int) <;> rfl) (by
    unfold slices_Index_int64_int64.b0
    simp)
  have hl' : loop (slices_Index_int64_int64.b0 a v) 0 = _ := hl
  rw [hl', ← any_ix a (fun x => v == x)]
  exact found _ _
end Go.Proofs.Ytcombgcjgdkbiaa.G

/- The primes that are allowed, told by both. -/
namespace Go.Proofs.Ytcombgcjgdkbiaa.G
open Go Go.Sx Go.Proofs
def primeB (p : Int) : Bool := ((((((p == 2) || (p == 3)) || (p == 5)) || (p == 7)) || (p == 11)) || (p == 13))
theorem specPrime (p : Int) : spec_l01Prime.f p = some (primeB p) := rfl
theorem implPrime (p : Int) : impl_isPrime.f p = some (primeB p) := by
  unfold impl_isPrime.f
  rw [hasVal _ (by simp)]
  simp only [Option.bind_some, List.any_cons, List.any_nil, Bool.or_false, primeB, Bool.or_assoc]
theorem primeB_le {p : Int} (h : primeB p = true) : 2 ≤ p ∧ p ≤ 13 := by
  unfold primeB at h
  simp only [Bool.or_eq_true, beq_iff_eq] at h
  omega
end Go.Proofs.Ytcombgcjgdkbiaa.G

/- Inverses for the primes that are allowed, told by both. -/
namespace Go.Proofs.Ytcombgcjgdkbiaa.G
open Go Go.Sx Go.Proofs
def ivn (p c : Nat) : Nat := ((List.range p).find? fun q => c * q % p == 1).getD 0
def primeN (p : Nat) : Bool := p == 2 || p == 3 || p == 5 || p == 7 || p == 11 || p == 13
set_option maxRecDepth 100000 in
theorem inv_tab : ∀ p : Fin 14, primeN p.val = true → ∀ c : Fin 14, 1 ≤ c.val → c.val < p.val → impl_inverse.f (c.val : Int) (p.val : Int) = some (ivn p.val c.val : Int) ∧ spec_l01Inverse.f (p.val : Int) (c.val : Int) = some (ivn p.val c.val : Int) := by decide +kernel
set_option maxRecDepth 100000 in
theorem inv_mul : ∀ p : Fin 14, primeN p.val = true → ∀ c : Fin 14, 1 ≤ c.val → c.val < p.val → ∀ d : Fin 14, 1 ≤ d.val → d.val < p.val → 1 ≤ c.val * d.val % p.val ∧ ∀ u : Fin 14, u.val < p.val → (u.val * ivn p.val c.val % p.val) * ivn p.val d.val % p.val = u.val * ivn p.val (c.val * d.val % p.val) % p.val := by decide +kernel
theorem prime_nat {p : Int} (h : primeB p = true) : ∃ q : Nat, p = (q : Int) ∧ primeN q = true ∧ 2 ≤ q ∧ q ≤ 13 := by
  have h1 := primeB_le h
  obtain ⟨q, rfl⟩ := Int.eq_ofNat_of_zero_le (show 0 ≤ p by omega)
  refine ⟨q, rfl, ?_, by omega, by omega⟩
  unfold primeB at h
  unfold primeN
  simp only [Bool.or_eq_true, beq_iff_eq] at h ⊢
  omega
theorem ivn_lt {p c : Nat} (hp : 2 ≤ p) : ivn p c < p := by
  unfold ivn
  cases h : (List.range p).find? (fun q => c * q % p == 1) with
  | none => simp only [Option.getD_none]; omega
  | some q => exact List.mem_range.1 (List.mem_of_find?_eq_some h)
theorem implInv {p c : Nat} (hp : primeN p = true) (h2 : p ≤ 13) (hc : 1 ≤ c) (hcp : c < p) : impl_inverse.f (c : Int) (p : Int) = some (ivn p c : Int) := (inv_tab ⟨p, by omega⟩ hp ⟨c, by omega⟩ hc hcp).1
theorem specInv {p c : Nat} (hp : primeN p = true) (h2 : p ≤ 13) (hc : 1 ≤ c) (hcp : c < p) : spec_l01Inverse.f (p : Int) (c : Int) = some (ivn p c : Int) := (inv_tab ⟨p, by omega⟩ hp ⟨c, by omega⟩ hc hcp).2
theorem invMul {p c d u : Nat} (hp : primeN p = true) (h2 : p ≤ 13) (hc : 1 ≤ c) (hcp : c < p) (hd : 1 ≤ d) (hdp : d < p) (hu : u < p) : 1 ≤ c * d % p ∧ (u * ivn p c % p) * ivn p d % p = u * ivn p (c * d % p) % p := by
  have := inv_mul ⟨p, by omega⟩ hp ⟨c, by omega⟩ hc hcp ⟨d, by omega⟩ hd hdp
  exact ⟨this.1, this.2 ⟨u, by omega⟩ hu⟩
theorem tmodN (a b : Nat) : Int.tmod (a : Int) (b : Int) = ((a % b : Nat) : Int) := by rw [Int.tmod_eq_emod_of_nonneg (by omega)]; rfl
theorem w64N {a : Nat} (h : a < 4611686018427387904) : w64 (a : Int) = (a : Int) := w64_in (by omega)
theorem mulN (a b : Nat) : (a : Int) * (b : Int) = ((a * b : Nat) : Int) := by simp
/-- A product of small numbers, for a modulus. -/
theorem mulmod {a b p : Nat} (ha : a ≤ 100) (hb : b ≤ 100) : Int.tmod (w64 ((a : Int) * (b : Int))) (p : Int) = ((a * b % p : Nat) : Int) := by
  have : a * b ≤ 100 * 100 := Nat.mul_le_mul ha hb
  rw [mulN, w64N (by omega), tmodN]
end Go.Proofs.Ytcombgcjgdkbiaa.G

/- The code of a prime and a group, told by both. -/
namespace Go.Proofs.Ytcombgcjgdkbiaa.G
open Go Go.Sx Go.Proofs
theorem primed_same (p g : Int) (t : Nat → UInt8) : ∃ c : Int, spec_l06Code.f p g t = some c ∧ impl_primed.f p g t = some c ∧ (c = 0 ∨ c = 1 ∨ c = 2) ∧ (c = 0 → ∃ n q : Nat, g = n ∧ 1 ≤ n ∧ n ≤ 6 ∧ groupB n t = true ∧ p = q ∧ primeN q = true ∧ 2 ≤ q ∧ q ≤ 13) := by
  obtain ⟨b, h1, h2, h3⟩ := isGroup_same g t
  unfold spec_l06Code.f impl_primed.f
  rw [h1, h2, specPrime, implPrime]
  cases b with
  | false => exact ⟨1, rfl, rfl, by omega, by omega⟩
  | true =>
    cases hp : primeB p with
    | false => exact ⟨2, rfl, rfl, by omega, by omega⟩
    | true =>
      obtain ⟨n, e1, e2, e3, e4⟩ := h3 rfl
      obtain ⟨q, f1, f2, f3, f4⟩ := prime_nat hp
      exact ⟨0, rfl, rfl, by omega, fun _ => ⟨n, q, e1, e2, e3, e4, f1, f2, f3, f4⟩⟩
end Go.Proofs.Ytcombgcjgdkbiaa.G

/- Slices of numbers that are searched by a test. -/
namespace Go.Proofs.Ytcombgcjgdkbiaa.G
open Go Go.Sx Go.Proofs
theorem hasInts (a : List Int) (h : a.length < 10000000) (f : Int → Option Bool) (p : Int → Bool) (hf : ∀ x ∈ a, f x = some (p x)) : slices_ContainsFunc_int64_int64.f a f = some (a.any p) := by
  unfold slices_ContainsFunc_int64_int64.f slices_IndexFunc_int64_int64.f
  have hl := loop_find (f := slices_IndexFunc_int64_int64.b0 a f) (fun i => (i : Int)) a.length (fun (i : Nat) => p (gt a (i : Int))) (fun i => (i : Int)) (a.length : Int) (by omega) (fun i hi => by
    unfold slices_IndexFunc_int64_int64.b0
    simp only [dlt_nat, hi, decide_true, cond_true]
    rw [chk_in (by omega), hf _ (by rw [gt_ix hi]; exact List.getElem_mem _), Option.bind_some, w64_succ (by omega)]
    cases p (gt a (i : Int)) <;> rfl) (by
    unfold slices_IndexFunc_int64_int64.b0
    simp)
  have hl' : loop (slices_IndexFunc_int64_int64.b0 a f) 0 = _ := hl
  rw [hl', ← any_ix a p]
  exact found _ _
end Go.Proofs.Ytcombgcjgdkbiaa.G

/- Tables of numbers for a group, and cocycles, told by both. -/
namespace Go.Proofs.Ytcombgcjgdkbiaa.G
open Go Go.Sx Go.Proofs
theorem hasRows (a : List (List Int)) (h : a.length < 10000000) (f : List Int → Option Bool) (p : List Int → Bool) (hf : ∀ x ∈ a, f x = some (p x)) : slices_ContainsFunc_int64_int64_129.f a f = some (a.any p) := by
  unfold slices_ContainsFunc_int64_int64_129.f slices_IndexFunc_int64_int64_133.f
  have hl := loop_find (f := slices_IndexFunc_int64_int64_133.b0 a f) (fun i => (i : Int)) a.length (fun (i : Nat) => p (gt a (i : Int))) (fun i => (i : Int)) (a.length : Int) (by omega) (fun i hi => by
    unfold slices_IndexFunc_int64_int64_133.b0
    simp only [dlt_nat, hi, decide_true, cond_true]
    rw [chk_in (by omega), hf _ (by rw [gt_ix hi]; exact List.getElem_mem _), Option.bind_some, w64_succ (by omega)]
    cases p (gt a (i : Int)) <;> rfl) (by
    unfold slices_IndexFunc_int64_int64_133.b0
    simp)
  have hl' : loop (slices_IndexFunc_int64_int64_133.b0 a f) 0 = _ := hl
  rw [hl', ← any_ix a p]
  exact found _ _
def numB (q : Nat) (x : Int) : Bool := decide (x ≥ 0) && decide (x ≤ (q : Int) - 1)
def rowOk (n q : Nat) (r : List Int) : Bool := decide (r.length = n) && r.all (numB q)
def tabOk (n q : Nat) (t : List (List Int)) : Bool := decide (t.length = n) && t.all (rowOk n q)
theorem any_not {α : Type} (l : List α) (p : α → Bool) : l.any (fun x => !p x) = !l.all p := by rw [List.all_eq_not_any_not, Bool.not_not]
theorem squareOk_eq {n q : Nat} (hq : q ≤ 100) (t : List (List Int)) (h : t.length ≤ 1048576) (hr : ∀ r ∈ t, r.length ≤ 1048576) : impl_squareOk.f t n q = some (tabOk n q t) := by
  unfold impl_squareOk.f tabOk
  rw [beq_nat]
  by_cases hl : t.length = n
  · rw [decide_eq_true hl, cond_true, hasRows t (by omega) _ (fun r => !rowOk n q r) (fun r hrt => by
      unfold impl_squareOk_1.f rowOk
      have := hr r hrt
      by_cases hl : r.length = n
      · have e : ((r.length : Int) != (n : Int)) = false := by rw [hl]; simp
        rw [e, cond_false, hasInts r (by omega) _ (fun x => !numB q x) (fun x _ => by
          unfold impl_squareOk_1_1.f impl_in.f numB
          rw [w64_in (x := (q : Int) - 1) (by omega)]
          rfl), any_not]
        simp only [Option.bind_some, decide_eq_true hl, Bool.true_and]
      · have e : ((r.length : Int) != (n : Int)) = true := by simp; omega
        rw [e, decide_eq_false hl]; rfl), any_not]
    simp
  · rw [decide_eq_false hl]; rfl
theorem table_loop {n q : Nat} (hq : q ≤ 100) (t : List (List Int)) (h : t.length = n) (hn : n ≤ 6) : loop (spec_l06Table.b1 t n q) 0 = some (bif t.all (rowOk n q) then .brk (n : Int) else .ret 2) := by
  subst h
  have hl := loop_any (f := spec_l06Table.b1 t t.length q) (fun i => (i : Int)) t.length (fun (i : Nat) => !rowOk t.length q (gt t (i : Int))) 2 (t.length : Int) (by omega) (fun i hi => by
    unfold spec_l06Table.b1
    simp only [dlt_nat, hi, decide_true, cond_true]
    rw [chk_in (by omega), w64_succ (by omega)]
    unfold rowOk
    by_cases hl : (gt t (i : Int)).length = t.length
    · have e : (((gt t (i : Int)).length : Int) != (t.length : Int)) = false := by rw [hl]; simp
      rw [e, cond_false]
      have hin := loop_any (f := spec_l06Table.b0 t i q) (fun j => (j : Int)) t.length (fun (j : Nat) => !numB q (gt (gt t (i : Int)) (j : Int))) (.ret 2) (t.length : Int) (by omega) (fun j hj => by
        unfold spec_l06Table.b0 spec_l01In.f
        simp only [dlt_nat, hj, decide_true, cond_true]
        rw [chk_in (by omega), w64_in (x := (q : Int) - 1) (by omega), Option.bind_some, w64_succ (by omega)]
        have : (decide (gt (gt t (i : Int)) (j : Int) ≥ 0) && decide (gt (gt t (i : Int)) (j : Int) ≤ (q : Int) - 1)) = numB q (gt (gt t (i : Int)) (j : Int)) := rfl
        rw [this]
        cases numB q (gt (gt t (i : Int)) (j : Int)) <;> rfl) (by
        unfold spec_l06Table.b0
        simp)
      have hin' : loop (spec_l06Table.b0 t i q) 0 = some (bif !(gt t (i : Int)).all (numB q) then .ret (.ret 2) else .brk (t.length : Int)) := by
        have := any_ix (gt t (i : Int)) (fun x => !numB q x)
        rw [hl] at this
        rw [← any_not, ← this]; exact hin
      rw [hin', decide_eq_true hl]
      simp only [Bool.true_and]
      cases (gt t (i : Int)).all (numB q) <;> rfl
    · have e : (((gt t (i : Int)).length : Int) != (t.length : Int)) = true := by simp; omega
      rw [e, decide_eq_false hl]; rfl) (by
    unfold spec_l06Table.b1
    simp)
  have hl' : loop (spec_l06Table.b1 t t.length q) 0 = _ := hl
  rw [hl', any_ix t (fun r => !rowOk t.length q r), any_not]
  cases t.all (rowOk t.length q) <;> rfl
theorem tabled_same (p g : Int) (t : Nat → UInt8) (tb' : List (List Int)) (h : tb'.length ≤ 1048576) (hr : ∀ r ∈ tb', r.length ≤ 1048576) :
    ∃ c : Int, spec_l06Table.f p g t tb' = some c ∧ impl_tabled.f p g t tb' = some c ∧ (c = 0 → ∃ n q : Nat, g = n ∧ 1 ≤ n ∧ n ≤ 6 ∧ groupB n t = true ∧ p = q ∧ primeN q = true ∧ 2 ≤ q ∧ q ≤ 13 ∧ tabOk n q tb' = true) := by
  obtain ⟨c, h1, h2, h3, h4⟩ := primed_same p g t
  unfold spec_l06Table.f impl_tabled.f
  rw [h1, h2]
  simp only [Option.bind_some]
  by_cases hc : c = 0
  · subst hc
    obtain ⟨n, q, rfl, k1, k2, k3, rfl, k4, k5, k6⟩ := h4 rfl
    have ez : ((0 : Int) != 0) = false := rfl
    rw [ez]
    simp only [cond_false, gn_eq, Option.bind_some]
    rw [squareOk_eq (by omega) tb' h hr]
    simp only [Option.bind_some]
    by_cases hl : tb'.length = n
    · have e : ((tb'.length : Int) != (n : Int)) = false := by rw [hl]; simp
      rw [e, cond_false, table_loop (by omega) tb' hl k2]
      cases hall : tb'.all (rowOk n q) with
      | true =>
        have ht : tabOk n q tb' = true := by unfold tabOk; rw [decide_eq_true hl, hall]; rfl
        rw [ht]
        exact ⟨0, rfl, rfl, fun _ => ⟨n, q, rfl, k1, k2, k3, rfl, k4, k5, k6, ht⟩⟩
      | false =>
        have ht : tabOk n q tb' = false := by unfold tabOk; rw [hall, Bool.and_false]
        rw [ht]
        exact ⟨2, rfl, rfl, by omega⟩
    · have e : ((tb'.length : Int) != (n : Int)) = true := by simp; omega
      have ht : tabOk n q tb' = false := by unfold tabOk; rw [decide_eq_false hl, Bool.false_and]
      rw [e, ht]
      exact ⟨2, rfl, rfl, by omega⟩
  · have e2 : (c != 0) = true := by simpa using hc
    rw [e2]
    exact ⟨c, rfl, rfl, fun h => absurd h hc⟩
/-- The numbers of a table that is right. -/
def tn (t : List (List Int)) (i j : Nat) : Nat := (gt (gt t (i : Int)) (j : Int)).toNat
theorem tabOk_at {n q : Nat} {t : List (List Int)} (h : tabOk n q t = true) {i : Nat} (hi : i < n) : t.length = n ∧ (gt t (i : Int)).length = n ∧ ∀ j, j < n → gt (gt t (i : Int)) (j : Int) = (tn t i j : Int) ∧ tn t i j < q := by
  unfold tabOk at h
  simp only [Bool.and_eq_true, decide_eq_true_eq, List.all_eq_true] at h
  have h2 := h.2 (gt t (i : Int)) (by rw [gt_ix (by omega)]; exact List.getElem_mem _)
  unfold rowOk at h2
  simp only [Bool.and_eq_true, decide_eq_true_eq, List.all_eq_true] at h2
  refine ⟨h.1, h2.1, fun j hj => ?_⟩
  have h3 := h2.2 (gt (gt t (i : Int)) (j : Int)) (by rw [gt_ix (a := gt t (i : Int)) (by omega)]; exact List.getElem_mem _)
  unfold numB at h3
  simp only [Bool.and_eq_true, decide_eq_true_eq] at h3
  unfold tn; omega
def badK (q : Nat) (t : Nat → UInt8) (T : Nat → Nat → Nat) (i j k : Nat) : Bool := decide (T i j * T (tb t i j) k % q ≠ T j k * T i (tb t j k) % q)
def badJ (n q : Nat) (t : Nat → UInt8) (T : Nat → Nat → Nat) (i j : Nat) : Bool := decide (T i j = 0) || (List.range n).any (badK q t T i j)
def badC (n q : Nat) (t : Nat → UInt8) (T : Nat → Nat → Nat) : Bool := (List.range n).any fun i => (List.range n).any (badJ n q t T i)
def cocB (n q : Nat) (t : Nat → UInt8) (T : Nat → Nat → Nat) : Bool := !badC n q t T && decide (T 0 0 = 1)
section
variable {n q : Nat} {t : Nat → UInt8} {u : List (List Int)} (h1 : 1 ≤ n) (hn : n ≤ 6) (he : ∀ i j, i < n → j < n → tb t i j < n) (hq : 2 ≤ q ∧ q ≤ 13) (hu : tabOk n q u = true)
include h1 hn he hq hu
theorem specCoc : spec_l06Cocycle.f q n t u = some (cocB n q t (tn u)) := by
  have hlen := (tabOk_at hu (i := 0) (by omega)).1
  unfold spec_l06Cocycle.f
  have hl := loop_any (f := spec_l06Cocycle.b2 n u t q) (fun i => (i : Int)) n (fun i => (List.range n).any (badJ n q t (tn u) i)) false (n : Int) (by omega) (fun i hi => by
    unfold spec_l06Cocycle.b2
    simp only [dlt_nat, hi, decide_true, cond_true]
    obtain ⟨_, li, vi⟩ := tabOk_at hu hi
    have hin := loop_any (f := spec_l06Cocycle.b1 n i u t q) (fun j => (j : Int)) n (badJ n q t (tn u) i) (.ret false) (n : Int) (by omega) (fun j hj => by
      unfold spec_l06Cocycle.b1
      simp only [dlt_nat, hj, decide_true, cond_true]
      rw [chk_in (by omega), chk_in (by omega), (vi j hj).1, beq_nat0]
      unfold badJ
      by_cases h0 : tn u i j = 0
      · rw [decide_eq_true h0]; rfl
      · rw [decide_eq_false h0]
        simp only [cond_false, Bool.false_or]
        obtain ⟨_, lj, vj⟩ := tabOk_at hu hj
        have hij := he i j hi hj
        obtain ⟨_, lij, vij⟩ := tabOk_at hu hij
        have hk := loop_any (f := spec_l06Cocycle.b0 n i j t u q) (fun k => (k : Int)) n (badK q t (tn u) i j) (.ret (.ret false)) (n : Int) (by omega) (fun k hk => by
          unfold spec_l06Cocycle.b0
          have hjk := he j k hj hk
          have e5 : ((t (((i : Nat) : Int).toNat * 6 + ((j : Nat) : Int).toNat)).toNat : Int) = (tb t i j : Int) := rfl
          have e6 : ((t (((j : Nat) : Int).toNat * 6 + ((k : Nat) : Int).toNat)).toNat : Int) = (tb t j k : Int) := rfl
          have a1 := (vi j hj).2
          have a2 := (vij k hk).2
          have a3 := (vj k hk).2
          have a4 := (vi _ hjk).2
          simp only [dlt_nat, hk, decide_true, cond_true]
          rw [chk_in (by omega), chk_in (by omega), e5, chk_in (by omega), chk_in (by omega), nz_in (by omega), chk_in (by omega), chk_in (by omega), chk_in (by omega), e6, chk_in (by omega), (vi j hj).1, (vij k hk).1, (vj k hk).1, (vi _ hjk).1, mulmod (by omega) (by omega), mulmod (by omega) (by omega), bne_nat, w64_succ (by omega)]
          have : (!decide (tn u i j * tn u (tb t i j) k % q = tn u j k * tn u i (tb t j k) % q)) = badK q t (tn u) i j k := by simp [badK]
          rw [this]
          cases badK q t (tn u) i j k <;> rfl) (by
          unfold spec_l06Cocycle.b0
          simp)
        have hk' : loop (spec_l06Cocycle.b0 n i j t u q) 0 = _ := hk
        rw [hk', w64_succ (by omega)]
        cases (List.range n).any (badK q t (tn u) i j) <;> rfl) (by
      unfold spec_l06Cocycle.b1
      simp)
    have hin' : loop (spec_l06Cocycle.b1 n i u t q) 0 = _ := hin
    rw [hin', w64_succ (by omega)]
    cases (List.range n).any (badJ n q t (tn u) i) <;> rfl) (by
    unfold spec_l06Cocycle.b2
    simp)
  have hl' : loop (spec_l06Cocycle.b2 n u t q) 0 = some (bif badC n q t (tn u) then .ret false else .brk (n : Int)) := hl
  rw [hl']
  unfold cocB
  cases badC n q t (tn u) with
  | true => rfl
  | false =>
    obtain ⟨_, l0, v0⟩ := tabOk_at hu (i := 0) (by omega)
    have l0' : (gt u 0).length = n := l0
    have v00 : gt (gt u 0) 0 = (tn u 0 0 : Int) := (v0 0 (by omega)).1
    simp only [cond_false, Option.bind_some, ln]
    rw [chk_in (by omega), l0', chk_in (by omega), v00]
    congr 1
    rw [Bool.eq_iff_iff]; simp; omega
theorem implCoc : impl_Group_cocycle.f n t q u = some (cocB n q t (tn u)) := by
  have hlen := (tabOk_at hu (i := 0) (by omega)).1
  unfold impl_Group_cocycle.f
  rw [gn_eq, Option.bind_some]
  have hl := loop_any (f := impl_Group_cocycle.b2 n n t u q) (fun i => (i : Int)) n (fun i => (List.range n).any (badJ n q t (tn u) i)) false (n : Int) (by omega) (fun i hi => by
    unfold impl_Group_cocycle.b2
    simp only [dlt_nat, hi, decide_true, cond_true, gn_eq, Option.bind_some]
    obtain ⟨_, li, vi⟩ := tabOk_at hu hi
    have hin := loop_any (f := impl_Group_cocycle.b1 n n t i u q) (fun j => (j : Int)) n (badJ n q t (tn u) i) (.ret false) (n : Int) (by omega) (fun j hj => by
      unfold impl_Group_cocycle.b1
      simp only [dlt_nat, hj, decide_true, cond_true, gn_eq, Option.bind_some]
      obtain ⟨_, lj, vj⟩ := tabOk_at hu hj
      have hij := he i j hi hj
      obtain ⟨_, lij, vij⟩ := tabOk_at hu hij
      have hk := loop_any (f := impl_Group_cocycle.b0 n i u j n t q) (fun k => (k : Int)) n (fun k => decide (tn u i j = 0) || badK q t (tn u) i j k) (.ret (.ret false)) (n : Int) (by omega) (fun k hk => by
        unfold impl_Group_cocycle.b0
        have hjk := he j k hj hk
        have a1 := (vi j hj).2
        have a2 := (vij k hk).2
        have a3 := (vj k hk).2
        have a4 := (vi _ hjk).2
        simp only [dlt_nat, hk, decide_true, cond_true]
        rw [chk_in (by omega), chk_in (by omega), times_eq _ _ (by omega) (by omega), Option.bind_some, chk_in (by omega), chk_in (by omega), nz_in (by omega), chk_in (by omega), chk_in (by omega), times_eq _ _ (by omega) (by omega), Option.bind_some, chk_in (by omega), (vi j hj).1, (vij k hk).1, (vj k hk).1, (vi _ hjk).1, mulmod (by omega) (by omega), mulmod (by omega) (by omega), bne_nat, beq_nat0, w64_succ (by omega)]
        have : (!decide (tn u i j * tn u (tb t i j) k % q = tn u j k * tn u i (tb t j k) % q)) = badK q t (tn u) i j k := by simp [badK]
        rw [this]
        cases (decide (tn u i j = 0) || badK q t (tn u) i j k) <;> rfl) (by
        unfold impl_Group_cocycle.b0
        simp)
      have hk' : loop (impl_Group_cocycle.b0 n i u j n t q) 0 = some (bif badJ n q t (tn u) i j then .ret (.ret (.ret false)) else .brk (n : Int)) := by
        have e : (List.range n).any (fun k => decide (tn u i j = 0) || badK q t (tn u) i j k) = badJ n q t (tn u) i j := by
          unfold badJ
          cases hd : decide (tn u i j = 0) with
          | false => simp
          | true =>
            rw [Bool.true_or]
            exact List.any_eq_true.2 ⟨0, List.mem_range.2 (by omega), rfl⟩
        rw [← e]; exact hk
      rw [hk', w64_succ (by omega)]
      cases badJ n q t (tn u) i j <;> rfl) (by
      unfold impl_Group_cocycle.b1
      simp)
    have hin' : loop (impl_Group_cocycle.b1 n n t i u q) 0 = _ := hin
    rw [hin', w64_succ (by omega)]
    cases (List.range n).any (badJ n q t (tn u) i) <;> rfl) (by
    unfold impl_Group_cocycle.b2
    simp)
  have hl' : loop (impl_Group_cocycle.b2 n n t u q) 0 = some (bif badC n q t (tn u) then .ret false else .brk (n : Int)) := hl
  rw [hl']
  unfold cocB
  cases badC n q t (tn u) with
  | true => rfl
  | false =>
    obtain ⟨_, l0, v0⟩ := tabOk_at hu (i := 0) (by omega)
    have l0' : (gt u 0).length = n := l0
    have v00 : gt (gt u 0) 0 = (tn u 0 0 : Int) := (v0 0 (by omega)).1
    simp only [cond_false, Option.bind_some, ln]
    rw [chk_in (by omega), l0', chk_in (by omega), v00]
    congr 1
    rw [Bool.eq_iff_iff]; simp; omega
end
theorem ic_same (p g : Int) (t : Nat → UInt8) (u : List (List Int)) (h : u.length ≤ 1048576) (hr : ∀ r ∈ u, r.length ≤ 1048576) : ∃ b c, spec_IsCocycle.f p g t u = some (b, c) ∧ impl_IsCocycle.f p g t u = some (b, c) := by
  obtain ⟨c, h1, h2, h3⟩ := tabled_same p g t u h hr
  unfold spec_IsCocycle.f impl_IsCocycle.f
  rw [h1, h2]
  simp only [Option.bind_some]
  by_cases hc : c = 0
  · subst hc
    obtain ⟨n, q, rfl, k1, k2, k3, rfl, k4, k5, k6, k7⟩ := h3 rfl
    have hent : ∀ i j, i < n → j < n → tb t i j < n := by
      intro i j hi hj
      unfold groupB at k3
      simp only [Bool.and_eq_true, Bool.not_eq_true'] at k3
      exact badEs_entry k3.1 hi hj k2
    have ez : ((0 : Int) != 0) = false := rfl
    rw [ez]
    simp only [cond_false]
    rw [specCoc k1 k2 hent ⟨k5, k6⟩ k7, implCoc k1 k2 hent ⟨k5, k6⟩ k7]
    exact ⟨_, _, rfl, rfl⟩
  · have e2 : (c != 0) = true := by simpa using hc
    rw [e2]
    exact ⟨_, _, rfl, rfl⟩
end Go.Proofs.Ytcombgcjgdkbiaa.G

/- The algebra of a group, told by both. -/
namespace Go.Proofs.Ytcombgcjgdkbiaa.G
open Go Go.Sx Go.Proofs
def agRow (t : Nat → UInt8) (i : Nat) (a : Nat → UInt8) : Nat → (Nat → UInt8)
  | 0 => a
  | j + 1 => upd (agRow t i a j) (i * 36 + j * 6 + tb t i j) 1
def agAll (n : Nat) (t : Nat → UInt8) : Nat → (Nat → UInt8)
  | 0 => fun _ => 0
  | i + 1 => agRow t i (agAll n t i) n
section
variable {n : Nat} {t : Nat → UInt8} (hn : n ≤ 6) (he : ∀ i j, i < n → j < n → tb t i j < n)
include hn he
theorem specAlg (p : Int) : spec_l06Algebra.f p n t = some (p, (n : Int), agAll n t n, upd (fun _ => 0) 0 1) := by
  unfold spec_l06Algebra.f
  have hl := loop1_upto (f := spec_l06Algebra.b1 n t) (fun i => (agAll n t i, (i : Int))) n (agAll n t n, (n : Int)) (by omega) (fun i hi => by
    unfold spec_l06Algebra.b1
    simp only [dlt_nat, hi, decide_true, cond_true]
    have hin := loop1_upto (f := spec_l06Algebra.b0 n i t) (fun j => (agRow t i (agAll n t i) j, (j : Int))) n (agRow t i (agAll n t i) n, (n : Int)) (by omega) (fun j hj => by
      unfold spec_l06Algebra.b0
      have hij := he i j hi hj
      have e5 : ((t (((i : Nat) : Int).toNat * 6 + ((j : Nat) : Int).toNat)).toNat : Int) = (tb t i j : Int) := rfl
      simp only [dlt_nat, hj, decide_true, cond_true]
      rw [chk_in (by omega), chk_in (by omega), e5, chk_in (by omega), w64_succ (by omega)]
      rfl) (by
      unfold spec_l06Algebra.b0
      simp)
    have hin' : loop1 (spec_l06Algebra.b0 n i t) (agAll n t i, 0) = some (agRow t i (agAll n t i) n, (n : Int)) := hin
    rw [hin']
    simp only [Option.bind_some, w64_succ (by omega : i < 4611686018427387904)]
    rfl) (by
    unfold spec_l06Algebra.b1
    simp)
  have hl' : loop1 (spec_l06Algebra.b1 n t) ((fun _ => 0), 0) = some (agAll n t n, (n : Int)) := hl
  rw [hl']; rfl
theorem implAlg (p : Int) : impl_Group_algebra.f n t p = some (p, (n : Int), agAll n t n, upd (fun _ => 0) 0 1) := by
  unfold impl_Group_algebra.f impl_built.f
  rw [gn_eq, Option.bind_some]
  have hl := loop1_upto (f := impl_built.b1 n (fun x0_ x1_ => impl_Group_times.f n t x0_ x1_)) (fun i => (agAll n t i, (i : Int))) n (agAll n t n, (n : Int)) (by omega) (fun i hi => by
    unfold impl_built.b1
    simp only [dlt_nat, hi, decide_true, cond_true]
    have hin := loop1_upto (f := impl_built.b0 n (fun x0_ x1_ => impl_Group_times.f n t x0_ x1_) i) (fun j => (agRow t i (agAll n t i) j, (j : Int))) n (agRow t i (agAll n t i) n, (n : Int)) (by omega) (fun j hj => by
      unfold impl_built.b0
      have hij := he i j hi hj
      simp only [dlt_nat, hj, decide_true, cond_true]
      have hd : decide ((tb t i j : Int) ≥ 0) = true := by simp
      rw [times_eq _ _ (by omega) (by omega), Option.bind_some, hd, cond_true, chk_in (by omega), chk_in (by omega), chk_in (by omega), Option.bind_some, w64_succ (by omega)]
      rfl) (by
      unfold impl_built.b0
      simp)
    have hin' : loop1 (impl_built.b0 n (fun x0_ x1_ => impl_Group_times.f n t x0_ x1_) i) (agAll n t i, 0) = some (agRow t i (agAll n t i) n, (n : Int)) := hin
    rw [hin']
    simp only [Option.bind_some, w64_succ (by omega : i < 4611686018427387904)]
    rfl) (by
    unfold impl_built.b1
    simp)
  have hl' : loop1 (impl_built.b1 n (fun x0_ x1_ => impl_Group_times.f n t x0_ x1_)) ((fun _ => 0), 0) = some (agAll n t n, (n : Int)) := hl
  rw [hl']; rfl
end
end Go.Proofs.Ytcombgcjgdkbiaa.G

/- An algebra is the same as itself. -/
namespace Go.Proofs.Ytcombgcjgdkbiaa.G
open Go Go.Sx Go.Proofs
theorem lt6 (i : Nat) : decide ((i : Int) < 6) = decide (i < 6) := dlt_nat i 6
theorem eqA6 (a : Nat → UInt8) : laws_eqByteA6.f a a = some true := by
  unfold laws_eqByteA6.f
  have hl := loop_upto (f := laws_eqByteA6.b0 a a) (fun i => (i : Int)) 6 6 (by omega) (fun i hi => by
    unfold laws_eqByteA6.b0
    simp only [lt6, hi, decide_true, cond_true]
    rw [chk_in (by omega), w64_succ (by omega)]
    simp) (by
    unfold laws_eqByteA6.b0
    rfl)
  have hl' : loop (laws_eqByteA6.b0 a a) 0 = _ := hl
  rw [hl']; rfl
theorem eqA66 (a : Nat → UInt8) : laws_eqByteA6A6.f a a = some true := by
  unfold laws_eqByteA6A6.f
  have hl := loop_upto (f := laws_eqByteA6A6.b0 a a) (fun i => (i : Int)) 6 6 (by omega) (fun i hi => by
    unfold laws_eqByteA6A6.b0
    simp only [lt6, hi, decide_true, cond_true]
    rw [chk_in (by omega), eqA6, w64_succ (by omega)]
    rfl) (by
    unfold laws_eqByteA6A6.b0
    rfl)
  have hl' : loop (laws_eqByteA6A6.b0 a a) 0 = _ := hl
  rw [hl']; rfl
theorem eqA666 (a : Nat → UInt8) : laws_eqByteA6A6A6.f a a = some true := by
  unfold laws_eqByteA6A6A6.f
  have hl := loop_upto (f := laws_eqByteA6A6A6.b0 a a) (fun i => (i : Int)) 6 6 (by omega) (fun i hi => by
    unfold laws_eqByteA6A6A6.b0
    simp only [lt6, hi, decide_true, cond_true]
    rw [chk_in (by omega), eqA66, w64_succ (by omega)]
    rfl) (by
    unfold laws_eqByteA6A6A6.b0
    rfl)
  have hl' : loop (laws_eqByteA6A6A6.b0 a a) 0 = _ := hl
  rw [hl']; rfl
theorem eqV (a : Nat → UInt8) : laws_eqVector.f a a = some true := by
  unfold laws_eqVector.f
  have hl := loop_upto (f := laws_eqVector.b0 a a) (fun i => (i : Int)) 6 6 (by omega) (fun i hi => by
    unfold laws_eqVector.b0
    simp only [lt6, hi, decide_true, cond_true]
    rw [chk_in (by omega), w64_succ (by omega)]
    simp) (by
    unfold laws_eqVector.b0
    rfl)
  have hl' : loop (laws_eqVector.b0 a a) 0 = _ := hl
  rw [hl']; rfl
theorem eqAlg (p n : Int) (t f : Nat → UInt8) : laws_eqAlgebra.f p n t f p n t f = some true := by
  unfold laws_eqAlgebra.f
  simp only [bne_self_eq_false, cond_false, eqA666, eqV, Option.bind_some, Bool.not_true]
end Go.Proofs.Ytcombgcjgdkbiaa.G

/- The laws' copies of tables copy them. -/
set_option linter.unusedSimpArgs false
namespace Go.Proofs.Ytcombgcjgdkbiaa.G
open Go Go.Sx Go.Proofs

def cut0 (n : Nat) (t : Nat → UInt8) : Nat → UInt8 := fun k => if k < n then t k else 0

theorem toByteA6_eq (t : Nat → UInt8) : laws_toByteA6.f t = some (cut0 6 t) := by
  unfold laws_toByteA6.f
  have h := loop1_upto (f := laws_toByteA6.b0 t) (fun i => (cut0 i t, (i : Int))) 6 (cut0 6 t, 6) (by omega) (by
    intro i hi
    dsimp only [laws_toByteA6.b0]
    rw [show decide ((i : Int) < 6) = true by simp; omega, cond_true, chk_in (by omega), w64_succ (by omega)]
    congr 3
    funext k
    simp only [upd, cut0, Int.toNat_natCast]
    by_cases hk : k = i
    · subst hk; simp
    · by_cases hk2 : k < i
      · simp [hk, hk2, show k < i + 1 by omega]
      · simp [hk, hk2, show ¬ k < i + 1 by omega]) rfl
  have h0 : (cut0 0 t, ((0 : Nat) : Int)) = ((fun _ => (0 : UInt8)), (0 : Int)) := by
    congr 1
  rw [h0] at h
  rw [h]; rfl

theorem toByteA6A6_eq (t : Nat → UInt8) : laws_toByteA6A6.f t = some (cut0 36 t) := by
  unfold laws_toByteA6A6.f
  have h := loop1_upto (f := laws_toByteA6A6.b0 t) (fun i => (cut0 (i * 6) t, (i : Int))) 6 (cut0 36 t, 6) (by omega) (by
    intro i hi
    dsimp only [laws_toByteA6A6.b0]
    rw [show decide ((i : Int) < 6) = true by simp; omega, cond_true, chk_in (by omega), w64_succ (by omega), toByteA6_eq, Option.bind_some]
    congr 3
    funext k
    simp only [updN, cut0, sub, Int.toNat_natCast]
    by_cases h1 : i * 6 ≤ k ∧ k < i * 6 + 6
    · rw [if_pos h1, if_pos (by omega), if_pos (by omega)]
      congr 1; omega
    · rw [if_neg h1]
      by_cases h2 : k < i * 6
      · rw [if_pos h2, if_pos (by omega)]
      · rw [if_neg h2, if_neg (by omega)]) rfl
  have h0 : (cut0 (0 * 6) t, ((0 : Nat) : Int)) = ((fun _ => (0 : UInt8)), (0 : Int)) := by
    congr 1
  rw [h0] at h
  rw [h]; rfl

theorem toGroup_eq (a : Int) (t : Nat → UInt8) : laws_toGroup.f a t = some (a, cut0 36 t) := by
  unfold laws_toGroup.f
  rw [toByteA6A6_eq]; rfl
end Go.Proofs.Ytcombgcjgdkbiaa.G

/- Slices of numbers that come in: how large they are, and their copies. -/
namespace Go.Proofs.Ytcombgcjgdkbiaa.G
open Go Go.Sx Go.Proofs
theorem toS (a : List Int) (h : a.length ≤ 1048576) : laws_toInt64S.f a = some a := by
  unfold laws_toInt64S.f
  rw [small_in (by omega), Int.toNat_natCast]
  have hl := loop1_upto (f := laws_toInt64S.b0 a) (fun i => (a.take i ++ List.replicate (a.length - i) 0, (i : Int))) a.length (a, (a.length : Int)) (by omega) (fun i hi => by
    unfold laws_toInt64S.b0
    have e : (a.take i ++ List.replicate (a.length - i) (0 : Int)).length = a.length := by simp; omega
    simp only [dlt_nat, hi, decide_true, cond_true]
    rw [chk_in (by omega), e, chk_in (by omega), w64_succ (by omega), Int.toNat_natCast]
    have hg : gt a (i : Int) = a[i] := by simp [gt, List.getD, hi]
    have hm : (a.take i).length = i := by simp; omega
    have e2 : (a.take i ++ List.replicate (a.length - i) (0 : Int)).set i (gt a (i : Int)) = a.take (i + 1) ++ List.replicate (a.length - (i + 1)) 0 := by
      rw [hg, List.set_append_right _ _ (by omega), hm, Nat.sub_self, show a.length - i = (a.length - (i + 1)) + 1 by omega, List.replicate_succ, List.set_cons_zero, List.take_add_one, List.getElem?_eq_getElem hi]
      simp only [Option.toList_some, List.append_assoc, List.singleton_append]
    rw [e2]) (by
    unfold laws_toInt64S.b0
    simp)
  have hl' : loop1 (laws_toInt64S.b0 a) (List.replicate a.length 0, 0) = some (a, (a.length : Int)) := by simpa using hl
  rw [hl']; rfl
theorem szS (a : List Int) (l : Nat) (hl : l ≤ 1048576) (h : a.length ≤ 9223372036854775807) : (laws_szInt64S.f a l = some (-1) ∧ l < a.length) ∨ (laws_szInt64S.f a l = some ((l - a.length : Nat) : Int) ∧ a.length ≤ l) := by
  unfold laws_szInt64S.f
  rw [w64_in (by omega)]
  by_cases hc : a.length ≤ l
  · right
    have : decide (((l : Int) - (a.length : Int)) < 0) = false := by simp; omega
    rw [this]
    exact ⟨by rw [cond_false]; congr 1; omega, hc⟩
  · left
    have : decide (((l : Int) - (a.length : Int)) < 0) = true := by simp; omega
    rw [this]
    exact ⟨rfl, by omega⟩
end Go.Proofs.Ytcombgcjgdkbiaa.G

/- Rows of numbers that come in: how large they are, and their copies. -/
namespace Go.Proofs.Ytcombgcjgdkbiaa.G
open Go Go.Sx Go.Proofs
theorem gt_at {α : Type} [Inhabited α] {a : List α} {i : Nat} (h : i < a.length) : gt a (i : Int) = a[i] := by simp [gt, List.getD, h]
theorem toSS (a : List (List Int)) (h : a.length ≤ 1048576) (hr : ∀ r ∈ a, r.length ≤ 1048576) : laws_toInt64SS.f a = some a := by
  unfold laws_toInt64SS.f
  rw [small_in (by omega), Int.toNat_natCast]
  have hl := loop1_upto (f := laws_toInt64SS.b0 a) (fun i => (a.take i ++ List.replicate (a.length - i) [], (i : Int))) a.length (a, (a.length : Int)) (by omega) (fun i hi => by
    unfold laws_toInt64SS.b0
    have e : (a.take i ++ List.replicate (a.length - i) ([] : List Int)).length = a.length := by simp; omega
    simp only [dlt_nat, hi, decide_true, cond_true]
    rw [chk_in (by omega), gt_at hi, toS _ (hr _ (List.getElem_mem hi)), Option.bind_some, e, chk_in (by omega), w64_succ (by omega), Int.toNat_natCast]
    have hm : (a.take i).length = i := by simp; omega
    have e2 : (a.take i ++ List.replicate (a.length - i) ([] : List Int)).set i a[i] = a.take (i + 1) ++ List.replicate (a.length - (i + 1)) [] := by
      rw [List.set_append_right _ _ (by omega), hm, Nat.sub_self, show a.length - i = (a.length - (i + 1)) + 1 by omega, List.replicate_succ, List.set_cons_zero, List.take_add_one, List.getElem?_eq_getElem hi]
      simp only [Option.toList_some, List.append_assoc, List.singleton_append]
    rw [e2]) (by
    unfold laws_toInt64SS.b0
    simp)
  have hl' : loop1 (laws_toInt64SS.b0 a) (List.replicate a.length [], 0) = some (a, (a.length : Int)) := by simpa using hl
  rw [hl']; rfl
theorem szSS (a : List (List Int)) (l : Nat) (hl : l ≤ 1048576) (h : a.length ≤ 9223372036854775807) (hr : ∀ r ∈ a, r.length ≤ 9223372036854775807) :
    ∃ q, laws_szInt64SS.f a l = some q ∧ (q < 0 ∨ (0 ≤ q ∧ a.length ≤ l ∧ (∀ r ∈ a, r.length ≤ l) ∧ (a.map List.length).sum ≤ l)) := by
  unfold laws_szInt64SS.f
  rw [w64_in (by omega)]
  by_cases hc : a.length ≤ l
  · have e : decide (((l : Int) - (a.length : Int)) < 0) = false := by simp; omega
    rw [e, cond_false]
    obtain ⟨o, ho, hq⟩ := loop_run (f := laws_szInt64SS.b0 a) (fun s => ∃ (i k : Nat), s = ((k : Int), (i : Int)) ∧ i ≤ a.length ∧ k + ((a.take i).map List.length).sum ≤ l ∧ ∀ r ∈ a.take i, r.length ≤ l) (fun s => a.length - s.2.toNat)
      (fun o => match o with | .brk s => ∃ k : Nat, s.1 = (k : Int) ∧ (∀ r ∈ a, r.length ≤ l) ∧ (a.map List.length).sum ≤ l | .ret r => r = -1) (by
      rintro s ⟨i, k, rfl, hi, hk, hrs⟩
      unfold laws_szInt64SS.b0
      by_cases hlt : i < a.length
      · simp only [dlt_nat, hlt, decide_true, cond_true]
        rw [chk_in (by omega), gt_at hlt]
        rcases szS a[i] k (by omega) (hr _ (List.getElem_mem hlt)) with ⟨h1, h2⟩ | ⟨h1, h2⟩
        · rw [h1]
          exact .inr (.inr ⟨-1, rfl, rfl⟩)
        · rw [h1, Option.bind_some]
          have : decide (((k - a[i].length : Nat) : Int) < 0) = false := decide_eq_false (by omega)
          rw [this, cond_false, w64_succ (by omega)]
          have hsum : ((a.take (i + 1)).map List.length).sum = ((a.take i).map List.length).sum + a[i].length := by
            rw [List.take_add_one, List.getElem?_eq_getElem hlt, List.map_append, List.sum_append]
            simp only [Option.toList_some, List.map_cons, List.map_nil, List.sum_cons, List.sum_nil, Nat.add_zero]
          refine .inl ⟨_, rfl, ⟨i + 1, k - a[i].length, rfl, by omega, by rw [hsum]; omega, ?_⟩, by simp; omega⟩
          intro r hr'
          rw [List.take_add_one, List.getElem?_eq_getElem hlt] at hr'
          rcases List.mem_append.1 hr' with h | h
          · exact hrs r h
          · have : r = a[i] := by simpa using h
            subst this; omega
      · have hia : i = a.length := by omega
        subst hia
        simp only [dlt_nat, Nat.lt_irrefl, decide_false, cond_false]
        rw [List.take_length] at hrs hk
        exact .inr (.inl ⟨_, rfl, k, rfl, hrs, by omega⟩)) (((l : Int) - (a.length : Int)), 0) ⟨0, l - a.length, by simp; omega, by omega, by simp, by simp⟩ (by simp; omega)
    rw [ho]
    cases o with
    | brk s =>
      obtain ⟨k, hk, hrs, hsm⟩ := hq
      exact ⟨_, rfl, .inr ⟨by show 0 ≤ s.1; omega, hc, hrs, hsm⟩⟩
    | ret r => exact ⟨_, rfl, .inl (by simp only at hq; omega)⟩
  · have e : decide (((l : Int) - (a.length : Int)) < 0) = true := by simp; omega
    rw [e]
    exact ⟨_, rfl, .inl (by omega)⟩
end Go.Proofs.Ytcombgcjgdkbiaa.G

/- Slices of numbers: the same as themselves; marked, and held. -/
namespace Go.Proofs.Ytcombgcjgdkbiaa.G
open Go Go.Sx Go.Proofs
theorem eqS_refl (a : List Int) (h : a.length < 1000000000000) : laws_eqInt64S.f a a = some true := by
  unfold laws_eqInt64S.f
  have e : (((a.length : Nat) : Int) != (a.length : Int)) = false := by simp
  rw [e, cond_false]
  have hl := loop_upto (f := laws_eqInt64S.b0 a a) (fun i => (i : Int)) a.length (a.length : Int) (by omega) (fun i hi => by
    unfold laws_eqInt64S.b0
    simp only [dlt_nat, hi, decide_true, cond_true]
    rw [chk_in (by omega), chk_in (by omega), w64_succ (by omega)]
    simp) (by
    unfold laws_eqInt64S.b0
    simp)
  have hl' : loop (laws_eqInt64S.b0 a a) 0 = some (.brk (a.length : Int)) := hl
  rw [hl']; rfl
/-- So many numbers from k on. -/
def iota (k n : Nat) : List Int := (List.range n).map fun i => ((k + i : Nat) : Int)
theorem iota_length (k n : Nat) : (iota k n).length = n := by simp [iota]
theorem iota_gt {k n i : Nat} (h : i < n) : gt (iota k n) (i : Int) = ((k + i : Nat) : Int) := by simp [gt, iota, List.getD, h]
theorem markS (a : List Int) (k : Nat) (h : k + a.length < 1000000000000) : laws_markInt64S.f a k = some (((k + a.length : Nat) : Int), iota k a.length) := by
  unfold laws_markInt64S.f
  have hl := loop1_upto (f := laws_markInt64S.b0) (fun i => (iota k i ++ a.drop i, ((k + i : Nat) : Int), (i : Int))) a.length (iota k a.length, ((k + a.length : Nat) : Int), (a.length : Int)) (by omega) (fun i hi => by
    unfold laws_markInt64S.b0
    have e : (iota k i ++ a.drop i).length = a.length := by rw [List.length_append, iota_length, List.length_drop]; omega
    simp only [e, dlt_nat, hi, decide_true, cond_true]
    rw [chk_in (by omega), w64_succ (by omega), w64_succ (by omega), Int.toNat_natCast]
    have e2 : (iota k i ++ a.drop i).set i ((k + i : Nat) : Int) = iota k (i + 1) ++ a.drop (i + 1) := by
      rw [List.set_append_right _ _ (by rw [iota_length]; exact Nat.le_refl _), iota_length, Nat.sub_self]
      have h3 : a.drop i = a[i] :: a.drop (i + 1) := by rw [List.getElem_cons_drop]
      rw [h3, List.set_cons_zero]
      unfold iota
      rw [List.range_succ, List.map_append]
      simp
    rw [e2]
    rfl) (by
    unfold laws_markInt64S.b0
    simp [iota_length])
  have hl' : loop1 laws_markInt64S.b0 (a, (k : Int), 0) = some (iota k a.length, ((k + a.length : Nat) : Int), (a.length : Int)) := hl
  rw [hl']; rfl
theorem heldS (k n : Nat) (h : k + n < 1000000000000) : laws_heldInt64S.f (iota k n) k = some ((k + n : Nat) : Int) := by
  unfold laws_heldInt64S.f
  have hl := loop_upto (f := laws_heldInt64S.b0 (iota k n)) (fun i => (((k + i : Nat) : Int), (i : Int))) n (((k + n : Nat) : Int), (n : Int)) (by omega) (fun i hi => by
    unfold laws_heldInt64S.b0
    simp only [iota_length, dlt_nat, hi, decide_true, cond_true]
    rw [chk_in (by omega), iota_gt hi, w64_succ (by omega), w64_succ (by omega)]
    simp
    rfl) (by
    unfold laws_heldInt64S.b0
    simp [iota_length])
  have hl' : loop (laws_heldInt64S.b0 (iota k n)) ((k : Int), 0) = some (.brk (((k + n : Nat) : Int), (n : Int))) := hl
  rw [hl']; rfl
end Go.Proofs.Ytcombgcjgdkbiaa.G

/- Rows of numbers: the same as themselves; marked, and held. -/
namespace Go.Proofs.Ytcombgcjgdkbiaa.G
open Go Go.Sx Go.Proofs
/-- k and all the rows' lengths. -/
def tot (k : Nat) : List (List Int) → Nat
  | [] => k
  | r :: rs => tot (k + r.length) rs
def marks (k : Nat) : List (List Int) → List (List Int)
  | [] => []
  | r :: rs => iota k r.length :: marks (k + r.length) rs
theorem marks_length (k : Nat) (a : List (List Int)) : (marks k a).length = a.length := by
  induction a generalizing k with
  | nil => rfl
  | cons r rs ih => simp [marks, ih]
theorem tot_le (k : Nat) (a : List (List Int)) : k ≤ tot k a := by
  induction a generalizing k with
  | nil => exact Nat.le_refl _
  | cons r rs ih => have := ih (k + r.length); simp only [tot]; omega
theorem tot_append (k : Nat) (a b : List (List Int)) : tot k (a ++ b) = tot (tot k a) b := by
  induction a generalizing k with
  | nil => rfl
  | cons r rs ih => simp only [List.cons_append, tot]; exact ih _
theorem marks_append (k : Nat) (a b : List (List Int)) : marks k (a ++ b) = marks k a ++ marks (tot k a) b := by
  induction a generalizing k with
  | nil => rfl
  | cons r rs ih => simp only [List.cons_append, marks, tot, ih]
theorem take_one {α : Type} {a : List α} {i : Nat} (h : i < a.length) : a.take (i + 1) = a.take i ++ [a[i]] := by rw [List.take_add_one, List.getElem?_eq_getElem h]; rfl
theorem gt_get {α : Type} [Inhabited α] {a : List α} {i : Nat} (h : i < a.length) : gt a (i : Int) = a[i] := by simp [gt, List.getD, h]
theorem tot_part (k : Nat) {a : List (List Int)} {i : Nat} (h : i < a.length) : tot k (a.take (i + 1)) = tot k (a.take i) + a[i].length := by rw [take_one h, tot_append]; rfl
theorem tot_mono (k : Nat) (a : List (List Int)) (i : Nat) : tot k (a.take i) ≤ tot k a := by
  have h : tot k a = tot (tot k (a.take i)) (a.drop i) := by rw [← tot_append, List.take_append_drop]
  rw [h]; exact tot_le _ _
theorem eqSS_refl (a : List (List Int)) (h : a.length < 1000000000000) (hr : ∀ r ∈ a, r.length < 1000000000000) : laws_eqInt64SS.f a a = some true := by
  unfold laws_eqInt64SS.f
  have e : (((a.length : Nat) : Int) != (a.length : Int)) = false := by simp
  rw [e, cond_false]
  have hl := loop_upto (f := laws_eqInt64SS.b0 a a) (fun i => (i : Int)) a.length (a.length : Int) (by omega) (fun i hi => by
    unfold laws_eqInt64SS.b0
    simp only [dlt_nat, hi, decide_true, cond_true]
    rw [chk_in (by omega), chk_in (by omega), eqS_refl _ (hr _ (by rw [gt_get hi]; exact List.getElem_mem _)), w64_succ (by omega)]
    rfl) (by
    unfold laws_eqInt64SS.b0
    simp)
  have hl' : loop (laws_eqInt64SS.b0 a a) 0 = some (.brk (a.length : Int)) := hl
  rw [hl']; rfl
theorem markSS (a : List (List Int)) (k : Nat) (h : tot k a < 1000000000000) (ha : a.length < 1000000000000) : laws_markInt64SS.f a k = some ((tot k a : Int), marks k a) := by
  unfold laws_markInt64SS.f
  have hl := loop1_upto (f := laws_markInt64SS.b0) (fun i => (marks k (a.take i) ++ a.drop i, (tot k (a.take i) : Int), (i : Int))) a.length (marks k a, (tot k a : Int), (a.length : Int)) (by omega) (fun i hi => by
    unfold laws_markInt64SS.b0
    have hm : (marks k (a.take i)).length = i := by rw [marks_length, List.length_take]; omega
    have e : (marks k (a.take i) ++ a.drop i).length = a.length := by rw [List.length_append, hm, List.length_drop]; omega
    have h1 := tot_part k hi
    have h2 := tot_mono k a (i + 1)
    simp only [e, dlt_nat, hi, decide_true, cond_true]
    have hd : a.drop i = a[i] :: a.drop (i + 1) := by rw [List.getElem_cons_drop]
    have g : gt (marks k (a.take i) ++ a.drop i) (i : Int) = a[i] := by
      rw [gt_get (by rw [e]; exact hi), List.getElem_append_right (by omega)]
      simp [hm]
    rw [chk_in (by omega), g, markS _ _ (by omega)]
    simp only [Option.bind_some, Int.toNat_natCast, w64_succ (by omega : i < 4611686018427387904)]
    have e2 : (marks k (a.take i) ++ a.drop i).set i (iota (tot k (a.take i)) a[i].length) = marks k (a.take (i + 1)) ++ a.drop (i + 1) := by
      rw [List.set_append_right _ _ (by omega), hm, Nat.sub_self, hd, List.set_cons_zero, take_one hi, marks_append]
      simp [marks]
    rw [e2, h1]) (by
    unfold laws_markInt64SS.b0
    simp [marks_length])
  have hl' : loop1 laws_markInt64SS.b0 (a, (k : Int), 0) = some (marks k a, (tot k a : Int), (a.length : Int)) := hl
  rw [hl']; rfl
theorem marks_get (k : Nat) {a : List (List Int)} {i : Nat} (h : i < a.length) : gt (marks k a) (i : Int) = iota (tot k (a.take i)) a[i].length := by
  rw [gt_get (by rw [marks_length]; exact h)]
  have h1 : a = a.take i ++ a[i] :: a.drop (i + 1) := by rw [List.getElem_cons_drop, List.take_append_drop]
  have h2 : marks k a = marks k (a.take i) ++ (iota (tot k (a.take i)) a[i].length :: marks (tot k (a.take i) + a[i].length) (a.drop (i + 1))) := by
    conv => lhs; rw [h1]
    rw [marks_append]; rfl
  have hm : (marks k (a.take i)).length = i := by rw [marks_length, List.length_take]; omega
  have h3 : (marks k a)[i]? = some (iota (tot k (a.take i)) a[i].length) := by
    rw [h2, List.getElem?_append_right (by omega), hm, Nat.sub_self]; rfl
  rw [List.getElem?_eq_getElem (by rw [marks_length]; exact h)] at h3
  exact Option.some.inj h3
theorem heldSS (a : List (List Int)) (k : Nat) (h : tot k a < 1000000000000) (ha : a.length < 1000000000000) : laws_heldInt64SS.f (marks k a) k = some (tot k a : Int) := by
  unfold laws_heldInt64SS.f
  have hl := loop_upto (f := laws_heldInt64SS.b0 (marks k a)) (fun i => ((tot k (a.take i) : Int), (i : Int))) a.length ((tot k a : Int), (a.length : Int)) (by omega) (fun i hi => by
    unfold laws_heldInt64SS.b0
    have h1 := tot_part k hi
    have h2 := tot_mono k a (i + 1)
    simp only [marks_length, dlt_nat, hi, decide_true, cond_true]
    rw [chk_in (by omega), marks_get k hi, heldS _ _ (by omega), Option.bind_some, w64_succ (by omega), ← h1]
    have hd : decide ((tot k (a.take (i + 1)) : Int) < 0) = false := decide_eq_false (by omega)
    rw [hd]; rfl) (by
    unfold laws_heldInt64SS.b0
    simp [marks_length])
  have hl' : loop (laws_heldInt64SS.b0 (marks k a)) ((k : Int), 0) = some (.brk ((tot k a : Int), (a.length : Int))) := hl
  rw [hl']; rfl
theorem tot_eq (k : Nat) (a : List (List Int)) : tot k a = k + (a.map List.length).sum := by
  induction a generalizing k with
  | nil => rfl
  | cons r rs ih => simp only [tot, ih, List.map_cons, List.sum_cons]; omega
theorem sum_le_mul (c : Nat) : ∀ (a : List (List Int)), (∀ r ∈ a, r.length ≤ c) → (a.map List.length).sum ≤ c * a.length
  | [], _ => by simp
  | r :: rs, h => by
    have h1 := sum_le_mul c rs fun x hx => h x (List.mem_cons_of_mem _ hx)
    have h2 := h r (by simp)
    simp only [List.map_cons, List.sum_cons, List.length_cons, Nat.mul_add]; omega
end Go.Proofs.Ytcombgcjgdkbiaa.G

/- The law of TwistedAlgebra tells true. -/
namespace Go.Proofs.Ytcombgcjgdkbiaa.G
open Go Go.Sx Go.Proofs
def twRow (t : Nat → UInt8) (u : List (List Int)) (i : Nat) (a : Nat → UInt8) : Nat → (Nat → UInt8)
  | 0 => a
  | j + 1 => upd (twRow t u i a j) (i * 36 + j * 6 + tb t i j) (UInt8.ofInt (gt (gt u (i : Int)) (j : Int)))
def twAll (n : Nat) (t : Nat → UInt8) (u : List (List Int)) (a : Nat → UInt8) : Nat → (Nat → UInt8)
  | 0 => a
  | i + 1 => twRow t u i (twAll n t u a i) n
section
variable {n q : Nat} {t : Nat → UInt8} {u : List (List Int)} (hn : n ≤ 6) (he : ∀ i j, i < n → j < n → tb t i j < n) (hu : tabOk n q u = true)
include hn he hu
theorem specTw (a : Nat → UInt8) : loop1 (spec_TwistedAlgebra.b1 n u t) (a, 0) = some (twAll n t u a n, (n : Int)) := by
  refine loop1_upto (f := spec_TwistedAlgebra.b1 n u t) (fun i => (twAll n t u a i, (i : Int))) n _ (by omega) (fun i hi => ?_) ?_
  · unfold spec_TwistedAlgebra.b1
    obtain ⟨hl, li, _⟩ := tabOk_at hu hi
    simp only [dlt_nat, hi, decide_true, cond_true]
    have hin := loop1_upto (f := spec_TwistedAlgebra.b0 n i u t) (fun j => (twRow t u i (twAll n t u a i) j, (j : Int))) n (twRow t u i (twAll n t u a i) n, (n : Int)) (by omega) (fun j hj => by
      unfold spec_TwistedAlgebra.b0
      have hij := he i j hi hj
      have e5 : ((t (((i : Nat) : Int).toNat * 6 + ((j : Nat) : Int).toNat)).toNat : Int) = (tb t i j : Int) := rfl
      simp only [dlt_nat, hj, decide_true, cond_true, hl, li, e5]
      repeat rw [chk_in (by omega)]
      rw [w64_succ (by omega)]
      rfl) (by
      unfold spec_TwistedAlgebra.b0
      simp)
    have hin' : loop1 (spec_TwistedAlgebra.b0 n i u t) (twAll n t u a i, 0) = some (twRow t u i (twAll n t u a i) n, (n : Int)) := hin
    rw [hin']
    simp only [Option.bind_some, w64_succ (by omega : i < 4611686018427387904)]
    rfl
  · unfold spec_TwistedAlgebra.b1
    simp
theorem implTw (a : Nat → UInt8) : loop1 (impl_TwistedAlgebra.b1 u n t) (a, 0) = some (twAll n t u a n, (n : Int)) := by
  have hl0 : u.length = n := by
    unfold tabOk at hu
    simp only [Bool.and_eq_true, decide_eq_true_eq] at hu
    exact hu.1
  refine loop1_upto (f := impl_TwistedAlgebra.b1 u n t) (fun i => (twAll n t u a i, (i : Int))) n _ (by omega) (fun i hi => ?_) ?_
  · unfold impl_TwistedAlgebra.b1
    obtain ⟨hl, li, _⟩ := tabOk_at hu hi
    simp only [hl, dlt_nat, hi, decide_true, cond_true]
    rw [chk_in (by omega)]
    have hin := loop1_upto (f := impl_TwistedAlgebra.b0 u i n t) (fun j => (twRow t u i (twAll n t u a i) j, (j : Int))) n (twRow t u i (twAll n t u a i) n, (n : Int)) (by omega) (fun j hj => by
      unfold impl_TwistedAlgebra.b0
      have hij := he i j hi hj
      simp only [li, dlt_nat, hj, decide_true, cond_true]
      rw [chk_in (by omega), times_eq _ _ (by omega) (by omega), Option.bind_some]
      repeat rw [chk_in (by omega)]
      rw [w64_succ (by omega)]
      rfl) (by
      unfold impl_TwistedAlgebra.b0
      simp [li])
    have hin' : loop1 (impl_TwistedAlgebra.b0 u i n t) (twAll n t u a i, 0) = some (twRow t u i (twAll n t u a i) n, (n : Int)) := hin
    rw [hin']
    simp only [Option.bind_some, w64_succ (by omega : i < 4611686018427387904)]
    rfl
  · unfold impl_TwistedAlgebra.b1
    simp [hl0]
end
theorem ta_same (p g : Int) (t : Nat → UInt8) (u : List (List Int)) (h : u.length ≤ 1048576) (hr : ∀ r ∈ u, r.length ≤ 1048576) : ∃ a b c d e, spec_TwistedAlgebra.f p g t u = some (a, b, c, d, e) ∧ impl_TwistedAlgebra.f p g t u = some (a, b, c, d, e) := by
  obtain ⟨c, h1, h2, h3⟩ := tabled_same p g t u h hr
  unfold spec_TwistedAlgebra.f impl_TwistedAlgebra.f spec_l06Twist.f impl_twisting.f impl_IsCocycle.f
  rw [h1, h2]
  simp only [Option.bind_some]
  by_cases hc : c = 0
  · subst hc
    obtain ⟨n, q, rfl, k1, k2, k3, rfl, k4, k5, k6, k7⟩ := h3 rfl
    have hent : ∀ i j, i < n → j < n → tb t i j < n := by
      intro i j hi hj
      unfold groupB at k3
      simp only [Bool.and_eq_true, Bool.not_eq_true'] at k3
      exact badEs_entry k3.1 hi hj k2
    have ez : ((0 : Int) != 0) = false := rfl
    have ez2 : ((0 : Int) == 0) = true := rfl
    rw [ez, ez2]
    simp only [cond_false, cond_true]
    rw [specCoc k1 k2 hent ⟨k5, k6⟩ k7, implCoc k1 k2 hent ⟨k5, k6⟩ k7]
    simp only [Option.bind_some, Bool.true_and]
    cases hcc : cocB n q t (tn u) with
    | false => exact ⟨_, _, _, _, _, rfl, rfl⟩
    | true =>
      simp only [Bool.not_true, cond_false, ez, Bool.and_false]
      rw [specAlg k2 hent, implAlg k2 hent]
      simp only [Option.bind_some]
      rw [specTw k2 hent k7, implTw k2 hent k7]
      exact ⟨_, _, _, _, _, rfl, rfl⟩
  · have e2 : (c != 0) = true := by simpa using hc
    have e3 : (c == 0) = false := by simpa using hc
    rw [e2, e3]
    simp only [cond_true, cond_false, Bool.false_and, Option.bind_some, e2, e3]
    exact ⟨_, _, _, _, _, rfl, rfl⟩
theorem plain_FnExactTwistedAlgebra (p g : Int) (t : Nat → UInt8) (u : List (List Int)) (_wp : IntKind.i64.has p) (_wg : IntKind.i64.has g) (_w : ∀ r ∈ u, ∀ x ∈ r, IntKind.i64.has x) (z : ∀ r ∈ u, r.length ≤ 9223372036854775807) (y : u.length ≤ 9223372036854775807) : laws_FnExactTwistedAlgebra.f p g t u = some true := by
  unfold laws_FnExactTwistedAlgebra.f
  obtain ⟨q, hq, h⟩ := szSS u 1048576 (by omega) y z
  have hq' : laws_szInt64SS.f u 1048576 = some q := hq
  rw [hq', Option.bind_some]
  rcases h with h | ⟨h0, h1, h2, _⟩
  · rw [decide_eq_true h]; rfl
  · rw [decide_eq_false (by omega), cond_false]
    obtain ⟨a, b, c, d, e, e1, e2⟩ := ta_same p g (cut0 36 t) u h1 h2
    have b1 := eqSS_refl u (by omega) (fun r hr => by have := h2 r hr; omega)
    simp only [toGroup_eq, toSS u h1 h2, Option.bind_some, e1, e2, b1, eqAlg]
    simp
end Go.Proofs.Ytcombgcjgdkbiaa.G

/- Arg: a law's arguments, as they come in, in the calculus' own words. -/
namespace Go.Sx
open Go.RowKit

theorem okWide_agg {P : Program} {W : World} {r : Reach} {base : Nat} {t : TypeId} {v : Value} {ts : List TypeId} (ht : (match P.underlying t with | some (.struct _) | some (.array _ _) => true | _ => false) = true) (hts : P.cellTypes P.depth t = some ts) (h : Value.okWide P W r base t v) :
    ∃ cs, v = .agg cs ∧ cs.size = P.cellsOf t ∧ ∀ i u, cs[i]? = some u → ∃ k, ts[i % ts.length]? = some k ∧ Cell.okWide P W r base k u := by
  unfold Value.okWide at h
  split at h
  · obtain ⟨cs, h1, h2, ts', h3, _, h4⟩ := h
    rw [hts] at h3; obtain rfl := Option.some.inj h3
    exact ⟨cs, h1, h2, h4⟩
  · obtain ⟨cs, h1, h2, ts', h3, _, h4⟩ := h
    rw [hts] at h3; obtain rfl := Option.some.inj h3
    exact ⟨cs, h1, h2, h4⟩
  · rename_i h1 h2
    exfalso
    split at ht
    · exact h1 _ ‹_›
    · exact h2 _ _ ‹_›
    · cases ht

theorem okWide_int {P : Program} {W : World} {r : Reach} {base : Nat} {t : TypeId} {k : IntKind} {v : Value} (ht : P.underlying t = some (.int k)) (h : Cell.okWide P W r base t v) : ∃ n, v = .int k n ∧ k.has n := by
  unfold Cell.okWide at h
  rw [ht] at h
  unfold Cell.ok at h
  rw [ht] at h
  cases v <;> simp at h
  rename_i k' n
  obtain ⟨rfl, h2⟩ := h
  exact ⟨n, rfl, h2⟩

theorem u8block (cs : Array Value) (o m : Nat) (h : ∀ i, o ≤ i → i < o + m → ∃ n, cs[i]? = some (.int .u8 n) ∧ IntKind.u8.has n) : ∃ t : Nat → UInt8, (cs.toList.drop o).take m = flat [.arr m (enf u8v t)] := by
  refine ⟨fun k => match cs[o + k]? with | some (.int _ n) => UInt8.ofInt n | _ => 0, ?_⟩
  apply List.ext_getElem?
  intro i
  simp only [flat, Seg.cells, List.append_nil, List.getElem?_take, List.getElem?_drop, List.getElem?_map]
  by_cases hi : i < m
  · obtain ⟨n, hn, hw⟩ := h (o + i) (by omega) (by omega)
    have hn' : cs.toList[o + i]? = some (.int .u8 n) := by simpa using hn
    rw [if_pos hi, List.getElem?_range hi, hn']
    simp only [Option.map_some, enf, hn]
    congr 1
    rw [← conv_i64_u8]
    congr 1
    have hw' : 0 ≤ n ∧ n ≤ 255 := by
      simp only [IntKind.has, IntKind.min, IntKind.max, IntKind.signed, IntKind.bits] at hw
      simpa using hw
    rw [IntKind.wrap_u8]; omega
  · rw [if_neg hi]
    simp [hi]

theorem okWideV_int {P : Program} {W : World} {r : Reach} {base : Nat} {t : TypeId} {k : IntKind} {v : Value} (ht : P.underlying t = some (.int k)) (h : Value.okWide P W r base t v) : ∃ n, v = .int k n ∧ k.has n := by
  unfold Value.okWide at h
  rw [ht] at h
  exact okWide_int ht h
theorem okWideV_string {P : Program} {W : World} {r : Reach} {base : Nat} {t : TypeId} {v : Value} (ht : P.underlying t = some .string) (h : Value.okWide P W r base t v) : ∃ l : Str, v = strv l := by
  unfold Value.okWide at h
  rw [ht] at h
  simp only at h
  unfold Cell.okWide at h
  rw [ht] at h
  unfold Cell.ok at h
  rw [ht] at h
  cases v <;> simp at h
  rename_i s
  exact ⟨s.data.toList, by simp [strv]⟩
theorem i64cell (cs : Array Value) (o : Nat) (ho : o < cs.size) (h : ∀ u, cs[o]? = some u → ∃ n, u = .int .i64 n ∧ IntKind.i64.has n) : ∃ x, (cs.toList.drop o).take 1 = flat [.one (.int .i64 x)] ∧ IntKind.i64.has x := by
  obtain ⟨n, hn, hw⟩ := h cs[o] (by simp [ho])
  refine ⟨n, ?_, hw⟩
  have hl : o < cs.toList.length := by simpa using ho
  rw [List.drop_eq_getElem_cons hl, List.take_succ_cons, List.take_zero]
  simp [flat, Seg.cells, hn]
def pieces (l : List Value) : Nat → List Nat → List Value
  | _, [] => []
  | o, m :: r => (l.drop o).take m ++ pieces l (o + m) r
theorem pieces_eq (l : List Value) : ∀ (ns : List Nat) (o : Nat), l.length = o + ns.sum → pieces l o ns = l.drop o
  | [], o, h => by
    simp only [List.sum_nil, Nat.add_zero] at h
    simp [pieces, h]
  | m :: r, o, h => by
    simp only [List.sum_cons] at h
    rw [pieces, pieces_eq l r (o + m) (by omega), ← List.drop_drop, List.take_append_drop]

theorem encs_ints (ys : List Int) : encs Ei ys = ys.map (Value.int .i64) := by
  induction ys with
  | nil => rfl
  | cons y ys ih => simp only [encs, List.flatMap_cons, List.map_cons] at ih ⊢; rw [ih]; rfl
theorem okWideV_slice {P : Program} {W : World} {r : Reach} {base : Nat} {t e : TypeId} {v : Value} (ht : P.underlying t = some (.slice e)) (h : Value.okWide P W r base t v) : ∃ a n c, v = .slice a n c := by
  unfold Value.okWide at h
  rw [ht] at h
  simp only at h
  unfold Cell.okWide at h
  rw [ht] at h
  simp only at h
  unfold Cell.ok at h
  rw [ht] at h
  cases v <;> simp at h
  exact ⟨_, _, _, rfl⟩
/-- A slice of whole numbers that comes in. -/
theorem okWideV_ints {H : Type} {r : Reach} {base : Nat} {enc : TypeId × Value → H} {P : Program} {W : World} {sp : Nat → Bool} {held : Bool} {t e : TypeId} {v : Value} {d : DataW H} {p : List MemPlace} (ht : P.underlying t = some (.slice e)) (he : P.underlying e = some (.int .i64)) (hc : P.cellsOf e = 1)
    (hv : Value.okWide P W r base t v) (h : DataW.Trod enc P W 0 sp held t v d p) : ∃ (s : SV) (ys : List Int) (el spare : List (DataW H)), v = s.v ∧ Reads Ei (hp W) s ys ∧ (∀ x ∈ ys, IntKind.i64.has x) ∧ ((d = .nil ∧ ys = []) ∨ (d = .slice el spare ∧ ys.length = el.length + 0)) := by
  obtain ⟨m, hm⟩ := h
  obtain ⟨a1, n1, c1, rfl⟩ := okWideV_slice ht hv
  have hcl : (Value.slice a1 n1 c1).cells.toList = [Value.slice a1 n1 c1] := rfl
  rw [hcl] at hm
  rcases ChangeShapes.open_ints ht he hc hm with ⟨h1, h2⟩ | ⟨a, len, cap, zs, h1, _, h3, h4, h5, h6, h7, h8⟩
  · injection h1 with h1
    injection h2 with h2
    exact ⟨⟨none, 0, 0⟩, [], [], [], h1, ⟨rfl, Nat.le_refl _, by simp [maxLen], .inl rfl⟩, by simp, .inl ⟨h2, rfl⟩⟩
  · injection h1 with h1
    injection h6 with h6
    have hlen : len ≤ zs.length := by rw [h5]; split <;> omega
    refine ⟨⟨some a, len, cap⟩, zs.take len, _, _, h1, ⟨by simp; omega, h3, h4, ?_⟩, ?_, .inr ⟨h6, by simp [ChangeShapes.lits]⟩⟩
    · by_cases hl : len = 0
      · left; subst hl; simp
      · right
        have h0 := h7 0 (by omega)
        obtain ⟨b, o, sp'⟩ := a
        have e0 : (⟨b, o, sp'⟩ : Addr).add 0 = ⟨b, o, sp'⟩ := by simp [Addr.add]
        rw [e0] at h0
        unfold World.cell? at h0
        split at h0
        · rename_i cs T fr hb
          have hsp : sp' = none := by
            cases sp' with
            | none => rfl
            | some x => simp at h0
          subst hsp
          refine ⟨b, o, cs, T, fr, rfl, hb, ?_⟩
          intro j u hu
          rw [encs_ints, List.getElem?_map, List.getElem?_take] at hu
          split at hu
          · rename_i hj
            have hz := h7 j (by omega)
            rw [add_none, cell_at hb] at hz
            rw [hz, ← hu]
            have : zs[j]? = some (zs[j]'(by omega)) := List.getElem?_eq_getElem _
            simp [List.getD, this]
          · simp at hu
        · cases h0
    · intro x hx
      have := h8 x (List.mem_of_mem_take hx)
      simp only [Lit.wf, Bool.and_eq_true, decide_eq_true_eq] at this
      exact this

theorem reads_of {β : Type} {E : FE β} {W : World} {a : Addr} {n cap : Nat} {ys : List β} (hn : n = ys.length) (hpos : 0 < E.sz) (hc : ∀ (j : Nat) (u : Value), (encs E ys)[j]? = some u → W.cell? (a.add j) = some u) (h1 : n ≤ cap) (h2 : cap ≤ maxLen) : Reads E (hp W) ⟨some a, n, cap⟩ ys := by
  subst hn
  refine ⟨rfl, h1, h2, ?_⟩
  cases ys with
  | nil => exact .inl rfl
  | cons y ys =>
    right
    have hl : 0 < (encs E (y :: ys)).length := by rw [encs_length, List.length_cons, Nat.add_mul]; omega
    have h0 := hc 0 _ (List.getElem?_eq_getElem hl)
    obtain ⟨b, o, sp'⟩ := a
    have e0 : (⟨b, o, sp'⟩ : Addr).add 0 = ⟨b, o, sp'⟩ := by simp [Addr.add]
    rw [e0] at h0
    unfold World.cell? at h0
    split at h0
    · rename_i cs T fr hb
      have hsp : sp' = none := by
        cases sp' with
        | none => rfl
        | some x => simp at h0
      subst hsp
      refine ⟨b, o, cs, T, fr, rfl, hb, ?_⟩
      intro j u hu
      have := hc j u hu
      rwa [add_none, cell_at hb] at this
    · cases h0
theorem encs_svs (ys : List SV) : encs Ev ys = ys.map SV.v := by
  induction ys with
  | nil => rfl
  | cons y ys ih => simp only [encs, List.flatMap_cons, List.map_cons] at ih ⊢; rw [ih]; rfl
theorem Reads.len_le {β : Type} {E : FE β} {I : Hp} {s : SV} {ys : List β} (h : Reads E I s ys) : ys.length ≤ 9223372036854775807 := by
  obtain ⟨h0, h1, h2, _⟩ := h
  have : maxLen = 9223372036854775807 := rfl
  omega
/-- A slice of slices of whole numbers that comes in. -/
theorem okWideV_introws {H : Type} {r : Reach} {base : Nat} {enc : TypeId × Value → H} {P : Program} {W : World} {held : Bool} {t e q : TypeId} {v : Value} {d : DataW H} {p : List MemPlace} (ht : P.underlying t = some (.slice e)) (he : P.underlying e = some (.slice q)) (hq : P.underlying q = some (.int .i64)) (ce : P.cellsOf e = 1) (cq : P.cellsOf q = 1)
    (hv : Value.okWide P W r base t v) (h : DataW.Trod enc P W 0 (fun _ => true) held t v d p) : ∃ (s : SV) (ss : List SV) (yss : List (List Int)), v = s.v ∧ ReadsM Ei (hp W) s ss yss ∧ (∀ r ∈ yss, ∀ x ∈ r, IntKind.i64.has x) ∧ (∀ r ∈ yss, r.length ≤ 9223372036854775807) ∧ yss.length ≤ 9223372036854775807 := by
  obtain ⟨m, hm⟩ := h
  obtain ⟨a1, n1, c1, rfl⟩ := okWideV_slice ht hv
  have hcl : (Value.slice a1 n1 c1).cells.toList = [Value.slice a1 n1 c1] := rfl
  rw [hcl] at hm
  rcases Deep.open_int_rows ht he hq ce cq hm with ⟨h1, h2⟩ | ⟨a, len, cap, A, L, C, Z, h1, _, h3, h4, _, h5⟩
  · injection h1 with h1
    exact ⟨⟨none, 0, 0⟩, [], [], h1, ⟨⟨rfl, Nat.le_refl _, by simp [maxLen], .inl rfl⟩, rfl, by simp⟩, by simp, by simp, by simp⟩
  · injection h1 with h1
    have key : ∀ r, r < len → Reads Ei (hp W) ⟨A r, L r, C r⟩ ((Z r).take (L r)) := by
      intro r hr
      obtain ⟨g1, g2, g3, g4, g5, g6, g7⟩ := h5 r (by omega)
      cases hA : A r with
      | none =>
        have := g6 hA
        have hL : L r = 0 := by omega
        rw [hL]
        exact ⟨rfl, Nat.zero_le _, g3, .inl rfl⟩
      | some a' =>
        refine reads_of (by simp; omega) (by decide) ?_ g2 g3
        intro j u hu
        rw [encs_ints, List.getElem?_map, List.getElem?_take] at hu
        split at hu
        · rename_i hj
          have hz := (g7 a' hA).2 j (by omega)
          rw [hz, ← hu]
          have : (Z r)[j]? = some ((Z r)[j]'(by omega)) := List.getElem?_eq_getElem _
          simp [List.getD, this]
        · simp at hu
    have hM : ReadsM Ei (hp W) ⟨some a, len, cap⟩ ((List.range len).map fun r => ⟨A r, L r, C r⟩) ((List.range len).map fun r => (Z r).take (L r)) := by
      refine ⟨reads_of (by simp) (by decide) ?_ h3 h4, by simp, ?_⟩
      · intro j u hu
        rw [encs_svs, List.map_map, List.getElem?_map] at hu
        by_cases hj : j < len
        · rw [List.getElem?_range hj] at hu
          have := (h5 j (by omega)).1
          rw [this, ← hu]; rfl
        · simp [hj] at hu
      · intro j u ys h1 h2
        by_cases hj : j < len
        · rw [List.getElem?_map, List.getElem?_range hj] at h1 h2
          obtain rfl := Option.some.inj h1
          obtain rfl := Option.some.inj h2
          exact key j hj
        · simp [hj] at h1
    refine ⟨⟨some a, len, cap⟩, _, _, h1, hM, ?_, ?_, hM.2.1 ▸ hM.1.len_le⟩
    · intro r hr x hx
      obtain ⟨i, hi, rfl⟩ := List.mem_map.1 hr
      have := (h5 i (by have := List.mem_range.1 hi; omega)).2.2.2.2.1 x (List.mem_of_mem_take hx)
      simp only [Lit.wf, Bool.and_eq_true, decide_eq_true_eq] at this
      exact this
    · intro r hr
      obtain ⟨i, hi, rfl⟩ := List.mem_map.1 hr
      exact (key i (List.mem_range.1 hi)).len_le

theorem mapM_get {α β : Type} {f : α → Option β} : ∀ {l : List α} {xs : List β}, l.mapM f = some xs → ∀ {i : Nat} {a : α}, l[i]? = some a → ∃ y, f a = some y
  | [], _, _, _, _, h => by simp at h
  | a :: l, xs, hm, i, b, h => by
    rw [List.mapM_cons] at hm
    obtain ⟨y, hy, h2⟩ := Option.bind_eq_some_iff.1 hm
    obtain ⟨ys, hys, _⟩ := Option.bind_eq_some_iff.1 h2
    cases i with
    | zero => simp at h; subst h; exact ⟨y, hy⟩
    | succ i => exact mapM_get hys (by simpa using h)
/-- A slice of whole numbers that is a field of a struct that comes in. -/
theorem structInts {H : Type} {enc : TypeId × Value → H} {P : Program} {W : World} {sp : Nat → Bool} {held : Bool} {t e : TypeId} {fs : Array Field} {f : Field} {cs : Array Value} {d : DataW H} {p : List MemPlace} (ht : P.underlying t = some (.struct fs)) (h : DataW.Trod enc P W 0 sp held t (.agg cs) d p) (i : Nat) (hf : fs[i]? = some f)
    (hu : P.underlying f.type = some (.slice e)) (he : P.underlying e = some (.int .i64)) (hc : P.cellsOf e = 1) (h1 : P.cellsOf f.type = 1) {o : Nat} (ho : f.offset = o) :
    ∃ (s : SV) (ys : List Int), (cs.toList.drop o).take 1 = flat [.one (SV.v s)] ∧ Reads Ei (hp W) s ys ∧ (∀ x ∈ ys, IntKind.i64.has x) := by
  obtain ⟨m, hm⟩ := h
  have hcl : (Value.agg cs).cells.toList = cs.toList := rfl
  rw [hcl] at hm
  cases m with
  | zero => simp [DataW.trod] at hm
  | succ m =>
    unfold DataW.trod at hm
    rw [ht] at hm
    simp only at hm
    split at hm
    · obtain ⟨xs, hxs, _⟩ := Option.map_eq_some_iff.1 hm
      obtain ⟨y, hy⟩ := mapM_get hxs (i := i) (a := f) (by simpa using hf)
      rw [h1, ho] at hy
      rcases ChangeShapes.open_ints hu he hc hy with ⟨g1, g2⟩ | ⟨a, len, cap, zs, g1, _, g3, g4, g5, g6, g7, g8⟩
      · exact ⟨⟨none, 0, 0⟩, [], by rw [g1]; rfl, ⟨rfl, Nat.le_refl _, by simp [maxLen], .inl rfl⟩, by simp⟩
      · have hlen : len ≤ zs.length := by rw [g5]; split <;> omega
        refine ⟨⟨some a, len, cap⟩, zs.take len, by rw [g1]; rfl, reads_of (by simp; omega) (by decide) ?_ g3 g4, ?_⟩
        · intro j u hu'
          rw [encs_ints, List.getElem?_map, List.getElem?_take] at hu'
          split at hu'
          · rename_i hj
            have hz := g7 j (by omega)
            rw [hz, ← hu']
            have : zs[j]? = some (zs[j]'(by omega)) := List.getElem?_eq_getElem _
            simp [List.getD, this]
          · simp at hu'
        · intro x hx
          have := g8 x (List.mem_of_mem_take hx)
          simp only [Lit.wf, Bool.and_eq_true, decide_eq_true_eq] at this
          exact this
    · cases hm
end Go.Sx
