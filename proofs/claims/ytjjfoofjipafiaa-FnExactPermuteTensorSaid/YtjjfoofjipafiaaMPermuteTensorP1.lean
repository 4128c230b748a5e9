/- Plain laws. -/
import Derived.Test.YtjjfoofjipafiaaMPermuteTensor4
import Derived.ProofKit
import Derived.OpenShut
import Derived.ShutString
import Derived.ChangeOld
import Derived.Carry
import Derived.SizedLaws
import Derived.ChangeSlices
import Derived.Deep.Matrix
/- Pl: plain laws of the loops, and of whole numbers. -/
namespace Go.Sx

theorem loopN_mono {σ ρ : Type} {f : σ → Option (LR σ ρ)} : ∀ {k s o}, loopN f k s = some o → ∀ {k'}, k ≤ k' → loopN f k' s = some o
  | 0, _, _, h, _, _ => by cases h
  | k + 1, s, o, h, k', hk => by
    obtain ⟨j, rfl⟩ : ∃ j, k' = j + 1 := ⟨k' - 1, by omega⟩
    simp only [loopN] at h ⊢
    split at h
    · cases h
    · exact loopN_mono h (by omega)
    · exact h
    · exact h

theorem loop_run {σ ρ : Type} {f : σ → Option (LR σ ρ)} (Inv : σ → Prop) (m : σ → Nat) (Q : LO σ ρ → Prop)
    (h : ∀ s, Inv s → (∃ s', f s = some (.next s') ∧ Inv s' ∧ m s' < m s) ∨ (∃ s', f s = some (.brk s') ∧ Q (.brk s')) ∨ (∃ r, f s = some (.ret r) ∧ Q (.ret r)))
    (s : σ) (hs : Inv s) (hm : m s < 4611686018427387904) : ∃ o, loop f s = some o ∧ Q o := by
  have key : ∀ k s, Inv s → m s < k → ∃ o, loopN f k s = some o ∧ Q o := by
    intro k
    induction k with
    | zero => intro s _ h; omega
    | succ k ih =>
      intro s hs hm
      rcases h s hs with ⟨s', h1, h2, h3⟩ | ⟨s', h1, h2⟩ | ⟨r, h1, h2⟩
      · obtain ⟨o, ho, hq⟩ := ih s' h2 (by omega)
        exact ⟨o, by simp only [loopN, h1]; exact ho, hq⟩
      · exact ⟨_, by simp only [loopN, h1], h2⟩
      · exact ⟨_, by simp only [loopN, h1], h2⟩
  obtain ⟨o, ho, hq⟩ := key (m s + 1) s hs (by omega)
  exact ⟨o, loopN_mono ho (by unfold FUEL; omega), hq⟩

theorem loop1_of {σ : Type} {f : σ → Option (LB σ)} {s s' : σ} (h : loop (ρ := Empty) (fun s => (f s).map LB.lr) s = some (.brk s')) : loop1 f s = some s' := by
  unfold loop1; rw [h]

theorem loop1_run {σ : Type} {f : σ → Option (LB σ)} (Inv : σ → Prop) (m : σ → Nat) (Q : σ → Prop)
    (h : ∀ s, Inv s → (∃ s', f s = some (.next s') ∧ Inv s' ∧ m s' < m s) ∨ (∃ s', f s = some (.brk s') ∧ Q s'))
    (s : σ) (hs : Inv s) (hm : m s < 4611686018427387904) : ∃ o, loop1 f s = some o ∧ Q o := by
  obtain ⟨o, ho, hq⟩ := loop_run (ρ := Empty) (f := fun s => (f s).map LB.lr) Inv m (fun o => match o with | .brk s => Q s | .ret r => nomatch r) (by
    intro s hs
    rcases h s hs with ⟨s', h1, h2, h3⟩ | ⟨s', h1, h2⟩
    · exact .inl ⟨s', by rw [h1]; rfl, h2, h3⟩
    · exact .inr (.inl ⟨s', by rw [h1]; rfl, h2⟩)) s hs hm
  cases o with
  | brk s' => exact ⟨s', loop1_of ho, hq⟩
  | ret r => exact nomatch r

theorem loop_of {σ ρ : Type} {f : σ → Option (LR σ ρ)} {s : σ} {o : LO σ ρ} {k : Nat} (h : loopN f k s = some o) (hk : k ≤ 4611686018427387904) : loop f s = some o :=
  loopN_mono h (by unfold FUEL; omega)

/-- A loop that counts up to n, and leaves by its end. -/
theorem loop_upto {σ ρ : Type} {f : σ → Option (LR σ ρ)} (S : Nat → σ) (n : Nat) (b : σ) (hn : n < 4611686018427387904) (step : ∀ i, i < n → f (S i) = some (.next (S (i + 1)))) (fin : f (S n) = some (.brk b)) : loop f (S 0) = some (.brk b) := by
  have key : ∀ d i, i + d = n → loopN f (d + 1) (S i) = some (.brk b) := by
    intro d
    induction d with
    | zero => intro i hi; obtain rfl : i = n := by omega
              simp only [loopN, fin]
    | succ d ih => intro i hi; rw [loopN, step i (by omega)]; exact ih (i + 1) (by omega)
  exact loop_of (key n 0 (by omega)) (by omega)
theorem loop1_upto {σ : Type} {f : σ → Option (LB σ)} (S : Nat → σ) (n : Nat) (b : σ) (hn : n < 4611686018427387904) (step : ∀ i, i < n → f (S i) = some (.next (S (i + 1)))) (fin : f (S n) = some (.brk b)) : loop1 f (S 0) = some b :=
  loop1_of (loop_upto (ρ := Empty) (f := fun s => (f s).map LB.lr) S n b hn (fun i hi => by rw [step i hi]; rfl) (by rw [fin]; rfl))

/-- A loop that counts up to n and looks for something. -/
theorem loop_find {σ ρ : Type} {f : σ → Option (LR σ ρ)} (S : Nat → σ) (n : Nat) (bad : Nat → Bool) (r : Nat → ρ) (b : σ) (hn : n < 4611686018427387904)
    (step : ∀ i, i < n → f (S i) = some (bif bad i then .ret (r i) else .next (S (i + 1)))) (fin : f (S n) = some (.brk b)) :
    loop f (S 0) = some (match (List.range n).find? bad with | some i => .ret (r i) | none => .brk b) := by
  have key : ∀ d i, i + d = n → loopN f (d + 1) (S i) = some (match (List.range' i d).find? bad with | some i => .ret (r i) | none => .brk b) := by
    intro d
    induction d with
    | zero => intro i hi; obtain rfl : i = n := by omega
              simp only [loopN, fin]; rfl
    | succ d ih =>
      intro i hi
      rw [loopN, step i (by omega), List.range'_succ, List.find?_cons]
      cases hb : bad i with
      | true => rfl
      | false => exact ih (i + 1) (by omega)
  rw [List.range_eq_range']
  exact loop_of (key n 0 (by omega)) (by omega)
theorem loop_any {σ ρ : Type} {f : σ → Option (LR σ ρ)} (S : Nat → σ) (n : Nat) (bad : Nat → Bool) (r : ρ) (b : σ) (hn : n < 4611686018427387904)
    (step : ∀ i, i < n → f (S i) = some (bif bad i then .ret r else .next (S (i + 1)))) (fin : f (S n) = some (.brk b)) :
    loop f (S 0) = some (bif (List.range n).any bad then .ret r else .brk b) := by
  rw [loop_find S n bad (fun _ => r) b hn step fin]
  cases hf : (List.range n).find? bad with
  | none =>
    have : (List.range n).any bad = false := by
      rw [List.any_eq_false]; intro x hx; have := List.find?_eq_none.1 hf x hx; simpa using this
    rw [this]; rfl
  | some i =>
    have : (List.range n).any bad = true := List.any_eq_true.2 ⟨i, List.mem_of_find?_eq_some hf, List.find?_some hf⟩
    rw [this]; rfl

theorem w64_in {x : Int} (h : -9223372036854775808 ≤ x ∧ x ≤ 9223372036854775807) : w64 x = x := IntWalk.i64_in x h
theorem w64_succ {i : Nat} (h : i < 4611686018427387904) : w64 ((i : Int) + 1) = ((i + 1 : Nat) : Int) := by rw [w64_in (by omega)]; omega
theorem w64_pred {i : Nat} (h : i < 4611686018427387904) : w64 (((i + 1 : Nat) : Int) - 1) = (i : Int) := by rw [w64_in (by omega)]; omega
theorem chk_in {α : Type} {i : Int} {n : Nat} {k : Option α} (h : 0 ≤ i ∧ i < n) : chk i n k = k := if_pos h
theorem nz_in {α : Type} {b : Int} {k : Option α} (h : b ≠ 0) : nz b k = k := if_neg h
theorem small_in {α : Type} {n : Nat} {k : Option α} (h : n ≤ 1099511627776) : small n k = k := if_pos h
theorem dlt_nat (i n : Nat) : decide ((i : Int) < (n : Int)) = decide (i < n) := by simp
theorem beq_nat (a b : Nat) : ((a : Int) == (b : Int)) = decide (a = b) := by rw [Bool.eq_iff_iff]; simp; omega
theorem beq_nat0 (a : Nat) : ((a : Int) == 0) = decide (a = 0) := by rw [Bool.eq_iff_iff]; simp
theorem bne_nat (a b : Nat) : ((a : Int) != (b : Int)) = !decide (a = b) := by rw [bne, beq_nat]
theorem bne_nat0 (a : Nat) : ((a : Int) != 0) = !decide (a = 0) := by rw [bne, beq_nat0]
theorem any_congr {n : Nat} {p q : Nat → Bool} (h : ∀ i, i < n → p i = q i) : (List.range n).any p = (List.range n).any q := by
  rw [Bool.eq_iff_iff]
  simp only [List.any_eq_true, List.mem_range]
  constructor
  · rintro ⟨i, hi, hp⟩; exact ⟨i, hi, by rw [← h i hi]; exact hp⟩
  · rintro ⟨i, hi, hp⟩; exact ⟨i, hi, by rw [h i hi]; exact hp⟩
end Go.Sx

/- Slices of numbers that are searched. -/
namespace Go.Proofs.Ytjjfoofjipafiaa.G
open Go Go.Sx Go.Proofs
theorem gt_ix {α : Type} [Inhabited α] {a : List α} {i : Nat} (h : i < a.length) : gt a (i : Int) = a[i] := by simp [gt, List.getD, h]
theorem any_ix {α : Type} [Inhabited α] (a : List α) (p : α → Bool) : (List.range a.length).any (fun (i : Nat) => p (gt a (i : Int))) = a.any p := by
  rw [Bool.eq_iff_iff, List.any_eq_true, List.any_eq_true]
  constructor
  · rintro ⟨i, hi, h⟩
    have hi' := List.mem_range.1 hi
    exact ⟨a[i], List.getElem_mem _, by rwa [gt_ix hi'] at h⟩
  · rintro ⟨x, hx, h⟩
    obtain ⟨i, hi, rfl⟩ := List.mem_iff_getElem.1 hx
    exact ⟨i, List.mem_range.2 hi, by rw [gt_ix hi]; exact h⟩
theorem found {n : Nat} (p : Nat → Bool) (b : Int) : (((some (match (List.range n).find? p with | some i => LO.ret ((i : Nat) : Int) | none => LO.brk b) : Option (LO Int Int)).bind (ln fun _ => some (-1))).bind fun r_1 => some (decide (r_1 ≥ 0))) = some ((List.range n).any p) := by
  cases hfd : (List.range n).find? p with
  | none =>
    have : (List.range n).any p = false := by
      rw [List.any_eq_false]; intro x hx; have := List.find?_eq_none.1 hfd x hx; simpa using this
    rw [this]; rfl
  | some i =>
    have : (List.range n).any p = true := List.any_eq_true.2 ⟨i, List.mem_of_find?_eq_some hfd, List.find?_some hfd⟩
    rw [this]
    have hd : decide ((i : Int) ≥ 0) = true := by simp
    simp only [Option.bind_some, ln, hd]
theorem hasVal (a : List Int) (h : a.length < 1000000) (v : Int) : slices_Contains_int64_int64.f a v = some (a.any fun x => v == x) := by
  unfold slices_Contains_int64_int64.f slices_Index_int64_int64.f
  have hl := loop_find (f := slices_Index_int64_int64.b0 a v) (fun i => (i : Int)) a.length (fun (i : Nat) => v == gt a (i : Int)) (fun i => (i : Int)) (a.length : Int) (by omega) (fun i hi => by
    unfold slices_Index_int64_int64.b0
    simp only [dlt_nat, hi, decide_true, cond_true]
    rw [chk_in (by omega), w64_succ (by omega)]
    cases v == gt a (i : Int) <;> rfl) (by
    unfold slices_Index_int64_int64.b0
    simp)
  have hl' : loop (slices_Index_int64_int64.b0 a v) 0 = _ := hl
  rw [hl', ← any_ix a (fun x => v == x)]
  exact found _ _
end Go.Proofs.Ytjjfoofjipafiaa.G

/- The primes that are allowed, told by both. -/
namespace Go.Proofs.Ytjjfoofjipafiaa.G
open Go Go.Sx Go.Proofs
def primeB (p : Int) : Bool := ((((((p == 2) || (p == 3)) || (p == 5)) || (p == 7)) || (p == 11)) || (p == 13))
theorem specPrime (p : Int) : spec_l01Prime.f p = some (primeB p) := rfl
theorem implPrime (p : Int) : impl_isPrime.f p = some (primeB p) := by
  unfold impl_isPrime.f
  rw [hasVal _ (by simp)]
  simp only [Option.bind_some, List.any_cons, List.any_nil, Bool.or_false, primeB, Bool.or_assoc]
theorem primeB_le {p : Int} (h : primeB p = true) : 2 ≤ p ∧ p ≤ 13 := by
  unfold primeB at h
  simp only [Bool.or_eq_true, beq_iff_eq] at h
  omega
end Go.Proofs.Ytjjfoofjipafiaa.G

/- Slices of numbers that are searched by a test. -/
namespace Go.Proofs.Ytjjfoofjipafiaa.G
open Go Go.Sx Go.Proofs
theorem hasInts (a : List Int) (h : a.length < 10000000) (f : Int → Option Bool) (p : Int → Bool) (hf : ∀ x ∈ a, f x = some (p x)) : slices_ContainsFunc_int64_int64.f a f = some (a.any p) := by
  unfold slices_ContainsFunc_int64_int64.f slices_IndexFunc_int64_int64.f
  have hl := loop_find (f := slices_IndexFunc_int64_int64.b0 a f) (fun i => (i : Int)) a.length (fun (i : Nat) => p (gt a (i : Int))) (fun i => (i : Int)) (a.length : Int) (by omega) (fun i hi => by
    unfold slices_IndexFunc_int64_int64.b0
    simp only [dlt_nat, hi, decide_true, cond_true]
    rw [chk_in (by omega), hf _ (by rw [gt_ix hi]; exact List.getElem_mem _), Option.bind_some, w64_succ (by omega)]
    cases p (gt a (i : Int)) <;> rfl) (by
    unfold slices_IndexFunc_int64_int64.b0
    simp)
  have hl' : loop (slices_IndexFunc_int64_int64.b0 a f) 0 = _ := hl
  rw [hl', ← any_ix a p]
  exact found _ _
end Go.Proofs.Ytjjfoofjipafiaa.G

/- What a tensor is, told by both. -/
namespace Go.Proofs.Ytjjfoofjipafiaa.G
open Go Go.Sx Go.Proofs
set_option maxRecDepth 100000 in
theorem power_tab : ∀ n : Fin 7, ∀ k : Fin 17, 1 ≤ n.val → (impl_powerOf.f (n.val : Int) (k.val : Int)).isSome = true ∧ impl_powerOf.f (n.val : Int) (k.val : Int) = spec_l03Power.f (n.val : Int) (k.val : Int) := by decide +kernel
theorem power_same {n k : Int} (hn : 1 ≤ n ∧ n ≤ 6) (hk : 0 ≤ k ∧ k ≤ 16) : ∃ v, impl_powerOf.f n k = some v ∧ spec_l03Power.f n k = some v := by
  obtain ⟨a, rfl⟩ := Int.eq_ofNat_of_zero_le (show 0 ≤ n by omega)
  obtain ⟨b, rfl⟩ := Int.eq_ofNat_of_zero_le hk.1
  have := power_tab ⟨a, by omega⟩ ⟨b, by omega⟩ (by simp only; omega)
  simp only at this
  obtain ⟨v, hv⟩ := Option.isSome_iff_exists.1 this.1
  exact ⟨v, hv, by rw [← this.2]; exact hv⟩
theorem tensor_same (p n i o : Int) (l : List Int) (h : l.length ≤ 1048576) (hp : IntKind.i64.has p) : ∃ b, spec_l03Is.f p n i o l = some b ∧ impl_IsTensor.f p n i o l = some b := by
  unfold spec_l03Is.f impl_IsTensor.f impl_shapeOk.f impl_endsOk.f spec_l01In.f impl_in.f
  rw [specPrime, implPrime]
  simp only [Option.bind_some]
  cases hpr : primeB p with
  | false => exact ⟨_, rfl, rfl⟩
  | true =>
    have hpb := primeB_le hpr
    simp only [Bool.not_true, cond_false, cond_true, Option.bind_some]
    cases h1 : (decide (n ≥ 1) && decide (n ≤ 6)) with
    | false => exact ⟨_, rfl, rfl⟩
    | true =>
      simp only [Bool.not_true, cond_false, Option.bind_some]
      cases h2 : (decide (i ≥ 0) && decide (i ≤ 8)) with
      | false => exact ⟨_, rfl, rfl⟩
      | true =>
        simp only [Bool.not_true, cond_false, Option.bind_some]
        cases h3 : (decide (o ≥ 0) && decide (o ≤ 8)) with
        | false => exact ⟨_, rfl, rfl⟩
        | true =>
          simp only [Bool.and_eq_true, decide_eq_true_eq] at h1 h2 h3
          simp only [Bool.not_true, cond_false]
          rw [w64_in (x := i + o) (by omega)]
          obtain ⟨v, e1, e2⟩ := power_same (n := n) (k := i + o) (by omega) (by omega)
          rw [e1, e2]
          simp only [Option.bind_some]
          have hc := hasInts l (by omega) (fun x0_ => impl_IsTensor_1.f x0_ p n i o l) (fun x => !(decide (x ≥ 0) && decide (x ≤ p - 1))) (fun x _ => by
            unfold impl_IsTensor_1.f impl_in.f
            rw [w64_in (x := p - 1) (by omega)]
            rfl)
          rw [hc, Option.bind_some]
          refine ⟨_, ?_, rfl⟩
          by_cases hv : v > 1296
          · have : decide (v ≤ 1296) = false := decide_eq_false (by omega)
            rw [decide_eq_true hv, this]; rfl
          · have : decide (v ≤ 1296) = true := decide_eq_true (by omega)
            rw [decide_eq_false hv, this]
            simp only [Bool.false_or, Bool.true_and, bne]
            cases hlen : ((l.length : Int) == v) with
            | false => rfl
            | true =>
              simp only [Bool.not_true, cond_false, Bool.true_and]
              have hl := loop_any (f := spec_l03Is.b0 l p) (fun q => (q : Int)) l.length (fun (q : Nat) => !(decide (gt l (q : Int) ≥ 0) && decide (gt l (q : Int) ≤ p - 1))) false (l.length : Int) (by omega) (fun q hq => by
                unfold spec_l03Is.b0 spec_l01In.f
                simp only [dlt_nat, hq, decide_true, cond_true]
                rw [chk_in (by omega), w64_in (x := p - 1) (by omega), Option.bind_some, w64_succ (by omega)]
                cases (decide (gt l (q : Int) ≥ 0) && decide (gt l (q : Int) ≤ p - 1)) <;> rfl) (by
                unfold spec_l03Is.b0
                simp)
              have hl' : loop (spec_l03Is.b0 l p) 0 = _ := hl
              rw [hl', any_ix l (fun x => !(decide (x ≥ 0) && decide (x ≤ p - 1)))]
              cases l.any (fun x => !(decide (x ≥ 0) && decide (x ≤ p - 1))) <;> rfl
end Go.Proofs.Ytjjfoofjipafiaa.G

/- A list that has each number less than n once, told by both. -/
namespace Go.Proofs.Ytjjfoofjipafiaa.G
open Go Go.Sx Go.Proofs
/-- What is wrong at place k. -/
def legBad (l : List Int) (n : Int) (k : Nat) : Bool := !(decide (gt l (k : Int) ≥ 0) && decide (gt l (k : Int) ≤ n - 1)) || (List.range k).any (fun i => gt l (i : Int) == gt l (k : Int))
theorem specLegs {l : List Int} {n : Int} (hl : l.length ≤ 1048576) (hn : 0 ≤ n ∧ n ≤ 8) : spec_l03Legs.f l n = some (!(List.range l.length).any (legBad l n) && ((l.length : Int) == n)) := by
  unfold spec_l03Legs.f
  have h := loop_any (f := spec_l03Legs.b0 l n) (fun k => ((fun j : Nat => (List.range k).any (fun i => gt l (i : Int) == (j : Int))), (k : Int))) l.length (legBad l n) false ((fun j : Nat => (List.range l.length).any (fun i => gt l (i : Int) == (j : Int))), (l.length : Int)) (by omega) (fun k hk => by
    unfold spec_l03Legs.b0 spec_l01In.f legBad
    simp only [dlt_nat, hk, decide_true, cond_true]
    rw [chk_in (by omega), w64_in (x := n - 1) (by omega), Option.bind_some, w64_succ (by omega)]
    cases hr : (decide (gt l (k : Int) ≥ 0) && decide (gt l (k : Int) ≤ n - 1)) with
    | false => rfl
    | true =>
      simp only [Bool.and_eq_true, decide_eq_true_eq] at hr
      simp only [Bool.not_true, cond_false, Bool.false_or]
      have hc : (((gt l (k : Int)).toNat : Nat) : Int) = gt l (k : Int) := by omega
      rw [chk_in (by simp; omega), chk_in (by simp; omega), Option.bind_some, hc]
      cases (List.range k).any (fun i => gt l (i : Int) == gt l (k : Int)) with
      | true => rfl
      | false =>
        simp only [cond_false]
        congr 3
        funext j
        unfold upd
        rw [List.range_succ, List.any_append]
        by_cases hj : j = (gt l (k : Int)).toNat
        · subst hj
          simp [hc]
        · have : (gt l (k : Int) == (j : Int)) = false := by
            rw [beq_eq_false_iff_ne]; omega
          simp [hj, this]) (by
    unfold spec_l03Legs.b0
    simp)
  have e0 : (fun j : Nat => (List.range 0).any (fun i => gt l (i : Int) == (j : Int))) = fun _ => false := by funext j; rfl
  rw [e0] at h
  have h' : loop (spec_l03Legs.b0 l n) ((fun _ => false), 0) = _ := h
  rw [h']
  cases (List.range l.length).any (legBad l n) <;> rfl
theorem srt_perm (l : List Int) : (srt l).Perm l := List.mergeSort_perm l _
theorem srt_le (l : List Int) {i j : Nat} (hj : j < (srt l).length) (h : i < j) : (srt l)[i]'(Nat.lt_trans h hj) ≤ (srt l)[j] := by
  have := List.pairwise_mergeSort (le := fun x y : Int => decide (x ≤ y)) (by simp; omega) (by simp; omega) l
  have h2 := List.pairwise_iff_getElem.1 this i j (Nat.lt_trans h hj) hj h
  exact of_decide_eq_true h2
theorem order_same {l : List Int} {n : Int} (hl : l.length ≤ 1048576) (hn : 0 ≤ n ∧ n ≤ 8) : spec_l03Legs.f l n = some (ordB l n) ∧ impl_isOrder.f l n = some (ordB l n) := by
  refine ⟨?_, if_pos hl⟩
  rw [specLegs hl hn]
  congr 1
  rw [Bool.eq_iff_iff]
  unfold ordB
  simp only [Bool.and_eq_true, Bool.not_eq_true', decide_eq_true_eq, beq_iff_eq]
  constructor
  · rintro ⟨h, hlen⟩
    refine ⟨?_, hlen⟩
    rw [List.any_eq_false] at h
    have hb : ∀ k, k < l.length → (0 ≤ gt l (k : Int) ∧ gt l (k : Int) ≤ n - 1) ∧ ∀ i, i < k → gt l (i : Int) ≠ gt l (k : Int) := by
      intro k hk
      have := h k (List.mem_range.2 hk)
      unfold legBad at this
      simp only [Bool.not_eq_true, Bool.or_eq_false_iff, Bool.not_eq_false', Bool.and_eq_true, decide_eq_true_eq, List.any_eq_false, List.mem_range, beq_iff_eq] at this
      exact ⟨by omega, this.2⟩
    have nd : l.Nodup := by
      rw [List.nodup_iff_pairwise_ne, List.pairwise_iff_getElem]
      intro i j hi hj hij
      have := (hb j hj).2 i hij
      rwa [gt_ix hi, gt_ix hj] at this
    have nd2 : (srt l).Nodup := (srt_perm l).nodup_iff.2 nd
    rw [List.nodup_iff_pairwise_ne, List.pairwise_iff_getElem] at nd2
    have hlt : ∀ i j (hj : j < (srt l).length) (hij : i < j), (srt l)[i]'(Nat.lt_trans hij hj) < (srt l)[j] := by
      intro i j hj hij
      have h1 := srt_le l hj hij
      have h2 := nd2 i j (Nat.lt_trans hij hj) hj hij
      omega
    have hin : ∀ j (hj : j < (srt l).length), 0 ≤ (srt l)[j] ∧ (srt l)[j] ≤ n - 1 := by
      intro j hj
      have hm := (srt_perm l).mem_iff.1 (List.getElem_mem hj)
      obtain ⟨i, hi, he⟩ := List.getElem_of_mem hm
      have := (hb i hi).1
      rw [gt_ix hi, he] at this
      exact this
    have lo : ∀ j (hj : j < (srt l).length), (j : Int) ≤ (srt l)[j] := by
      intro j
      induction j with
      | zero => intro hj; exact (hin 0 hj).1
      | succ j ih =>
        intro hj
        have h1 := ih (by omega)
        have h2 := hlt j (j + 1) hj (by omega)
        omega
    have hi : ∀ d j (hj : j < (srt l).length), j + 1 + d = (srt l).length → (srt l)[j] ≤ (j : Int) := by
      intro d
      induction d with
      | zero =>
        intro j hj e
        have := (hin j hj).2
        rw [srt_length] at e
        omega
      | succ d ih =>
        intro j hj e
        have h1 := ih (j + 1) (by omega) (by omega)
        have h2 := hlt j (j + 1) (by omega) (by omega)
        omega
    intro j hj
    have hj2 : j < (srt l).length := by rw [srt_length]; exact hj
    rw [List.getElem?_eq_getElem hj2, Option.getD_some]
    have h1 := lo j hj2
    have h2 := hi ((srt l).length - (j + 1)) j hj2 (by omega)
    omega
  · rintro ⟨h, hlen⟩
    refine ⟨?_, hlen⟩
    have hs : ∀ j (hj : j < (srt l).length), (srt l)[j] = (j : Int) := by
      intro j hj
      have := h j (by rw [← srt_length l]; exact hj)
      rwa [List.getElem?_eq_getElem hj, Option.getD_some] at this
    have nd : (srt l).Nodup := by
      rw [List.nodup_iff_pairwise_ne, List.pairwise_iff_getElem]
      intro i j hi hj hij
      rw [hs i hi, hs j hj]
      omega
    have nd2 : l.Nodup := (srt_perm l).nodup_iff.1 nd
    rw [List.nodup_iff_pairwise_ne, List.pairwise_iff_getElem] at nd2
    rw [List.any_eq_false]
    intro k hk
    have hk := List.mem_range.1 hk
    unfold legBad
    simp only [Bool.not_eq_true, Bool.or_eq_false_iff, Bool.not_eq_false', Bool.and_eq_true, decide_eq_true_eq, List.any_eq_false, List.mem_range, beq_iff_eq]
    refine ⟨?_, fun i hi => ?_⟩
    · have hm := (srt_perm l).mem_iff.2 (List.getElem_mem hk)
      obtain ⟨i, hi, he⟩ := List.getElem_of_mem hm
      rw [gt_ix hk, ← he, hs i hi]
      rw [srt_length] at hi
      omega
    · rw [gt_ix hk, gt_ix (by omega)]
      exact nd2 i k (by omega) hk hi
end Go.Proofs.Ytjjfoofjipafiaa.G

/- Rests: told by both. -/
namespace Go.Proofs.Ytjjfoofjipafiaa.G
open Go Go.Sx Go.Proofs
theorem rs_emod {p : Int} (x : Int) (hp : 2 ≤ p ∧ p ≤ 13) : Int.tmod (w64 (Int.tmod x p + p)) p = x % p := by
  have h1 := Int.tmod_lt_of_pos x (show 0 < p by omega)
  have h2 := Int.lt_tmod_of_pos x (show 0 < p by omega)
  rw [w64_in (by omega), Int.tmod_eq_emod_of_nonneg (by omega), Int.add_emod_right]
  have h3 : Int.tmod x p + p * Int.tdiv x p = x := Int.tmod_add_mul_tdiv x p
  conv => rhs; rw [← h3]
  rw [Int.add_mul_emod_self_left]
theorem specMod {p : Int} (x : Int) (hp : 2 ≤ p ∧ p ≤ 13) : spec_l01Mod.f p x = some (x % p) := by
  unfold spec_l01Mod.f
  rw [nz_in (by omega), rs_emod x hp]
theorem implRest {p : Int} (x : Int) (hp : 2 ≤ p ∧ p ≤ 13) : impl_rest.f x p = some (x % p) := by
  unfold impl_rest.f
  rw [nz_in (by omega), rs_emod x hp]
theorem emod_b {p : Int} (x : Int) (hp : 2 ≤ p ∧ p ≤ 13) : 0 ≤ x % p ∧ x % p < p := ⟨Int.emod_nonneg _ (by omega), Int.emod_lt_of_pos _ (by omega)⟩
/-- So many whole numbers. -/
def zl (n : Nat) (e : Nat → Int) : List Int := (List.range n).map e
theorem zl_length (n : Nat) (e : Nat → Int) : (zl n e).length = n := by simp [zl]
theorem zl_gt {n : Nat} (e : Nat → Int) {k : Nat} (hk : k < n) : gt (zl n e) (k : Int) = e k := by simp [gt, zl, List.getD, hk]
theorem zl_set {n : Nat} (e : Nat → Int) {k : Nat} (v : Int) (hk : k < n) : (zl n e).set k v = zl n (fun x => if x = k then v else e x) := by
  apply List.ext_getElem?
  intro q
  simp only [zl, List.getElem?_set, List.length_map, List.length_range, List.getElem?_map]
  by_cases hq : q < n
  · by_cases h : k = q
    · subst h; simp [hk]
    · have : ¬ q = k := fun e => h e.symm
      simp [hq, h, this]
  · by_cases h : k = q
    · omega
    · simp [hq, h]
theorem zl_congr {n : Nat} {e f : Nat → Int} (h : ∀ i, i < n → e i = f i) : zl n e = zl n f := by
  unfold zl
  refine List.map_congr_left fun i hi => ?_
  rw [h i (List.mem_range.1 hi)]
theorem zl_rep (n : Nat) (v : Int) : List.replicate n v = zl n (fun _ => v) := by
  apply List.ext_getElem?
  intro q
  by_cases hq : q < n <;> simp [zl, hq]
theorem zl_cons (n : Nat) (e : Nat → Int) (v : Int) : [v] ++ zl n e = zl (n + 1) (fun i => if i = 0 then v else e (i - 1)) := by
  unfold zl
  rw [List.range_succ_eq_map, List.map_cons, List.map_map]
  simp only [List.singleton_append, if_pos]
  congr 1
theorem zl_of {l : List Int} : l = zl l.length (fun i => gt l (i : Int)) := by
  apply List.ext_getElem?
  intro q
  by_cases hq : q < l.length
  · simp [zl, hq, gt, List.getD]
  · simp [zl, hq]
end Go.Proofs.Ytjjfoofjipafiaa.G

/- Digits of a number, and tensors that are told by them. -/
namespace Go.Proofs.Ytjjfoofjipafiaa.G
open Go Go.Sx Go.Proofs
set_option maxRecDepth 100000 in
theorem pw_tab : ∀ n : Fin 7, ∀ k : Fin 17, 1 ≤ n.val → (match impl_powerOf.f (n.val : Int) (k.val : Int) with | some v => decide (if n.val ^ k.val ≤ 1296 then v = ((n.val ^ k.val : Nat) : Int) else v > 1296) | none => false) = true := by decide +kernel
theorem pw_both {n k : Nat} (hn : 1 ≤ n ∧ n ≤ 6) (hk : k ≤ 16) : ∃ v, impl_powerOf.f n k = some v ∧ spec_l03Power.f n k = some v ∧ (n ^ k ≤ 1296 → v = ((n ^ k : Nat) : Int)) ∧ (1296 < n ^ k → v > 1296) := by
  obtain ⟨v, h1, h2⟩ := power_same (n := (n : Int)) (k := (k : Int)) (by omega) (by omega)
  have h := pw_tab ⟨n, by omega⟩ ⟨k, by omega⟩ (by simp only; omega)
  simp only at h
  rw [h1] at h
  simp only [decide_eq_true_eq] at h
  refine ⟨v, h1, h2, fun hle => ?_, fun hlt => ?_⟩
  · rw [if_pos hle] at h; exact h
  · rw [if_neg (by omega)] at h; exact h
/-- The digits of a number, so many of them. -/
def dg (n m x : Nat) : List Int := zl m (fun i => ((x / n ^ (m - 1 - i) % n : Nat) : Int))
theorem dg_length (n m x : Nat) : (dg n m x).length = m := by simp [dg, zl_length]
theorem zl_takek {n k : Nat} (e : Nat → Int) (h : k ≤ n) : (zl n e).take k = zl k e := by
  unfold zl
  rw [← List.map_take, List.take_range, Nat.min_eq_left h]
theorem zl_dropk (a b : Nat) (e : Nat → Int) : (zl (a + b) e).drop a = zl b (fun i => e (a + i)) := by
  apply List.ext_getElem?
  intro q
  by_cases hq : q < b <;> simp [zl, hq]
theorem zl_snoc (k : Nat) (e : Nat → Int) : zl (k + 1) e = zl k e ++ [e k] := by simp [zl, List.range_succ]
theorem dg_take (n a b x : Nat) : (dg n (a + b) x).take a = dg n a (x / n ^ b) := by
  unfold dg
  rw [zl_takek _ (by omega)]
  refine zl_congr fun i hi => ?_
  rw [Nat.div_div_eq_div_mul, ← Nat.pow_add, show b + (a - 1 - i) = a + b - 1 - i by omega]
theorem dg_mod (n b x : Nat) : dg n b (x % n ^ b) = dg n b x := by
  unfold dg
  refine zl_congr fun i hi => ?_
  have e : n ^ b = n ^ (b - 1 - i) * (n ^ i * n) := by
    rw [← Nat.pow_succ, ← Nat.pow_add]; congr 1; omega
  rw [e, Nat.mod_mul_right_div_self, Nat.mod_mod_of_dvd _ (Nat.dvd_mul_left n (n ^ i))]
theorem dg_drop (n a b x : Nat) : (dg n (a + b) x).drop a = dg n b (x % n ^ b) := by
  rw [dg_mod]
  unfold dg
  rw [zl_dropk]
  refine zl_congr fun i hi => ?_
  rw [show a + b - 1 - (a + i) = b - 1 - i by omega]
theorem dg_succ (n m x : Nat) : dg n (m + 1) x = dg n m (x / n) ++ [((x % n : Nat) : Int)] := by
  unfold dg
  rw [zl_snoc]
  congr 1
  · refine zl_congr fun i hi => ?_
    rw [Nat.div_div_eq_div_mul, ← Nat.pow_succ', show m + 1 - 1 - i = m - 1 - i + 1 by omega]
  · simp
/-- The number of digits. -/
def pl (n : Int) (acc : Int) (l : List Int) : Int := l.foldl (fun a d => a * n + d) acc
theorem pl_dg {n : Nat} : ∀ (m x : Nat) (acc : Nat), x < n ^ m → pl n acc (dg n m x) = ((acc * n ^ m + x : Nat) : Int)
  | 0, x, acc, h => by
    have : x = 0 := by simpa using h
    subst this
    simp [pl, dg, zl]
  | m + 1, x, acc, h => by
    have hn : 0 < n := by
      rcases Nat.eq_zero_or_pos n with h0 | h0
      · subst h0; simp at h
      · exact h0
    rw [dg_succ]
    have hx : x / n < n ^ m := by
      rw [Nat.div_lt_iff_lt_mul hn]; rw [Nat.pow_succ] at h; exact h
    have ih := pl_dg m (x / n) acc hx
    unfold pl at ih ⊢
    rw [List.foldl_append, ih]
    simp only [List.foldl_cons, List.foldl_nil]
    have := Nat.div_add_mod x n
    rw [Nat.pow_succ, ← Int.natCast_mul, ← Int.natCast_add]
    congr 1
    rw [Nat.add_mul, Nat.mul_assoc, Nat.add_assoc, Nat.mul_comm (x / n) n, this]
theorem dg_inj {n m x y : Nat} (hx : x < n ^ m) (hy : y < n ^ m) (h : dg n m x = dg n m y) : x = y := by
  have h1 := pl_dg (n := n) m x 0 hx
  have h2 := pl_dg (n := n) m y 0 hy
  rw [h] at h1
  rw [h1] at h2
  omega
theorem w64_nat {q : Nat} (h : q ≤ 100000) : w64 (q : Int) = (q : Int) := w64_in (by omega)
theorem implDigits {n m x : Nat} (hn : 1 ≤ n ∧ n ≤ 6) (hm : m ≤ 16) (hx : x ≤ 100000) : impl_digits.f x n m = some (dg n m x) := by
  unfold impl_digits.f
  have g : decide ((0 : Int) ≤ (m : Int)) = true := by simp
  rw [g, Int.toNat_natCast]
  simp only [grd, cond_true]
  rw [small_in (by omega), zl_rep]
  have h := loop1_upto (f := impl_digits.b0 n) (fun k => (((x / n ^ k : Nat) : Int), zl m (fun i => if i + k < m then 0 else ((x / n ^ (m - 1 - i) % n : Nat) : Int)), (m : Int) - 1 - (k : Int))) m (((x / n ^ m : Nat) : Int), dg n m x, -1) (by omega) (fun k hk => by
    unfold impl_digits.b0
    have d1 : decide ((m : Int) - 1 - (k : Int) ≥ 0) = true := by simp; omega
    have e2 : (m : Int) - 1 - (k : Int) = ((m - 1 - k : Nat) : Int) := by omega
    have hle : x / n ^ k ≤ 100000 := Nat.le_trans (Nat.div_le_self _ _) hx
    have hd : Int.tdiv ((x / n ^ k : Nat) : Int) (n : Int) = ((x / n ^ (k + 1) : Nat) : Int) := by
      rw [← Int.ofNat_tdiv, Nat.div_div_eq_div_mul, Nat.pow_succ]
    have hle2 : x / n ^ (k + 1) ≤ 100000 := Nat.le_trans (Nat.div_le_self _ _) hx
    simp only [d1, cond_true]
    rw [nz_in (by omega), e2, zl_length, chk_in (by omega), hd, w64_nat hle2, w64_in (by omega), Int.toNat_natCast, ← Int.ofNat_tmod, zl_set _ _ (by omega)]
    congr 3
    · congr 1
      · refine zl_congr fun i hi => ?_
        by_cases hik : i = m - 1 - k
        · subst hik
          rw [if_pos rfl, if_neg (by omega), show m - 1 - (m - 1 - k) = k by omega]
        · rw [if_neg hik]
          by_cases h2 : i + k < m
          · rw [if_pos h2, if_pos (by omega)]
          · rw [if_neg h2, if_neg (by omega)]
      · omega) (by
    unfold impl_digits.b0
    have d1 : decide ((m : Int) - 1 - (m : Int) ≥ 0) = false := by simp; omega
    simp only [d1, cond_false]
    congr 3
    congr 1
    · refine zl_congr fun i hi => ?_
      rw [if_neg (by omega)]
    · omega)
  have e0 : (((x / n ^ 0 : Nat) : Int), zl m (fun i => if i + 0 < m then (0 : Int) else ((x / n ^ (m - 1 - i) % n : Nat) : Int)), (m : Int) - 1 - ((0 : Nat) : Int)) = ((x : Int), zl m (fun _ => 0), w64 ((m : Int) - 1)) := by
    rw [w64_in (by omega)]
    congr 1
    · simp
    · congr 1
      · exact zl_congr fun i hi => by rw [if_pos (by omega)]
      · omega
  rw [e0] at h
  rw [h]
  rfl
/-- A tensor that is told by its digits. -/
theorem implTensor {n a b : Nat} {p : Int} (hp : 2 ≤ p ∧ p ≤ 13) (hn : 1 ≤ n ∧ n ≤ 6) (ha : a ≤ 8) (hb : b ≤ 8) (of : List Int → List Int → Option Int) (g : Nat → Int) (hof : ∀ x, x < n ^ (a + b) → of (dg n a (x / n ^ b)) (dg n b (x % n ^ b)) = some (g x)) :
    impl_tensor.f p n a b of = some (if n ^ (a + b) ≤ 1296 then (p, (n : Int), (a : Int), (b : Int), zl (n ^ (a + b)) (fun x => g x % p), 0) else (0, 0, 0, 0, [], 3)) := by
  unfold impl_tensor.f impl_endsOk.f impl_in.f
  have w : w64 ((a : Int) + (b : Int)) = ((a + b : Nat) : Int) := by rw [w64_in (by omega)]; omega
  obtain ⟨v, h1, _, h3, h4⟩ := pw_both (n := n) (k := a + b) hn (by omega)
  have ca : (decide ((a : Int) ≥ 0) && decide ((a : Int) ≤ 8)) = true := by simp; omega
  have cb : (decide ((b : Int) ≥ 0) && decide ((b : Int) ≤ 8)) = true := by simp; omega
  rw [w, h1, ca, cb]
  simp only [Option.bind_some, Bool.not_true, cond_false, Bool.false_or]
  by_cases hle : n ^ (a + b) ≤ 1296
  · have hv := h3 hle
    subst hv
    rw [if_pos hle, decide_eq_false (by omega), cond_false]
    have h := loop1_upto (f := impl_tensor.b0 ((n ^ (a + b) : Nat) : Int) n a b of p) (fun k => (zl k (fun x => g x % p), (k : Int))) (n ^ (a + b)) (zl (n ^ (a + b)) (fun x => g x % p), ((n ^ (a + b) : Nat) : Int)) (by omega) (fun k hk => by
      unfold impl_tensor.b0
      simp only [dlt_nat, hk, decide_true, cond_true]
      rw [w, implDigits hn (by omega) (by omega), Option.bind_some, dg_length]
      have c1 : (decide (0 ≤ 0) && decide ((0 : Int) ≤ (a : Int)) && decide ((a : Int) ≤ ((a + b : Nat) : Int))) = true := by simp; omega
      have c2 : (decide ((0 : Int) ≤ (a : Int)) && decide ((a : Int) ≤ ((a + b : Nat) : Int)) && decide (((a + b : Nat) : Int) ≤ ((a + b : Nat) : Int))) = true := by simp; omega
      rw [c1, c2, Int.toNat_natCast, List.drop_zero, Nat.sub_zero, dg_take, dg_drop, List.take_of_length_le (by rw [dg_length]; omega)]
      simp only [grd, cond_true]
      rw [hof k hk, Option.bind_some, implRest _ hp, Option.bind_some, small_in (by simp [zl_length]; omega), w64_succ (by omega), zl_snoc]) (by
      unfold impl_tensor.b0
      simp)
    have h' : loop1 (impl_tensor.b0 ((n ^ (a + b) : Nat) : Int) n a b of p) ([], 0) = some (zl (n ^ (a + b)) (fun x => g x % p), ((n ^ (a + b) : Nat) : Int)) := h
    rw [h']; rfl
  · have hv := h4 (by omega)
    rw [if_neg hle, decide_eq_true hv]; rfl
/-- The sizes that the reference allows. -/
theorem specSizes {n a b : Nat} {p : Int} (hp : primeB p = true) (hn : 1 ≤ n ∧ n ≤ 6) (ha : a ≤ 8) (hb : b ≤ 8) : spec_l03Sizes.f p n a b = some (if n ^ (a + b) ≤ 1296 then 0 else 3) := by
  unfold spec_l03Sizes.f spec_l01In.f
  have w : w64 ((a : Int) + (b : Int)) = ((a + b : Nat) : Int) := by rw [w64_in (by omega)]; omega
  obtain ⟨v, _, h2, h3, h4⟩ := pw_both (n := n) (k := a + b) hn (by omega)
  have cn : (decide ((n : Int) ≥ 1) && decide ((n : Int) ≤ 6)) = true := by simp; omega
  have cab : (decide ((a : Int) > 8) || decide ((b : Int) > 8)) = false := by simp; omega
  rw [specPrime, hp, w, h2, cn, cab]
  simp only [Option.bind_some, Bool.not_true, cond_false]
  by_cases hle : n ^ (a + b) ≤ 1296
  · have hv := h3 hle
    rw [if_pos hle, decide_eq_false (by omega)]; rfl
  · have hv := h4 (by omega)
    rw [if_neg hle, decide_eq_true hv]; rfl
theorem specEmpty {n a b : Nat} {p : Int} (hn : 1 ≤ n ∧ n ≤ 6) (ha : a ≤ 8) (hb : b ≤ 8) (hle : n ^ (a + b) ≤ 1296) : spec_l03Empty.f p n a b = some (p, (n : Int), (a : Int), (b : Int), zl (n ^ (a + b)) (fun _ => 0)) := by
  unfold spec_l03Empty.f
  have w : w64 ((a : Int) + (b : Int)) = ((a + b : Nat) : Int) := by rw [w64_in (by omega)]; omega
  obtain ⟨v, _, h2, h3, h4⟩ := pw_both (n := n) (k := a + b) hn (by omega)
  have hv := h3 hle
  subst hv
  have g : decide ((0 : Int) ≤ ((n ^ (a + b) : Nat) : Int)) = true := decide_eq_true (Int.natCast_nonneg _)
  rw [w, h2, Option.bind_some, g, Int.toNat_natCast]
  simp only [grd, cond_true]
  rw [small_in (by omega), zl_rep]
end Go.Proofs.Ytjjfoofjipafiaa.G

/- The place of a number of a tensor. -/
namespace Go.Proofs.Ytjjfoofjipafiaa.G
open Go Go.Sx Go.Proofs
theorem placeRow {n : Nat} (hn : 1 ≤ n) {lists : List (List Int)} {i m x acc : Nat} (hl : gt lists (i : Int) = dg n m x) (hm : m ≤ 16) (hx : x < n ^ m) (hb : acc * n ^ m + x ≤ 100000) : loop1 (impl_place.b0 lists i n) ((acc : Int), 0) = some (((acc * n ^ m + x : Nat) : Int), (m : Int)) := by
  have h := loop1_upto (f := impl_place.b0 lists i n) (fun j => (((acc * n ^ j + x / n ^ (m - j) : Nat) : Int), (j : Int))) m (((acc * n ^ m + x : Nat) : Int), (m : Int)) (by omega) (fun j hj => by
    unfold impl_place.b0
    simp only [hl, dg_length, dlt_nat, hj, decide_true, cond_true]
    have g : gt (dg n m x) (j : Int) = ((x / n ^ (m - 1 - j) % n : Nat) : Int) := zl_gt _ hj
    have e1 : x / n ^ (m - j) = x / n ^ (m - 1 - j) / n := by
      have hs : n ^ (m - 1 - j) * n = n ^ (m - 1 - j + 1) := rfl
      rw [Nat.div_div_eq_div_mul, hs, show m - 1 - j + 1 = m - j by omega]
    have e2 : (acc * n ^ j + x / n ^ (m - 1 - j) / n) * n + x / n ^ (m - 1 - j) % n = acc * n ^ (j + 1) + x / n ^ (m - 1 - j) := by
      have := Nat.div_add_mod (x / n ^ (m - 1 - j)) n
      have hs : n ^ j * n = n ^ (j + 1) := rfl
      rw [Nat.add_mul, Nat.mul_assoc, hs, Nat.mul_comm (x / n ^ (m - 1 - j) / n) n]
      omega
    have e3 : acc * n ^ (j + 1) ≤ acc * n ^ m := Nat.mul_le_mul_left _ (Nat.pow_le_pow_right hn hj)
    have e4 : x / n ^ (m - 1 - j) ≤ x := Nat.div_le_self _ _
    rw [chk_in (by omega), g, e1, ← Int.natCast_mul, w64_nat (by omega), ← Int.natCast_add, w64_nat (by omega), e2, w64_succ (by omega), show m - (j + 1) = m - 1 - j by omega]) (by
    unfold impl_place.b0
    simp only [hl, dg_length, dlt_nat, Nat.lt_irrefl, decide_false, cond_false]
    simp)
  simp only [Nat.pow_zero, Nat.mul_one, Nat.sub_zero, Nat.div_eq_of_lt hx, Nat.add_zero] at h
  exact h
/-- The number of some digits one after the other. -/
def plv (n acc : Nat) (ms : List (Nat × Nat)) : Nat := ms.foldl (fun a q => a * n ^ q.1 + q.2) acc
theorem plv_mono {n : Nat} (hn : 1 ≤ n) : ∀ (ms : List (Nat × Nat)) (acc : Nat), acc ≤ plv n acc ms
  | [], _ => Nat.le_refl _
  | q :: ms, acc => by
    have h1 := plv_mono hn ms (acc * n ^ q.1 + q.2)
    have h2 : acc ≤ acc * n ^ q.1 := Nat.le_mul_of_pos_right _ (Nat.pow_pos hn)
    show acc ≤ plv n (acc * n ^ q.1 + q.2) ms
    omega
theorem implPlace {n : Nat} (hn : 1 ≤ n) (ms : List (Nat × Nat)) (hlen : ms.length ≤ 100) (hms : ∀ q ∈ ms, q.1 ≤ 16 ∧ q.2 < n ^ q.1) (hb : plv n 0 ms ≤ 100000) : impl_place.f n (ms.map fun q => dg n q.1 q.2) = some (plv n 0 ms : Int) := by
  unfold impl_place.f
  have h := loop1_upto (f := impl_place.b1 (ms.map fun q => dg n q.1 q.2) n) (fun k => (((plv n 0 (ms.take k) : Nat) : Int), (k : Int))) ms.length ((plv n 0 ms : Int), (ms.length : Int)) (by omega) (fun k hk => by
    unfold impl_place.b1
    simp only [List.length_map, dlt_nat, hk, decide_true, cond_true]
    have g : gt (ms.map fun q => dg n q.1 q.2) (k : Int) = dg n ms[k].1 ms[k].2 := by
      rw [gt_ix (by simpa using hk), List.getElem_map]
    have hq := hms ms[k] (List.getElem_mem hk)
    have e1 : plv n 0 (ms.take (k + 1)) = plv n 0 (ms.take k) * n ^ ms[k].1 + ms[k].2 := by
      rw [List.take_add_one, List.getElem?_eq_getElem hk]
      unfold plv
      rw [List.foldl_append]; rfl
    have e2 : plv n 0 (ms.take (k + 1)) ≤ plv n 0 ms := by
      conv => rhs; rw [← List.take_append_drop (k + 1) ms]
      unfold plv
      rw [List.foldl_append]
      exact plv_mono hn _ _
    rw [chk_in (by omega), placeRow hn g hq.1 hq.2 (by omega), e1, w64_succ (by omega)]
    rfl) (by
    unfold impl_place.b1
    simp)
  have h' : loop1 (impl_place.b1 (ms.map fun q => dg n q.1 q.2) n) (0, 0) = _ := h
  rw [h']; rfl
theorem implAt {n : Nat} (hn : 1 ≤ n) {p a b : Int} {l : List Int} (ms : List (Nat × Nat)) (hlen : ms.length ≤ 100) (hms : ∀ q ∈ ms, q.1 ≤ 16 ∧ q.2 < n ^ q.1) (hb : plv n 0 ms < l.length) (hl : l.length ≤ 100000) : impl_Tensor_at.f p n a b l (ms.map fun q => dg n q.1 q.2) = some (gt l ((plv n 0 ms : Nat) : Int)) := by
  unfold impl_Tensor_at.f
  rw [implPlace hn ms hlen hms (by omega), Option.bind_some, chk_in (by omega)]
theorem dg_one {n k : Nat} (hk : k < n) : dg n 1 k = [(k : Int)] := by
  simp [dg, zl, Nat.mod_eq_of_lt hk]
theorem lt_two {i j X Y : Nat} (hi : i < X) (hj : j < Y) : i * Y + j < X * Y := by
  have h1 : (i + 1) * Y ≤ X * Y := Nat.mul_le_mul_right Y hi
  rw [Nat.add_mul] at h1
  omega
theorem two_pos {R i j x : Nat} (hj : j < R) : x = i * R + j ↔ (x / R = i ∧ x % R = j) := by
  constructor
  · intro h
    rw [h, Nat.mul_comm, Nat.mul_add_div (by omega), Nat.mul_add_mod, Nat.div_eq_of_lt hj, Nat.mod_eq_of_lt hj]
    exact ⟨rfl, rfl⟩
  · rintro ⟨h1, h2⟩
    have := Nat.div_add_mod x R
    rw [h1, h2] at this
    rw [← this, Nat.mul_comm]
/-- What a tensor is that is allowed. -/
structure Ten (p n i o : Int) (l : List Int) (m a b : Nat) : Prop where
  hp : primeB p = true
  hn : n = (m : Int)
  n1 : 1 ≤ m ∧ m ≤ 6
  hi : i = (a : Int)
  ho : o = (b : Int)
  ha : a ≤ 8
  hb : b ≤ 8
  len : l.length = m ^ (a + b)
  le : m ^ (a + b) ≤ 1296
  dig : ∀ k : Nat, k < l.length → 0 ≤ gt l (k : Int) ∧ gt l (k : Int) < p
theorem ten_of {p n i o : Int} {l : List Int} (h : l.length ≤ 1048576) (ht : impl_IsTensor.f p n i o l = some true) : ∃ m a b, Ten p n i o l m a b := by
  unfold impl_IsTensor.f impl_shapeOk.f impl_endsOk.f impl_in.f at ht
  rw [implPrime] at ht
  simp only [Option.bind_some] at ht
  cases hpr : primeB p with
  | false => rw [hpr] at ht; cases ht
  | true =>
    have hpb := primeB_le hpr
    rw [hpr] at ht
    simp only [cond_true, Option.bind_some] at ht
    cases h1 : (decide (n ≥ 1) && decide (n ≤ 6)) with
    | false => rw [h1] at ht; cases ht
    | true =>
      rw [h1] at ht
      simp only [Bool.not_true, cond_false, Option.bind_some] at ht
      cases h2 : (decide (i ≥ 0) && decide (i ≤ 8)) with
      | false => rw [h2] at ht; cases ht
      | true =>
        rw [h2] at ht
        simp only [Bool.not_true, cond_false, Option.bind_some] at ht
        cases h3 : (decide (o ≥ 0) && decide (o ≤ 8)) with
        | false => rw [h3] at ht; cases ht
        | true =>
          rw [h3] at ht
          simp only [Bool.and_eq_true, decide_eq_true_eq] at h1 h2 h3
          simp only [Bool.not_true, cond_false] at ht
          obtain ⟨m, rfl⟩ := Int.eq_ofNat_of_zero_le (show 0 ≤ n by omega)
          obtain ⟨a, rfl⟩ := Int.eq_ofNat_of_zero_le (show 0 ≤ i by omega)
          obtain ⟨b, rfl⟩ := Int.eq_ofNat_of_zero_le (show 0 ≤ o by omega)
          have w : w64 ((a : Int) + (b : Int)) = ((a + b : Nat) : Int) := by rw [w64_in (by omega)]; omega
          obtain ⟨v, e1, _, e3, e4⟩ := pw_both (n := m) (k := a + b) (by omega) (by omega)
          have hc := hasInts l (by omega) (fun x0_ => impl_IsTensor_1.f x0_ p m a b l) (fun x => !(decide (x ≥ 0) && decide (x ≤ p - 1))) (fun x _ => by
            unfold impl_IsTensor_1.f impl_in.f
            rw [w64_in (x := p - 1) (by omega)]
            rfl)
          rw [w, e1, Option.bind_some, hc, Option.bind_some] at ht
          simp only [Option.some.injEq, Bool.and_eq_true, Bool.not_eq_true', decide_eq_true_eq, beq_iff_eq] at ht
          obtain ⟨⟨t1, t2⟩, t3⟩ := ht
          by_cases hle : m ^ (a + b) ≤ 1296
          · have hv := e3 hle
            refine ⟨m, a, b, hpr, rfl, by omega, rfl, rfl, by omega, by omega, by rw [hv] at t2; exact Int.ofNat_inj.1 t2, hle, fun k hk => ?_⟩
            rw [List.any_eq_false] at t3
            have := t3 (gt l (k : Int)) (by rw [gt_ix hk]; exact List.getElem_mem _)
            simp only [Bool.not_eq_true, Bool.not_eq_false', Bool.and_eq_true, decide_eq_true_eq] at this
            omega
          · have := e4 (by omega)
            omega
end Go.Proofs.Ytjjfoofjipafiaa.G

/- Slices of numbers: the same as themselves; marked, and held. -/
namespace Go.Proofs.Ytjjfoofjipafiaa.G
open Go Go.Sx Go.Proofs
theorem eqS_refl (a : List Int) (h : a.length < 1000000000000) : laws_eqInt64S.f a a = some true := by
  unfold laws_eqInt64S.f
  have e : (((a.length : Nat) : Int) != (a.length : Int)) = false := by simp
  rw [e, cond_false]
  have hl := loop_upto (f := laws_eqInt64S.b0 a a) (fun i => (i : Int)) a.length (a.length : Int) (by omega) (fun i hi => by
    unfold laws_eqInt64S.b0
    simp only [dlt_nat, hi, decide_true, cond_true]
    rw [chk_in (by omega), chk_in (by omega), w64_succ (by omega)]
    simp) (by
    unfold laws_eqInt64S.b0
    simp)
  have hl' : loop (laws_eqInt64S.b0 a a) 0 = some (.brk (a.length : Int)) := hl
  rw [hl']; rfl
/-- So many numbers from k on. -/
def iota (k n : Nat) : List Int := (List.range n).map fun i => ((k + i : Nat) : Int)
theorem iota_length (k n : Nat) : (iota k n).length = n := by simp [iota]
theorem iota_gt {k n i : Nat} (h : i < n) : gt (iota k n) (i : Int) = ((k + i : Nat) : Int) := by simp [gt, iota, List.getD, h]
theorem markS (a : List Int) (k : Nat) (h : k + a.length < 1000000000000) : laws_markInt64S.f a k = some (((k + a.length : Nat) : Int), iota k a.length) := by
  unfold laws_markInt64S.f
  have hl := loop1_upto (f := laws_markInt64S.b0) (fun i => (iota k i ++ a.drop i, ((k + i : Nat) : Int), (i : Int))) a.length (iota k a.length, ((k + a.length : Nat) : Int), (a.length : Int)) (by omega) (fun i hi => by
    unfold laws_markInt64S.b0
    have e : (iota k i ++ a.drop i).length = a.length := by rw [List.length_append, iota_length, List.length_drop]; omega
    simp only [e, dlt_nat, hi, decide_true, cond_true]
    rw [chk_in (by omega), w64_succ (by omega), w64_succ (by omega), Int.toNat_natCast]
    have e2 : (iota k i ++ a.drop i).set i ((k + i : Nat) : Int) = iota k (i + 1) ++ a.drop (i + 1) := by
      rw [List.set_append_right _ _ (by rw [iota_length]; exact Nat.le_refl _), iota_length, Nat.sub_self]
      have h3 : a.drop i = a[i] :: a.drop (i + 1) := by rw [List.getElem_cons_drop]
      rw [h3, List.set_cons_zero]
      unfold iota
      rw [List.range_succ, List.map_append]
      simp
    rw [e2]
    rfl) (by
    unfold laws_markInt64S.b0
    simp [iota_length])
  have hl' : loop1 laws_markInt64S.b0 (a, (k : Int), 0) = some (iota k a.length, ((k + a.length : Nat) : Int), (a.length : Int)) := hl
  rw [hl']; rfl
theorem heldS (k n : Nat) (h : k + n < 1000000000000) : laws_heldInt64S.f (iota k n) k = some ((k + n : Nat) : Int) := by
  unfold laws_heldInt64S.f
  have hl := loop_upto (f := laws_heldInt64S.b0 (iota k n)) (fun i => (((k + i : Nat) : Int), (i : Int))) n (((k + n : Nat) : Int), (n : Int)) (by omega) (fun i hi => by
    unfold laws_heldInt64S.b0
    simp only [iota_length, dlt_nat, hi, decide_true, cond_true]
    rw [chk_in (by omega), iota_gt hi, w64_succ (by omega), w64_succ (by omega)]
    simp
    rfl) (by
    unfold laws_heldInt64S.b0
    simp [iota_length])
  have hl' : loop (laws_heldInt64S.b0 (iota k n)) ((k : Int), 0) = some (.brk (((k + n : Nat) : Int), (n : Int))) := hl
  rw [hl']; rfl
end Go.Proofs.Ytjjfoofjipafiaa.G

/- Tensors: the same as themselves; marked, and held. -/
namespace Go.Proofs.Ytjjfoofjipafiaa.G
open Go Go.Sx Go.Proofs
theorem eqT (p n a b : Int) (l : List Int) (h : l.length ≤ 1048576) : laws_eqTensor.f p n a b l p n a b l = some true := by
  unfold laws_eqTensor.f
  simp only [bne_self_eq_false, cond_false, eqS_refl l (by omega), Option.bind_some, Bool.not_true]
theorem markT (p n a b : Int) (l : List Int) (h : l.length ≤ 1048576) : laws_markTensor.f p n a b l 1 = some (((1 + l.length : Nat) : Int), iota 1 l.length) := by
  unfold laws_markTensor.f
  have m1 : laws_markInt64S.f l 1 = some (((1 + l.length : Nat) : Int), iota 1 l.length) := markS l 1 (by omega)
  rw [m1]; rfl
theorem heldT (p n a b : Int) (m : Nat) (h : m ≤ 1048576) : laws_heldTensor.f p n a b (iota 1 m) 1 = some ((1 + m : Nat) : Int) := by
  unfold laws_heldTensor.f
  have m3 : laws_heldInt64S.f (iota 1 m) 1 = some ((1 + m : Nat) : Int) := heldS 1 m (by omega)
  rw [m3, Option.bind_some, decide_eq_false (by omega)]; rfl
end Go.Proofs.Ytjjfoofjipafiaa.G

/- Slices of numbers that come in: how large they are, and their copies. -/
namespace Go.Proofs.Ytjjfoofjipafiaa.G
open Go Go.Sx Go.Proofs
theorem toS (a : List Int) (h : a.length ≤ 1048576) : laws_toInt64S.f a = some a := by
  unfold laws_toInt64S.f
  rw [small_in (by omega), Int.toNat_natCast]
  have hl := loop1_upto (f := laws_toInt64S.b0 a) (fun i => (a.take i ++ List.replicate (a.length - i) 0, (i : Int))) a.length (a, (a.length : Int)) (by omega) (fun i hi => by
    unfold laws_toInt64S.b0
    have e : (a.take i ++ List.replicate (a.length - i) (0 : Int)).length = a.length := by simp; omega
    simp only [dlt_nat, hi, decide_true, cond_true]
    rw [chk_in (by omega), e, chk_in (by omega), w64_succ (by omega), Int.toNat_natCast]
    have hg : gt a (i : Int) = a[i] := by simp [gt, List.getD, hi]
    have hm : (a.take i).length = i := by simp; omega
    have e2 : (a.take i ++ List.replicate (a.length - i) (0 : Int)).set i (gt a (i : Int)) = a.take (i + 1) ++ List.replicate (a.length - (i + 1)) 0 := by
      rw [hg, List.set_append_right _ _ (by omega), hm, Nat.sub_self, show a.length - i = (a.length - (i + 1)) + 1 by omega, List.replicate_succ, List.set_cons_zero, List.take_add_one, List.getElem?_eq_getElem hi]
      simp only [Option.toList_some, List.append_assoc, List.singleton_append]
    rw [e2]) (by
    unfold laws_toInt64S.b0
    simp)
  have hl' : loop1 (laws_toInt64S.b0 a) (List.replicate a.length 0, 0) = some (a, (a.length : Int)) := by simpa using hl
  rw [hl']; rfl
theorem szS (a : List Int) (l : Nat) (hl : l ≤ 1048576) (h : a.length ≤ 9223372036854775807) : (laws_szInt64S.f a l = some (-1) ∧ l < a.length) ∨ (laws_szInt64S.f a l = some ((l - a.length : Nat) : Int) ∧ a.length ≤ l) := by
  unfold laws_szInt64S.f
  rw [w64_in (by omega)]
  by_cases hc : a.length ≤ l
  · right
    have : decide (((l : Int) - (a.length : Int)) < 0) = false := by simp; omega
    rw [this]
    exact ⟨by rw [cond_false]; congr 1; omega, hc⟩
  · left
    have : decide (((l : Int) - (a.length : Int)) < 0) = true := by simp; omega
    rw [this]
    exact ⟨rfl, by omega⟩
end Go.Proofs.Ytjjfoofjipafiaa.G

/- Tensors: measured and copied. -/
namespace Go.Proofs.Ytjjfoofjipafiaa.G
open Go Go.Sx Go.Proofs
theorem szTen (p n i o : Int) (l : List Int) (z : Nat) (hz : z ≤ 1048576) (h : l.length ≤ 9223372036854775807) : (∃ q, laws_szTensor.f p n i o l z = some q ∧ q < 0) ∨ (laws_szTensor.f p n i o l z = some ((z - l.length : Nat) : Int) ∧ l.length ≤ z) := by
  unfold laws_szTensor.f
  rcases szS l z hz h with ⟨h1, h2⟩ | ⟨h1, h2⟩
  · exact .inl ⟨-1, by rw [h1]; rfl, by omega⟩
  · refine .inr ⟨?_, h2⟩
    rw [h1, Option.bind_some, decide_eq_false (by omega)]; rfl
theorem toTen (p n i o : Int) (l : List Int) (h : l.length ≤ 1048576) : laws_toTensor.f p n i o l = some (p, n, i, o, l) := by
  unfold laws_toTensor.f
  rw [toS l h]; rfl
end Go.Proofs.Ytjjfoofjipafiaa.G

/- Tensors: marked from any number on; two that are measured. -/
namespace Go.Proofs.Ytjjfoofjipafiaa.G
open Go Go.Sx Go.Proofs
theorem markTk (p n a b : Int) (l : List Int) (k : Nat) (h : k + l.length ≤ 10485760) : laws_markTensor.f p n a b l k = some (((k + l.length : Nat) : Int), iota k l.length) := by
  unfold laws_markTensor.f
  rw [markS l k (by omega)]; rfl
/-- Two tensors are too large together, or both are small. -/
theorem szTwo (p n i o : Int) (l : List Int) (p' n' i' o' : Int) (l' : List Int) (hl : l.length ≤ 9223372036854775807) (hl' : l'.length ≤ 9223372036854775807) :
    (∃ q, laws_szTensor.f p n i o l 1048576 = some q ∧ q < 0) ∨
    ∃ z, laws_szTensor.f p n i o l 1048576 = some z ∧ decide (z < 0) = false ∧ l.length ≤ 1048576 ∧
      ((∃ q, laws_szTensor.f p' n' i' o' l' z = some q ∧ q < 0) ∨ ∃ q, laws_szTensor.f p' n' i' o' l' z = some q ∧ decide (q < 0) = false ∧ l'.length ≤ 1048576) := by
  rcases szTen p n i o l 1048576 (by omega) hl with h | ⟨h1, h2⟩
  · exact .inl h
  · refine .inr ⟨_, h1, decide_eq_false (by omega), h2, ?_⟩
    rcases szTen p' n' i' o' l' (1048576 - l.length) (by omega) hl' with h | ⟨h3, h4⟩
    · exact .inl h
    · exact .inr ⟨_, h3, decide_eq_false (by omega), by omega⟩
end Go.Proofs.Ytjjfoofjipafiaa.G

/- The law of PermuteTensor tells true. -/
namespace Go.Proofs.Ytjjfoofjipafiaa.G
open Go Go.Sx Go.Proofs
/-- The legs that are put back: after k of them. -/
def bk (list legs : List Int) : Nat → List Int
  | 0 => List.replicate legs.length 0
  | k + 1 => (bk list legs k).set (gt list (k : Int)).toNat (gt legs (k : Int))
theorem bk_length (list legs : List Int) : ∀ k, (bk list legs k).length = legs.length
  | 0 => by simp [bk]
  | k + 1 => by simp [bk, bk_length list legs k]
theorem bk_in {m : Nat} {list legs : List Int} (hm : 1 ≤ m) (h : ∀ d ∈ legs, 0 ≤ d ∧ d < (m : Int)) : ∀ k, k ≤ legs.length → ∀ d ∈ bk list legs k, 0 ≤ d ∧ d < (m : Int)
  | 0, _, d, hd => by
    simp only [bk, List.mem_replicate] at hd
    omega
  | k + 1, hk, d, hd => by
    rcases List.mem_or_eq_of_mem_set hd with h1 | h1
    · exact bk_in hm h k (by omega) d h1
    · rw [h1, gt_ix (by omega)]
      exact h _ (List.getElem_mem _)
/-- What a list of legs has to be. -/
def Legs (list : List Int) (a : Nat) : Prop := list.length = a ∧ ∀ k : Nat, k < a → 0 ≤ gt list (k : Int) ∧ gt list (k : Int) < (a : Int)
theorem legs_of {l : List Int} {a : Nat} (hl : l.length ≤ 1048576) (ha : a ≤ 8) (h : spec_l03Legs.f l (a : Int) = some true) : Legs l a := by
  rw [specLegs hl (by omega)] at h
  simp only [Option.some.injEq, Bool.and_eq_true, Bool.not_eq_true', beq_iff_eq, List.any_eq_false] at h
  obtain ⟨h1, h2⟩ := h
  have h3 : l.length = a := by omega
  refine ⟨h3, fun k hk => ?_⟩
  have := h1 k (List.mem_range.2 (by omega))
  unfold legBad at this
  simp only [Bool.not_eq_true, Bool.or_eq_false_iff, Bool.not_eq_false', Bool.and_eq_true, decide_eq_true_eq] at this
  omega
theorem implBack {list legs : List Int} {a : Nat} (L : Legs list a) (ha : a ≤ 8) (hg : legs.length = a) : impl_back.f list legs = some (bk list legs a) := by
  unfold impl_back.f
  rw [small_in (by omega), Int.toNat_natCast]
  have h := loop1_upto (f := impl_back.b0 list legs) (fun k => (bk list legs k, (k : Int))) a (bk list legs a, (a : Int)) (by omega) (fun k hk => by
    unfold impl_back.b0
    have := L.2 k hk
    simp only [L.1, dlt_nat, hk, decide_true, cond_true]
    rw [chk_in (by omega), chk_in (by omega), bk_length, chk_in (by omega), w64_succ (by omega)]
    rfl) (by
    unfold impl_back.b0
    simp [L.1])
  have h' : loop1 (impl_back.b0 list legs) (List.replicate legs.length 0, 0) = _ := h
  rw [h']; rfl
theorem dg_in {m : Nat} (hm : 1 ≤ m) (k x : Nat) : ∀ d ∈ dg m k x, 0 ≤ d ∧ d < (m : Int) := by
  intro d hd
  unfold dg zl at hd
  obtain ⟨i, _, rfl⟩ := List.mem_map.1 hd
  have := Nat.mod_lt (x / m ^ (k - 1 - i)) (show 0 < m by omega)
  omega
/-- A list of digits is that of a number. -/
theorem dg_ex {m : Nat} (hm : 1 ≤ m) : ∀ (k : Nat) (ds : List Int), ds.length = k → (∀ d ∈ ds, 0 ≤ d ∧ d < (m : Int)) → ∃ x, x < m ^ k ∧ ds = dg m k x
  | 0, ds, hk, _ => ⟨0, by simp, by rw [List.eq_nil_of_length_eq_zero hk]; rfl⟩
  | k + 1, ds, hk, h => by
    have hne : ds ≠ [] := by intro e; subst e; simp at hk
    have hs := List.dropLast_concat_getLast hne
    obtain ⟨x, hx, he⟩ := dg_ex hm k ds.dropLast (by simp; omega) (fun d hd => h d (List.dropLast_subset _ hd))
    have hl := h (ds.getLast hne) (List.getLast_mem hne)
    obtain ⟨c, hc⟩ := Int.eq_ofNat_of_zero_le hl.1
    have hcm : c < m := by omega
    refine ⟨x * m + c, ?_, ?_⟩
    · rw [Nat.pow_succ]; exact lt_two hx hcm
    · have h2 := (two_pos (R := m) (i := x) (j := c) (x := x * m + c) hcm).1 rfl
      rw [dg_succ, h2.1, h2.2, ← he, ← hs, hc]
      simp
theorem dg_app {m : Nat} (a b x y : Nat) (hy : y < m ^ b) : dg m a x ++ dg m b y = dg m (a + b) (x * m ^ b + y) := by
  have h := (two_pos (R := m ^ b) (i := x) (j := y) (x := x * m ^ b + y) hy).1 rfl
  conv => rhs; rw [← List.take_append_drop a (dg m (a + b) (x * m ^ b + y))]
  rw [dg_take, dg_drop, h.1, h.2]
theorem specPlace {m : Nat} {k Z : Nat} (hk : k ≤ 16) (hZ : Z < m ^ k) (hb : Z ≤ 100000) : spec_l03Place.f (dg m k Z) m = some (Z : Int) := by
  unfold spec_l03Place.f
  have h := loop1_upto (f := spec_l03Place.b0 (dg m k Z) m) (fun j => (((Z / m ^ (k - j) : Nat) : Int), (j : Int))) k ((Z : Int), (k : Int)) (by omega) (fun j hj => by
    unfold spec_l03Place.b0
    simp only [dg_length, dlt_nat, hj, decide_true, cond_true]
    have g : gt (dg m k Z) (j : Int) = ((Z / m ^ (k - 1 - j) % m : Nat) : Int) := zl_gt _ hj
    have e1 : Z / m ^ (k - j) = Z / m ^ (k - 1 - j) / m := by
      have hs : m ^ (k - 1 - j) * m = m ^ (k - 1 - j + 1) := rfl
      rw [Nat.div_div_eq_div_mul, hs, show k - 1 - j + 1 = k - j by omega]
    have e2 : Z / m ^ (k - 1 - j) / m * m + Z / m ^ (k - 1 - j) % m = Z / m ^ (k - 1 - j) := by
      rw [Nat.mul_comm]; exact Nat.div_add_mod _ _
    have e4 : Z / m ^ (k - 1 - j) ≤ Z := Nat.div_le_self _ _
    rw [chk_in (by omega), g, e1, ← Int.natCast_mul, w64_nat (by omega), ← Int.natCast_add, w64_nat (by omega), e2, w64_succ (by omega), show k - (j + 1) = k - 1 - j by omega]) (by
    unfold spec_l03Place.b0
    simp [dg_length])
  have e0 : (((Z / m ^ (k - 0) : Nat) : Int), ((0 : Nat) : Int)) = ((0 : Int), (0 : Int)) := by
    rw [Nat.sub_zero, Nat.div_eq_of_lt hZ]; rfl
  rw [e0] at h
  rw [h]; rfl
section
variable {p n i o : Int} {l ins outs : List Int} {m a b : Nat} (T : Ten p n i o l m a b) (L : Legs ins a) (L' : Legs outs b)
include T L L'
omit L L' in
/-- The place that a place is taken from. -/
theorem own_ex (x : Nat) : ∃ X Y, X < m ^ a ∧ Y < m ^ b ∧ bk ins (dg m a (x / m ^ b)) a = dg m a X ∧ bk outs (dg m b (x % m ^ b)) b = dg m b Y := by
  have hn := T.n1
  obtain ⟨X, h1, h2⟩ := dg_ex hn.1 a (bk ins (dg m a (x / m ^ b)) a) (by rw [bk_length, dg_length]) (bk_in hn.1 (dg_in hn.1 _ _) a (by rw [dg_length]; omega))
  obtain ⟨Y, h3, h4⟩ := dg_ex hn.1 b (bk outs (dg m b (x % m ^ b)) b) (by rw [bk_length, dg_length]) (bk_in hn.1 (dg_in hn.1 _ _) b (by rw [dg_length]; omega))
  exact ⟨X, Y, h1, h3, h2, h4⟩
def ownZ (m a b : Nat) (ins outs : List Int) (x : Nat) : Nat := (pl m 0 (bk ins (dg m a (x / m ^ b)) a ++ bk outs (dg m b (x % m ^ b)) b)).toNat
omit T L L' in
theorem ownZ_eq {x X Y : Nat} (hX : X < m ^ a) (hY : Y < m ^ b) (h1 : bk ins (dg m a (x / m ^ b)) a = dg m a X) (h2 : bk outs (dg m b (x % m ^ b)) b = dg m b Y) : ownZ m a b ins outs x = X * m ^ b + Y ∧ X * m ^ b + Y < m ^ (a + b) := by
  have hlt : X * m ^ b + Y < m ^ (a + b) := by rw [Nat.pow_add]; exact lt_two hX hY
  refine ⟨?_, hlt⟩
  unfold ownZ
  have := pl_dg (n := m) (a + b) (X * m ^ b + Y) 0 hlt
  rw [Int.natCast_zero, Nat.zero_mul, Nat.zero_add] at this
  rw [h1, h2, dg_app a b X Y hY, this, Int.toNat_natCast]
theorem ptFn (x : Nat) : impl_PermuteTensor_1.f (dg m a (x / m ^ b)) (dg m b (x % m ^ b)) p n i o l ins outs = some (gt l ((ownZ m a b ins outs x : Nat) : Int)) := by
  obtain ⟨X, Y, hX, hY, h1, h2⟩ := own_ex (ins := ins) (outs := outs) T x
  obtain ⟨e1, e2⟩ := ownZ_eq (ins := ins) (outs := outs) hX hY h1 h2
  have hlen := T.len
  have hle := T.le
  have ha := T.ha
  have hb := T.hb
  have hs := implAt (p := p) (a := i) (b := o) (l := l) T.n1.1 [(a, X), (b, Y)] (by simp) (by
    intro q hq
    simp only [List.mem_cons, List.not_mem_nil, or_false] at hq
    rcases hq with rfl | rfl
    · exact ⟨by simp only; omega, hX⟩
    · exact ⟨by simp only; omega, hY⟩) (by simp [plv]; omega) (by omega)
  have hp : plv m 0 [(a, X), (b, Y)] = X * m ^ b + Y := by simp [plv]
  rw [hp] at hs
  simp only [List.map_cons, List.map_nil] at hs
  unfold impl_PermuteTensor_1.f
  rw [implBack L ha (dg_length _ _ _), Option.bind_some, implBack L' hb (dg_length _ _ _), Option.bind_some, h1, h2, T.hn, hs, e1]
  rfl
theorem ptRow {x : Nat} (hx : x < m ^ (a + b)) (acc : List Int) (hacc : acc.length = m ^ (a + b)) : spec_PermuteTensor.b2 n i o ins outs l (acc, (x : Int)) = some (.next (acc.set x (gt l ((ownZ m a b ins outs x : Nat) : Int)), ((x + 1 : Nat) : Int))) := by
  obtain ⟨X, Y, hX, hY, h1, h2⟩ := own_ex (ins := ins) (outs := outs) T x
  obtain ⟨e1, e2⟩ := ownZ_eq (ins := ins) (outs := outs) hX hY h1 h2
  have hlen := T.len
  have hle := T.le
  have ha := T.ha
  have hb := T.hb
  have hn := T.n1
  have hdg : spec_l03Digits.f (x : Int) (m : Int) ((a + b : Nat) : Int) = some (dg m (a + b) x) := implDigits hn (by omega) (by omega)
  have w : w64 ((a : Int) + (b : Int)) = ((a + b : Nat) : Int) := by rw [w64_in (by omega)]; omega
  have hsp : dg m a (x / m ^ b) ++ dg m b (x % m ^ b) = dg m (a + b) x := by
    rw [← dg_take, ← dg_drop, List.take_append_drop]
  have gA : ∀ k : Nat, k < a → gt (dg m (a + b) x) (k : Int) = gt (dg m a (x / m ^ b)) (k : Int) := by
    intro k hk
    rw [← hsp, gt_ix (by rw [List.length_append, dg_length]; omega), gt_ix (by rw [dg_length]; omega), List.getElem_append_left]
  have gB : ∀ k : Nat, k < b → gt (dg m (a + b) x) ((a + k : Nat) : Int) = gt (dg m b (x % m ^ b)) (k : Int) := by
    intro k hk
    rw [← hsp, gt_ix (by rw [List.length_append, dg_length, dg_length]; omega), gt_ix (by rw [dg_length]; omega), List.getElem_append_right (by rw [dg_length]; omega)]
    simp [dg_length]
  have r0 : loop1 (spec_PermuteTensor.b0 ins (dg m (a + b) x)) (List.replicate (a + b) 0, 0) = some (bk ins (dg m a (x / m ^ b)) a ++ List.replicate b 0, (a : Int)) := by
    have h := loop1_upto (f := spec_PermuteTensor.b0 ins (dg m (a + b) x)) (fun k => (bk ins (dg m a (x / m ^ b)) k ++ List.replicate b 0, (k : Int))) a (bk ins (dg m a (x / m ^ b)) a ++ List.replicate b 0, (a : Int)) (by omega) (fun k hk => by
      unfold spec_PermuteTensor.b0
      have hl := L.2 k hk
      simp only [L.1, dlt_nat, hk, decide_true, cond_true]
      rw [chk_in (by omega), dg_length, chk_in (by omega), List.length_append, bk_length, dg_length, List.length_replicate, chk_in (by omega), w64_succ (by omega), gA k hk, List.set_append_left _ _ (by rw [bk_length, dg_length]; omega)]
      rfl) (by
      unfold spec_PermuteTensor.b0
      simp [L.1])
    have e : (bk ins (dg m a (x / m ^ b)) 0 ++ List.replicate b (0 : Int)) = List.replicate (a + b) 0 := by
      simp [bk, dg_length]
    rw [e] at h
    exact h
  have r1 : loop1 (spec_PermuteTensor.b1 outs (a : Int) (dg m (a + b) x)) (bk ins (dg m a (x / m ^ b)) a ++ List.replicate b 0, 0) = some (bk ins (dg m a (x / m ^ b)) a ++ bk outs (dg m b (x % m ^ b)) b, (b : Int)) := by
    have h := loop1_upto (f := spec_PermuteTensor.b1 outs (a : Int) (dg m (a + b) x)) (fun k => (bk ins (dg m a (x / m ^ b)) a ++ bk outs (dg m b (x % m ^ b)) k, (k : Int))) b (bk ins (dg m a (x / m ^ b)) a ++ bk outs (dg m b (x % m ^ b)) b, (b : Int)) (by omega) (fun k hk => by
      unfold spec_PermuteTensor.b1
      have hl := L'.2 k hk
      simp only [L'.1, dlt_nat, hk, decide_true, cond_true]
      have ek : w64 ((a : Int) + (k : Int)) = ((a + k : Nat) : Int) := by rw [w64_in (by omega)]; omega
      have ec : w64 ((a : Int) + gt outs (k : Int)) = (a : Int) + gt outs (k : Int) := w64_in (by omega)
      rw [chk_in (by omega), ek, dg_length, chk_in (by omega), ec, List.length_append, bk_length, bk_length, dg_length, dg_length, chk_in (by omega), w64_succ (by omega), gB k hk, List.set_append_right _ _ (by rw [bk_length, dg_length]; omega), bk_length, dg_length, show ((a : Int) + gt outs (k : Int)).toNat - a = (gt outs (k : Int)).toNat by omega]
      rfl) (by
      unfold spec_PermuteTensor.b1
      simp [L'.1])
    have e : bk outs (dg m b (x % m ^ b)) 0 = List.replicate b (0 : Int) := by
      simp [bk, dg_length]
    rw [e] at h
    exact h
  have hpl := specPlace (m := m) (k := a + b) (Z := X * m ^ b + Y) (by omega) e2 (by omega)
  unfold spec_PermuteTensor.b2
  simp only [hacc, dlt_nat, hx, decide_true, cond_true]
  rw [T.hn, T.hi, T.ho, w, hdg, Option.bind_some, dg_length, Int.toNat_natCast, small_in (by omega), r0, Option.bind_some]
  simp only []
  rw [r1, Option.bind_some]
  simp only []
  rw [h1, h2, dg_app a b X Y hY, hpl, Option.bind_some, e1, chk_in (by omega), chk_in (by omega), w64_succ (by omega)]
  rfl
theorem ptSpec : loop1 (spec_PermuteTensor.b2 n i o ins outs l) (zl (m ^ (a + b)) (fun _ => 0), 0) = some (zl (m ^ (a + b)) (fun x => gt l ((ownZ m a b ins outs x : Nat) : Int) % p), ((m ^ (a + b) : Nat) : Int)) := by
  have hle := T.le
  have hp := primeB_le T.hp
  have h := loop1_upto (f := spec_PermuteTensor.b2 n i o ins outs l) (fun k => (zl (m ^ (a + b)) (fun x => if x < k then gt l ((ownZ m a b ins outs x : Nat) : Int) % p else 0), (k : Int))) (m ^ (a + b)) (zl (m ^ (a + b)) (fun x => gt l ((ownZ m a b ins outs x : Nat) : Int) % p), ((m ^ (a + b) : Nat) : Int)) (by omega) (fun k hk => by
    rw [ptRow T L L' hk _ (zl_length _ _), zl_set _ _ hk]
    congr 3
    refine zl_congr fun x hx => ?_
    by_cases he : x = k
    · subst he
      obtain ⟨X, Y, hX, hY, h1, h2⟩ := own_ex (ins := ins) (outs := outs) T x
      obtain ⟨e1, e2⟩ := ownZ_eq (ins := ins) (outs := outs) hX hY h1 h2
      have hd := T.dig (ownZ m a b ins outs x) (by rw [T.len, e1]; exact e2)
      rw [if_pos rfl, if_pos (by omega), Int.emod_eq_of_lt hd.1 hd.2]
    · rw [if_neg he]
      by_cases h2 : x < k
      · rw [if_pos h2, if_pos (by omega)]
      · rw [if_neg h2, if_neg (by omega)]) (by
    unfold spec_PermuteTensor.b2
    simp only [zl_length, dlt_nat, Nat.lt_irrefl, decide_false, cond_false]
    congr 3
    exact zl_congr fun x hx => by rw [if_pos hx])
  have e0 : zl (m ^ (a + b)) (fun x => if x < 0 then gt l ((ownZ m a b ins outs x : Nat) : Int) % p else 0) = zl (m ^ (a + b)) (fun _ => 0) := zl_congr fun x _ => by rw [if_neg (Nat.not_lt_zero x)]
  rw [e0] at h
  exact h
end
theorem pt_same (p n i o : Int) (l ins outs : List Int) (h : l.length ≤ 1048576) (h1 : ins.length ≤ 1048576) (h2 : outs.length ≤ 1048576) (hp : IntKind.i64.has p) : ∃ q1 q2 q3 q4 r e, spec_PermuteTensor.f p n i o l ins outs = some (q1, q2, q3, q4, r, e) ∧ impl_PermuteTensor.f p n i o l ins outs = some (q1, q2, q3, q4, r, e) ∧ r.length ≤ 1296 := by
  unfold spec_PermuteTensor.f impl_PermuteTensor.f
  obtain ⟨t, e1, e2⟩ := tensor_same p n i o l h hp
  rw [e1, e2]
  cases t with
  | false => exact ⟨_, _, _, _, _, _, rfl, rfl, by simp⟩
  | true =>
    obtain ⟨m, a, b, T⟩ := ten_of h e2
    have ha := T.ha
    have hb := T.hb
    obtain ⟨s1, s2⟩ := order_same (n := (a : Int)) h1 (by omega)
    obtain ⟨s3, s4⟩ := order_same (n := (b : Int)) h2 (by omega)
    rw [T.hi, T.ho]
    simp only [Option.bind_some, Bool.not_true, cond_false]
    rw [s1, s2, s3, s4]
    cases c1 : ordB ins (a : Int) with
    | false => exact ⟨_, _, _, _, _, _, rfl, rfl, by simp⟩
    | true =>
      cases c2 : ordB outs (b : Int) with
      | false => exact ⟨_, _, _, _, _, _, rfl, rfl, by simp⟩
      | true =>
        have L := legs_of h1 ha (by rw [s1, c1])
        have L' := legs_of h2 hb (by rw [s3, c2])
        have hle := T.le
        have hI := implTensor (p := p) (primeB_le T.hp) T.n1 ha hb (fun x0_ x1_ => impl_PermuteTensor_1.f x0_ x1_ p m a b l ins outs) (fun x => gt l ((ownZ m a b ins outs x : Nat) : Int)) (fun x hx => by
          have := ptFn T L L' x
          rw [T.hn, T.hi, T.ho] at this
          exact this)
        have hS := ptSpec T L L'
        rw [T.hi, T.ho, T.hn] at hS
        rw [if_pos hle] at hI
        rw [T.hn, specEmpty T.n1 ha hb hle]
        simp only [Option.bind_some, Bool.not_true, cond_false]
        rw [hS, hI]
        exact ⟨_, _, _, _, _, _, rfl, rfl, by rw [zl_length]; omega⟩
theorem plain_FnExactPermuteTensor (p n i o : Int) (l ins outs : List Int) (wp : IntKind.i64.has p) (_wn : IntKind.i64.has n) (_wi : IntKind.i64.has i) (_wo : IntKind.i64.has o) (_wl : ∀ x ∈ l, IntKind.i64.has x) (hl : l.length ≤ 9223372036854775807) (_w1 : ∀ x ∈ ins, IntKind.i64.has x) (hl1 : ins.length * 8 ≤ 140737488351232) (_w2 : ∀ x ∈ outs, IntKind.i64.has x) (hl2 : outs.length * 8 ≤ 140737488351232) : laws_FnExactPermuteTensor.f p n i o l ins outs = some true := by
  unfold laws_FnExactPermuteTensor.f
  by_cases h1 : ins.length ≤ 1048576
  case neg => rw [decide_eq_true (by omega), cond_true]
  by_cases h2 : outs.length ≤ 1048576
  case neg => rw [decide_eq_false (by omega), cond_false, decide_eq_true (by omega), cond_true]
  rw [decide_eq_false (by omega), cond_false, decide_eq_false (by omega), cond_false]
  rcases szTen p n i o l 1048576 (by omega) hl with ⟨q, h4, h5⟩ | ⟨h4, h3⟩
  · have h4' : laws_szTensor.f p n i o l 1048576 = some q := h4
    rw [h4', Option.bind_some, decide_eq_true h5]; rfl
  · have h4' : laws_szTensor.f p n i o l 1048576 = some ((1048576 - l.length : Nat) : Int) := h4
    rw [h4', Option.bind_some, decide_eq_false (by omega), cond_false]
    obtain ⟨q1, q2, q3, q4, r, e, e1, e2, e3⟩ := pt_same p n i o l ins outs h3 h1 h2 wp
    have b0 := eqT p n i o l (by omega)
    have b1 := eqT q1 q2 q3 q4 r (by omega)
    have b2 := markT p n i o l (by omega)
    have b4 := eqS_refl ins (by omega)
    have b5 := eqS_refl outs (by omega)
    have m1 := markS ins (1 + l.length) (by omega)
    have m2 := markS outs (1 + l.length + ins.length) (by omega)
    have m3 := markT q1 q2 q3 q4 r (by omega)
    have m4 := heldT q1 q2 q3 q4 r.length (by omega)
    have d1 : decide (((1 + l.length + ins.length + outs.length : Nat) : Int) < 0) = false := decide_eq_false (by omega)
    have d2 : decide (((1 + r.length : Nat) : Int) < 0) = false := decide_eq_false (by omega)
    simp only [toTen p n i o l h3, toS ins h1, toS outs h2, e1, e2, Option.bind_some, b0, b1, b2, b4, b5, m1, m2, m3, m4, d1, d2, bne_self_eq_false, Bool.not_true, Bool.or_false, cond_false]
end Go.Proofs.Ytjjfoofjipafiaa.G

/- Arg: a law's arguments, as they come in, in the calculus' own words. -/
namespace Go.Sx
open Go.RowKit

theorem okWide_agg {P : Program} {W : World} {r : Reach} {base : Nat} {t : TypeId} {v : Value} {ts : List TypeId} (ht : (match P.underlying t with | some (.struct _) | some (.array _ _) => true | _ => false) = true) (hts : P.cellTypes P.depth t = some ts) (h : Value.okWide P W r base t v) :
    ∃ cs, v = .agg cs ∧ cs.size = P.cellsOf t ∧ ∀ i u, cs[i]? = some u → ∃ k, ts[i % ts.length]? = some k ∧ Cell.okWide P W r base k u := by
  unfold Value.okWide at h
  split at h
  · obtain ⟨cs, h1, h2, ts', h3, _, h4⟩ := h
    rw [hts] at h3; obtain rfl := Option.some.inj h3
    exact ⟨cs, h1, h2, h4⟩
  · obtain ⟨cs, h1, h2, ts', h3, _, h4⟩ := h
    rw [hts] at h3; obtain rfl := Option.some.inj h3
    exact ⟨cs, h1, h2, h4⟩
  · rename_i h1 h2
    exfalso
    split at ht
    · exact h1 _ ‹_›
    · exact h2 _ _ ‹_›
    · cases ht

theorem okWide_int {P : Program} {W : World} {r : Reach} {base : Nat} {t : TypeId} {k : IntKind} {v : Value} (ht : P.underlying t = some (.int k)) (h : Cell.okWide P W r base t v) : ∃ n, v = .int k n ∧ k.has n := by
  unfold Cell.okWide at h
  rw [ht] at h
  unfold Cell.ok at h
  rw [ht] at h
  cases v <;> simp at h
  rename_i k' n
  obtain ⟨rfl, h2⟩ := h
  exact ⟨n, rfl, h2⟩

theorem u8block (cs : Array Value) (o m : Nat) (h : ∀ i, o ≤ i → i < o + m → ∃ n, cs[i]? = some (.int .u8 n) ∧ IntKind.u8.has n) : ∃ t : Nat → UInt8, (cs.toList.drop o).take m = flat [.arr m (enf u8v t)] := by
  refine ⟨fun k => match cs[o + k]? with | some (.int _ n) => UInt8.ofInt n | _ => 0, ?_⟩
  apply List.ext_getElem?
  intro i
  simp only [flat, Seg.cells, List.append_nil, List.getElem?_take, List.getElem?_drop, List.getElem?_map]
  by_cases hi : i < m
  · obtain ⟨n, hn, hw⟩ := h (o + i) (by omega) (by omega)
    have hn' : cs.toList[o + i]? = some (.int .u8 n) := by simpa using hn
    rw [if_pos hi, List.getElem?_range hi, hn']
    simp only [Option.map_some, enf, hn]
    congr 1
    rw [← conv_i64_u8]
    congr 1
    have hw' : 0 ≤ n ∧ n ≤ 255 := by
      simp only [IntKind.has, IntKind.min, IntKind.max, IntKind.signed, IntKind.bits] at hw
      simpa using hw
    rw [IntKind.wrap_u8]; omega
  · rw [if_neg hi]
    simp [hi]

theorem okWideV_int {P : Program} {W : World} {r : Reach} {base : Nat} {t : TypeId} {k : IntKind} {v : Value} (ht : P.underlying t = some (.int k)) (h : Value.okWide P W r base t v) : ∃ n, v = .int k n ∧ k.has n := by
  unfold Value.okWide at h
  rw [ht] at h
  exact okWide_int ht h
theorem okWideV_string {P : Program} {W : World} {r : Reach} {base : Nat} {t : TypeId} {v : Value} (ht : P.underlying t = some .string) (h : Value.okWide P W r base t v) : ∃ l : Str, v = strv l := by
  unfold Value.okWide at h
  rw [ht] at h
  simp only at h
  unfold Cell.okWide at h
  rw [ht] at h
  unfold Cell.ok at h
  rw [ht] at h
  cases v <;> simp at h
  rename_i s
  exact ⟨s.data.toList, by simp [strv]⟩
theorem i64cell (cs : Array Value) (o : Nat) (ho : o < cs.size) (h : ∀ u, cs[o]? = some u → ∃ n, u = .int .i64 n ∧ IntKind.i64.has n) : ∃ x, (cs.toList.drop o).take 1 = flat [.one (.int .i64 x)] ∧ IntKind.i64.has x := by
  obtain ⟨n, hn, hw⟩ := h cs[o] (by simp [ho])
  refine ⟨n, ?_, hw⟩
  have hl : o < cs.toList.length := by simpa using ho
  rw [List.drop_eq_getElem_cons hl, List.take_succ_cons, List.take_zero]
  simp [flat, Seg.cells, hn]
def pieces (l : List Value) : Nat → List Nat → List Value
  | _, [] => []
  | o, m :: r => (l.drop o).take m ++ pieces l (o + m) r
theorem pieces_eq (l : List Value) : ∀ (ns : List Nat) (o : Nat), l.length = o + ns.sum → pieces l o ns = l.drop o
  | [], o, h => by
    simp only [List.sum_nil, Nat.add_zero] at h
    simp [pieces, h]
  | m :: r, o, h => by
    simp only [List.sum_cons] at h
    rw [pieces, pieces_eq l r (o + m) (by omega), ← List.drop_drop, List.take_append_drop]

theorem encs_ints (ys : List Int) : encs Ei ys = ys.map (Value.int .i64) := by
  induction ys with
  | nil => rfl
  | cons y ys ih => simp only [encs, List.flatMap_cons, List.map_cons] at ih ⊢; rw [ih]; rfl
theorem okWideV_slice {P : Program} {W : World} {r : Reach} {base : Nat} {t e : TypeId} {v : Value} (ht : P.underlying t = some (.slice e)) (h : Value.okWide P W r base t v) : ∃ a n c, v = .slice a n c := by
  unfold Value.okWide at h
  rw [ht] at h
  simp only at h
  unfold Cell.okWide at h
  rw [ht] at h
  simp only at h
  unfold Cell.ok at h
  rw [ht] at h
  cases v <;> simp at h
  exact ⟨_, _, _, rfl⟩
/-- A slice of whole numbers that comes in. -/
theorem okWideV_ints {H : Type} {r : Reach} {base : Nat} {enc : TypeId × Value → H} {P : Program} {W : World} {sp : Nat → Bool} {held : Bool} {t e : TypeId} {v : Value} {d : DataW H} {p : List MemPlace} (ht : P.underlying t = some (.slice e)) (he : P.underlying e = some (.int .i64)) (hc : P.cellsOf e = 1)
    (hv : Value.okWide P W r base t v) (h : DataW.Trod enc P W 0 sp held t v d p) : ∃ (s : SV) (ys : List Int) (el spare : List (DataW H)), v = s.v ∧ Reads Ei (hp W) s ys ∧ (∀ x ∈ ys, IntKind.i64.has x) ∧ ((d = .nil ∧ ys = []) ∨ (d = .slice el spare ∧ ys.length = el.length + 0)) := by
  obtain ⟨m, hm⟩ := h
  obtain ⟨a1, n1, c1, rfl⟩ := okWideV_slice ht hv
  have hcl : (Value.slice a1 n1 c1).cells.toList = [Value.slice a1 n1 c1] := rfl
  rw [hcl] at hm
  rcases ChangeShapes.open_ints ht he hc hm with ⟨h1, h2⟩ | ⟨a, len, cap, zs, h1, _, h3, h4, h5, h6, h7, h8⟩
  · injection h1 with h1
    injection h2 with h2
    exact ⟨⟨none, 0, 0⟩, [], [], [], h1, ⟨rfl, Nat.le_refl _, by simp [maxLen], .inl rfl⟩, by simp, .inl ⟨h2, rfl⟩⟩
  · injection h1 with h1
    injection h6 with h6
    have hlen : len ≤ zs.length := by rw [h5]; split <;> omega
    refine ⟨⟨some a, len, cap⟩, zs.take len, _, _, h1, ⟨by simp; omega, h3, h4, ?_⟩, ?_, .inr ⟨h6, by simp [ChangeShapes.lits]⟩⟩
    · by_cases hl : len = 0
      · left; subst hl; simp
      · right
        have h0 := h7 0 (by omega)
        obtain ⟨b, o, sp'⟩ := a
        have e0 : (⟨b, o, sp'⟩ : Addr).add 0 = ⟨b, o, sp'⟩ := by simp [Addr.add]
        rw [e0] at h0
        unfold World.cell? at h0
        split at h0
        · rename_i cs T fr hb
          have hsp : sp' = none := by
            cases sp' with
            | none => rfl
            | some x => simp at h0
          subst hsp
          refine ⟨b, o, cs, T, fr, rfl, hb, ?_⟩
          intro j u hu
          rw [encs_ints, List.getElem?_map, List.getElem?_take] at hu
          split at hu
          · rename_i hj
            have hz := h7 j (by omega)
            rw [add_none, cell_at hb] at hz
            rw [hz, ← hu]
            have : zs[j]? = some (zs[j]'(by omega)) := List.getElem?_eq_getElem _
            simp [List.getD, this]
          · simp at hu
        · cases h0
    · intro x hx
      have := h8 x (List.mem_of_mem_take hx)
      simp only [Lit.wf, Bool.and_eq_true, decide_eq_true_eq] at this
      exact this

theorem reads_of {β : Type} {E : FE β} {W : World} {a : Addr} {n cap : Nat} {ys : List β} (hn : n = ys.length) (hpos : 0 < E.sz) (hc : ∀ (j : Nat) (u : Value), (encs E ys)[j]? = some u → W.cell? (a.add j) = some u) (h1 : n ≤ cap) (h2 : cap ≤ maxLen) : Reads E (hp W) ⟨some a, n, cap⟩ ys := by
  subst hn
  refine ⟨rfl, h1, h2, ?_⟩
  cases ys with
  | nil => exact .inl rfl
  | cons y ys =>
    right
    have hl : 0 < (encs E (y :: ys)).length := by rw [encs_length, List.length_cons, Nat.add_mul]; omega
    have h0 := hc 0 _ (List.getElem?_eq_getElem hl)
    obtain ⟨b, o, sp'⟩ := a
    have e0 : (⟨b, o, sp'⟩ : Addr).add 0 = ⟨b, o, sp'⟩ := by simp [Addr.add]
    rw [e0] at h0
    unfold World.cell? at h0
    split at h0
    · rename_i cs T fr hb
      have hsp : sp' = none := by
        cases sp' with
        | none => rfl
        | some x => simp at h0
      subst hsp
      refine ⟨b, o, cs, T, fr, rfl, hb, ?_⟩
      intro j u hu
      have := hc j u hu
      rwa [add_none, cell_at hb] at this
    · cases h0
theorem encs_svs (ys : List SV) : encs Ev ys = ys.map SV.v := by
  induction ys with
  | nil => rfl
  | cons y ys ih => simp only [encs, List.flatMap_cons, List.map_cons] at ih ⊢; rw [ih]; rfl
theorem Reads.len_le {β : Type} {E : FE β} {I : Hp} {s : SV} {ys : List β} (h : Reads E I s ys) : ys.length ≤ 9223372036854775807 := by
  obtain ⟨h0, h1, h2, _⟩ := h
  have : maxLen = 9223372036854775807 := rfl
  omega
/-- A slice of slices of whole numbers that comes in. -/
theorem okWideV_introws {H : Type} {r : Reach} {base : Nat} {enc : TypeId × Value → H} {P : Program} {W : World} {held : Bool} {t e q : TypeId} {v : Value} {d : DataW H} {p : List MemPlace} (ht : P.underlying t = some (.slice e)) (he : P.underlying e = some (.slice q)) (hq : P.underlying q = some (.int .i64)) (ce : P.cellsOf e = 1) (cq : P.cellsOf q = 1)
    (hv : Value.okWide P W r base t v) (h : DataW.Trod enc P W 0 (fun _ => true) held t v d p) : ∃ (s : SV) (ss : List SV) (yss : List (List Int)), v = s.v ∧ ReadsM Ei (hp W) s ss yss ∧ (∀ r ∈ yss, ∀ x ∈ r, IntKind.i64.has x) ∧ (∀ r ∈ yss, r.length ≤ 9223372036854775807) ∧ yss.length ≤ 9223372036854775807 := by
  obtain ⟨m, hm⟩ := h
  obtain ⟨a1, n1, c1, rfl⟩ := okWideV_slice ht hv
  have hcl : (Value.slice a1 n1 c1).cells.toList = [Value.slice a1 n1 c1] := rfl
  rw [hcl] at hm
  rcases Deep.open_int_rows ht he hq ce cq hm with ⟨h1, h2⟩ | ⟨a, len, cap, A, L, C, Z, h1, _, h3, h4, _, h5⟩
  · injection h1 with h1
    exact ⟨⟨none, 0, 0⟩, [], [], h1, ⟨⟨rfl, Nat.le_refl _, by simp [maxLen], .inl rfl⟩, rfl, by simp⟩, by simp, by simp, by simp⟩
  · injection h1 with h1
    have key : ∀ r, r < len → Reads Ei (hp W) ⟨A r, L r, C r⟩ ((Z r).take (L r)) := by
      intro r hr
      obtain ⟨g1, g2, g3, g4, g5, g6, g7⟩ := h5 r (by omega)
      cases hA : A r with
      | none =>
        have := g6 hA
        have hL : L r = 0 := by omega
        rw [hL]
        exact ⟨rfl, Nat.zero_le _, g3, .inl rfl⟩
      | some a' =>
        refine reads_of (by simp; omega) (by decide) ?_ g2 g3
        intro j u hu
        rw [encs_ints, List.getElem?_map, List.getElem?_take] at hu
        split at hu
        · rename_i hj
          have hz := (g7 a' hA).2 j (by omega)
          rw [hz, ← hu]
          have : (Z r)[j]? = some ((Z r)[j]'(by omega)) := List.getElem?_eq_getElem _
          simp [List.getD, this]
        · simp at hu
    have hM : ReadsM Ei (hp W) ⟨some a, len, cap⟩ ((List.range len).map fun r => ⟨A r, L r, C r⟩) ((List.range len).map fun r => (Z r).take (L r)) := by
      refine ⟨reads_of (by simp) (by decide) ?_ h3 h4, by simp, ?_⟩
      · intro j u hu
        rw [encs_svs, List.map_map, List.getElem?_map] at hu
        by_cases hj : j < len
        · rw [List.getElem?_range hj] at hu
          have := (h5 j (by omega)).1
          rw [this, ← hu]; rfl
        · simp [hj] at hu
      · intro j u ys h1 h2
        by_cases hj : j < len
        · rw [List.getElem?_map, List.getElem?_range hj] at h1 h2
          obtain rfl := Option.some.inj h1
          obtain rfl := Option.some.inj h2
          exact key j hj
        · simp [hj] at h1
    refine ⟨⟨some a, len, cap⟩, _, _, h1, hM, ?_, ?_, hM.2.1 ▸ hM.1.len_le⟩
    · intro r hr x hx
      obtain ⟨i, hi, rfl⟩ := List.mem_map.1 hr
      have := (h5 i (by have := List.mem_range.1 hi; omega)).2.2.2.2.1 x (List.mem_of_mem_take hx)
      simp only [Lit.wf, Bool.and_eq_true, decide_eq_true_eq] at this
      exact this
    · intro r hr
      obtain ⟨i, hi, rfl⟩ := List.mem_map.1 hr
      exact (key i (List.mem_range.1 hi)).len_le

theorem mapM_get {α β : Type} {f : α → Option β} : ∀ {l : List α} {xs : List β}, l.mapM f = some xs → ∀ {i : Nat} {a : α}, l[i]? = some a → ∃ y, f a = some y
  | [], _, _, _, _, h => by simp at h
  | a :: l, xs, hm, i, b, h => by
    rw [List.mapM_cons] at hm
    obtain ⟨y, hy, h2⟩ := Option.bind_eq_some_iff.1 hm
    obtain ⟨ys, hys, _⟩ := Option.bind_eq_some_iff.1 h2
    cases i with
    | zero => simp at h; subst h; exact ⟨y, hy⟩
    | succ i => exact mapM_get hys (by simpa using h)
/-- A slice of whole numbers that is a field of a struct that comes in. -/
theorem structInts {H : Type} {enc : TypeId × Value → H} {P : Program} {W : World} {sp : Nat → Bool} {held : Bool} {t e : TypeId} {fs : Array Field} {f : Field} {cs : Array Value} {d : DataW H} {p : List MemPlace} (ht : P.underlying t = some (.struct fs)) (h : DataW.Trod enc P W 0 sp held t (.agg cs) d p) (i : Nat) (hf : fs[i]? = some f)
    (hu : P.underlying f.type = some (.slice e)) (he : P.underlying e = some (.int .i64)) (hc : P.cellsOf e = 1) (h1 : P.cellsOf f.type = 1) {o : Nat} (ho : f.offset = o) :
    ∃ (s : SV) (ys : List Int), (cs.toList.drop o).take 1 = flat [.one (SV.v s)] ∧ Reads Ei (hp W) s ys ∧ (∀ x ∈ ys, IntKind.i64.has x) := by
  obtain ⟨m, hm⟩ := h
  have hcl : (Value.agg cs).cells.toList = cs.toList := rfl
  rw [hcl] at hm
  cases m with
  | zero => simp [DataW.trod] at hm
  | succ m =>
    unfold DataW.trod at hm
    rw [ht] at hm
    simp only at hm
    split at hm
    · obtain ⟨xs, hxs, _⟩ := Option.map_eq_some_iff.1 hm
      obtain ⟨y, hy⟩ := mapM_get hxs (i := i) (a := f) (by simpa using hf)
      rw [h1, ho] at hy
      rcases ChangeShapes.open_ints hu he hc hy with ⟨g1, g2⟩ | ⟨a, len, cap, zs, g1, _, g3, g4, g5, g6, g7, g8⟩
      · exact ⟨⟨none, 0, 0⟩, [], by rw [g1]; rfl, ⟨rfl, Nat.le_refl _, by simp [maxLen], .inl rfl⟩, by simp⟩
      · have hlen : len ≤ zs.length := by rw [g5]; split <;> omega
        refine ⟨⟨some a, len, cap⟩, zs.take len, by rw [g1]; rfl, reads_of (by simp; omega) (by decide) ?_ g3 g4, ?_⟩
        · intro j u hu'
          rw [encs_ints, List.getElem?_map, List.getElem?_take] at hu'
          split at hu'
          · rename_i hj
            have hz := g7 j (by omega)
            rw [hz, ← hu']
            have : zs[j]? = some (zs[j]'(by omega)) := List.getElem?_eq_getElem _
            simp [List.getD, this]
          · simp at hu'
        · intro x hx
          have := g8 x (List.mem_of_mem_take hx)
          simp only [Lit.wf, Bool.and_eq_true, decide_eq_true_eq] at this
          exact this
    · cases hm

/-- The cells of an array of bytes that comes in. -/
theorem trod_u8s {H : Type} {enc : TypeId × Value → H} {P : Program} {W : World} {base : Nat} {sp : Nat → Bool} {held : Bool} {e q : TypeId} {N n : Nat} {cs : List Value} {x : DataW H × List MemPlace} (he : P.underlying e = some (.array N q)) (hq : P.underlying q = some (.int .u8)) (cq : P.cellsOf q = 1) (ce : P.cellsOf e = N)
    (h : DataW.trod enc P W base sp held n e cs = some x) : ∃ t : Nat → UInt8, cs = flat [.arr N (enf u8v t)] := by
  cases n with
  | zero => simp [DataW.trod] at h
  | succ n =>
    unfold DataW.trod at h
    rw [he] at h
    simp only at h
    split at h
    · rename_i hlen
      rw [ce] at hlen
      obtain ⟨xs, hxs, _⟩ := Option.map_eq_some_iff.1 h
      obtain ⟨t, ht⟩ := u8block cs.toArray 0 N (fun i _ hi => by
        obtain ⟨y, hy⟩ := mapM_get hxs (i := i) (a := i) (by rw [List.getElem?_range (by omega)])
        rw [cq, Nat.mul_one] at hy
        have hi' : i < cs.length := by omega
        rw [List.drop_eq_getElem_cons hi', List.take_succ_cons, List.take_zero] at hy
        cases n with
        | zero => simp [DataW.trod] at hy
        | succ n =>
          unfold DataW.trod at hy
          rw [hq] at hy
          cases hc : cs[i] <;> rw [hc] at hy <;> simp only at hy <;> try cases hy
          rename_i k' z
          split at hy
          · rename_i hw
            obtain ⟨rfl, hw⟩ := hw
            refine ⟨z, by simp [hi', hc], ?_⟩
            simp only [Lit.wf, Bool.and_eq_true, decide_eq_true_eq] at hw
            exact hw
          · cases hy)
      refine ⟨t, ?_⟩
      rw [← ht, List.drop_zero]
      exact (List.take_of_length_le (by omega)).symm
    · cases h
/-- A slice of arrays of bytes that comes in. -/
theorem okWideV_vecs {H : Type} {r : Reach} {base : Nat} {enc : TypeId × Value → H} {P : Program} {W : World} {held : Bool} {sp : Nat → Bool} {t e q : TypeId} {N : Nat} {v : Value} {d : DataW H} {p : List MemPlace} (ht : P.underlying t = some (.slice e)) (he : P.underlying e = some (.array N q)) (hq : P.underlying q = some (.int .u8)) (ce : P.cellsOf e = N) (cq : P.cellsOf q = 1) (hN : 0 < N)
    (hv : Value.okWide P W r base t v) (h : DataW.Trod enc P W 0 sp held t v d p) : ∃ (s : SV) (ys : List (Nat → UInt8)), v = s.v ∧ Reads (Evec N) (hp W) s ys ∧ ys.length ≤ 9223372036854775807 := by
  obtain ⟨m, hm⟩ := h
  obtain ⟨a1, n1, c1, rfl⟩ := okWideV_slice ht hv
  have hcl : (Value.slice a1 n1 c1).cells.toList = [Value.slice a1 n1 c1] := rfl
  rw [hcl] at hm
  rcases Deep.open_slice ht hm with ⟨h1, h2⟩ | ⟨a, len, cap, m', n', D, Pl, h1, _, h3, h4, h5, _, h7⟩
  · injection h1 with h1
    exact ⟨⟨none, 0, 0⟩, [], h1, ⟨rfl, Nat.le_refl _, by simp [maxLen], .inl rfl⟩, by simp⟩
  · injection h1 with h1
    have hlen : len ≤ m' := by rw [h5]; split <;> omega
    obtain ⟨T, hT⟩ := Deep.choose_lt (n := len) (α := Nat → UInt8) (p := fun i t => W.cells? 0 (a.add (i * N)) N = some (flat [.arr N (enf u8v t)])) (fun i hi => by
      obtain ⟨cs', g1, g2⟩ := h7 i (by omega)
      obtain ⟨t, rfl⟩ := trod_u8s he hq cq ce g2
      rw [ce] at g1
      exact ⟨t, g1⟩)
    have hR : Reads (Evec N) (hp W) ⟨some a, len, cap⟩ ((List.range len).map T) := by
      refine reads_of (by simp) hN ?_ h3 h4
      intro j u hu
      have hjl : j < len * N := by
        have := (List.getElem?_eq_some_iff.1 hu).1
        rw [encs_length] at this
        simpa [Evec] using this
      have hjd : j / N < len := by rw [Nat.div_lt_iff_lt_mul hN]; exact hjl
      have hjm : j % N < N := Nat.mod_lt _ hN
      have e1 : j / N * (Evec N).sz + j % N = j := by
        have := Nat.div_add_mod j N
        show j / N * N + j % N = j
        rw [Nat.mul_comm]; exact this
      have h8 := encs_get (Evec N) ((List.range len).map T) (j / N) (j % N) (T (j / N)) (by simp [hjd]) hjm
      rw [e1, hu] at h8
      obtain ⟨_, _, g3⟩ := World.cells?_some (hT (j / N) hjd)
      have h9 := (g3 (j % N) hjm).trans h8.symm
      rw [Deep.add_add] at h9
      rw [show j / N * N + j % N = j from e1] at h9
      exact h9
    exact ⟨⟨some a, len, cap⟩, _, h1, hR, hR.len_le⟩
end Go.Sx
