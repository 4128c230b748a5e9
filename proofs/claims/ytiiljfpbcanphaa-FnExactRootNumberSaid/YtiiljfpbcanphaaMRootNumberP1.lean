/- Plain laws. -/
import Derived.Test.YtiiljfpbcanphaaMRootNumber3
import Derived.ProofKit
import Derived.OpenShut
import Derived.ShutString
import Derived.ChangeOld
import Derived.Carry
import Derived.SizedLaws
import Derived.ChangeSlices
import Derived.Deep.Matrix
/- Pl: plain laws of the loops, and of whole numbers. -/
namespace Go.Sx

theorem loopN_mono {σ ρ : Type} {f : σ → Option (LR σ ρ)} : ∀ {k s o}, loopN f k s = some o → ∀ {k'}, k ≤ k' → loopN f k' s = some o
  | 0, _, _, h, _, _ => by cases h
  | k + 1, s, o, h, k', hk => by
    obtain ⟨j, rfl⟩ : ∃ j, k' = j + 1 := ⟨k' - 1, by omega⟩
    simp only [loopN] at h ⊢
    split at h
    · cases h
    · exact loopN_mono h (by omega)
    · exact h
    · exact h

theorem loop_run {σ ρ : Type} {f : σ → Option (LR σ ρ)} (Inv : σ → Prop) (m : σ → Nat) (Q : LO σ ρ → Prop)
    (h : ∀ s, Inv s → (∃ s', f s = some (.next s') ∧ Inv s' ∧ m s' < m s) ∨ (∃ s', f s = some (.brk s') ∧ Q (.brk s')) ∨ (∃ r, f s = some (.ret r) ∧ Q (.ret r)))
    (s : σ) (hs : Inv s) (hm : m s < 4611686018427387904) : ∃ o, loop f s = some o ∧ Q o := by
  have key : ∀ k s, Inv s → m s < k → ∃ o, loopN f k s = some o ∧ Q o := by
    intro k
    induction k with
    | zero => intro s _ h; omega
    | succ k ih =>
      intro s hs hm
      rcases h s hs with ⟨s', h1, h2, h3⟩ | ⟨s', h1, h2⟩ | ⟨r, h1, h2⟩
      · obtain ⟨o, ho, hq⟩ := ih s' h2 (by omega)
        exact ⟨o, by simp only [loopN, h1]; exact ho, hq⟩
      · exact ⟨_, by simp only [loopN, h1], h2⟩
      · exact ⟨_, by simp only [loopN, h1], h2⟩
  obtain ⟨o, ho, hq⟩ := key (m s + 1) s hs (by omega)
  exact ⟨o, loopN_mono ho (by unfold FUEL; omega), hq⟩

theorem loop1_of {σ : Type} {f : σ → Option (LB σ)} {s s' : σ} (h : loop (ρ := Empty) (fun s => (f s).map LB.lr) s = some (.brk s')) : loop1 f s = some s' := by
  unfold loop1; rw [h]

theorem loop1_run {σ : Type} {f : σ → Option (LB σ)} (Inv : σ → Prop) (m : σ → Nat) (Q : σ → Prop)
    (h : ∀ s, Inv s → (∃ s', f s = some (.next s') ∧ Inv s' ∧ m s' < m s) ∨ (∃ s', f s = some (.brk s') ∧ Q s'))
    (s : σ) (hs : Inv s) (hm : m s < 4611686018427387904) : ∃ o, loop1 f s = some o ∧ Q o := by
  obtain ⟨o, ho, hq⟩ := loop_run (ρ := Empty) (f := fun s => (f s).map LB.lr) Inv m (fun o => match o with | .brk s => Q s | .ret r => nomatch r) (by
    intro s hs
    rcases h s hs with ⟨s', h1, h2, h3⟩ | ⟨s', h1, h2⟩
    · exact .inl ⟨s', by rw [h1]; rfl, h2, h3⟩
    · exact .inr (.inl ⟨s', by rw [h1]; rfl, h2⟩)) s hs hm
  cases o with
  | brk s' => exact ⟨s', loop1_of ho, hq⟩
  | ret r => exact nomatch r

theorem loop_of {σ ρ : Type} {f : σ → Option (LR σ ρ)} {s : σ} {o : LO σ ρ} {k : Nat} (h : loopN f k s = some o) (hk : k ≤ 4611686018427387904) : loop f s = some o :=
  loopN_mono h (by unfold FUEL; omega)

/-- A loop that counts up to n, and leaves by its end. -/
theorem loop_upto {σ ρ : Type} {f : σ → Option (LR σ ρ)} (S : Nat → σ) (n : Nat) (b : σ) (hn : n < 4611686018427387904) (step : ∀ i, i < n → f (S i) = some (.next (S (i + 1)))) (fin : f (S n) = some (.brk b)) : loop f (S 0) = some (.brk b) := by
  have key : ∀ d i, i + d = n → loopN f (d + 1) (S i) = some (.brk b) := by
    intro d
    induction d with
    | zero => intro i hi; obtain rfl : i = n := by omega
              simp only [loopN, fin]
    | succ d ih => intro i hi; rw [loopN, step i (by omega)]; exact ih (i + 1) (by omega)
  exact loop_of (key n 0 (by omega)) (by omega)
theorem loop1_upto {σ : Type} {f : σ → Option (LB σ)} (S : Nat → σ) (n : Nat) (b : σ) (hn : n < 4611686018427387904) (step : ∀ i, i < n → f (S i) = some (.next (S (i + 1)))) (fin : f (S n) = some (.brk b)) : loop1 f (S 0) = some b :=
  loop1_of (loop_upto (ρ := Empty) (f := fun s => (f s).map LB.lr) S n b hn (fun i hi => by rw [step i hi]; rfl) (by rw [fin]; rfl))

/-- A loop that counts up to n and looks for something. -/
theorem loop_find {σ ρ : Type} {f : σ → Option (LR σ ρ)} (S : Nat → σ) (n : Nat) (bad : Nat → Bool) (r : Nat → ρ) (b : σ) (hn : n < 4611686018427387904)
    (step : ∀ i, i < n → f (S i) = some (bif bad i then .ret (r i) else .next (S (i + 1)))) (fin : f (S n) = some (.brk b)) :
    loop f (S 0) = some (match (List.range n).find? bad with | some i => .ret (r i) | none => .brk b) := by
  have key : ∀ d i, i + d = n → loopN f (d + 1) (S i) = some (match (List.range' i d).find? bad with | some i => .ret (r i) | none => .brk b) := by
    intro d
    induction d with
    | zero => intro i hi; obtain rfl : i = n := by omega
              simp only [loopN, fin]; rfl
    | succ d ih =>
      intro i hi
      rw [loopN, step i (by omega), List.range'_succ, List.find?_cons]
      cases hb : bad i with
      | true => rfl
      | false => exact ih (i + 1) (by omega)
  rw [List.range_eq_range']
  exact loop_of (key n 0 (by omega)) (by omega)
theorem loop_any {σ ρ : Type} {f : σ → Option (LR σ ρ)} (S : Nat → σ) (n : Nat) (bad : Nat → Bool) (r : ρ) (b : σ) (hn : n < 4611686018427387904)
    (step : ∀ i, i < n → f (S i) = some (bif bad i then .ret r else .next (S (i + 1)))) (fin : f (S n) = some (.brk b)) :
    loop f (S 0) = some (bif (List.range n).any bad then .ret r else .brk b) := by
  rw [loop_find S n bad (fun _ => r) b hn step fin]
  cases hf : (List.range n).find? bad with
  | none =>
    have : (List.range n).any bad = false := by
      rw [List.any_eq_false]; intro x hx; have := List.find?_eq_none.1 hf x hx; simpa using this
    rw [this]; rfl
  | some i =>
    have : (List.range n).any bad = true := List.any_eq_true.2 ⟨i, List.mem_of_find?_eq_some hf, List.find?_some hf⟩
    rw [this]; rfl

theorem w64_in {x : Int} (h : -9223372036854775808 ≤ x ∧ x ≤ 9223372036854775807) : w64 x = x := IntWalk.i64_in x h
theorem w64_succ {i : Nat} (h : i < 4611686018427387904) : w64 ((i : Int) + 1) = ((i + 1 : Nat) : Int) := by rw [w64_in (by omega)]; omega
theorem w64_pred {i : Nat} (h : i < 4611686018427387904) : w64 (((i + 1 : Nat) : Int) - 1) = (i : Int) := by rw [w64_in (by omega)]; omega
theorem chk_in {α : Type} {i : Int} {n : Nat} {k : Option α} (h : 0 ≤ i ∧ i < n) : chk i n k = k := if_pos h
theorem nz_in {α : Type} {b : Int} {k : Option α} (h : b ≠ 0) : nz b k = k := if_neg h
theorem small_in {α : Type} {n : Nat} {k : Option α} (h : n ≤ 1099511627776) : small n k = k := if_pos h
theorem dlt_nat (i n : Nat) : decide ((i : Int) < (n : Int)) = decide (i < n) := by simp
theorem beq_nat (a b : Nat) : ((a : Int) == (b : Int)) = decide (a = b) := by rw [Bool.eq_iff_iff]; simp; omega
theorem beq_nat0 (a : Nat) : ((a : Int) == 0) = decide (a = 0) := by rw [Bool.eq_iff_iff]; simp
theorem bne_nat (a b : Nat) : ((a : Int) != (b : Int)) = !decide (a = b) := by rw [bne, beq_nat]
theorem bne_nat0 (a : Nat) : ((a : Int) != 0) = !decide (a = 0) := by rw [bne, beq_nat0]
theorem any_congr {n : Nat} {p q : Nat → Bool} (h : ∀ i, i < n → p i = q i) : (List.range n).any p = (List.range n).any q := by
  rw [Bool.eq_iff_iff]
  simp only [List.any_eq_true, List.mem_range]
  constructor
  · rintro ⟨i, hi, hp⟩; exact ⟨i, hi, by rw [← h i hi]; exact hp⟩
  · rintro ⟨i, hi, hp⟩; exact ⟨i, hi, by rw [h i hi]; exact hp⟩
end Go.Sx

/- Slices of numbers that are searched. -/
namespace Go.Proofs.Ytiiljfpbcanphaa.G
open Go Go.Sx Go.Proofs
theorem gt_ix {α : Type} [Inhabited α] {a : List α} {i : Nat} (h : i < a.length) : gt a (i : Int) = a[i] := by simp [gt, List.getD, h]
theorem any_ix {α : Type} [Inhabited α] (a : List α) (p : α → Bool) : (List.range a.length).any (fun (i : Nat) => p (gt a (i : Int))) = a.any p := by
  rw [Bool.eq_iff_iff, List.any_eq_true, List.any_eq_true]
  constructor
  · rintro ⟨i, hi, h⟩
    have hi' := List.mem_range.1 hi
    exact ⟨a[i], List.getElem_mem _, by rwa [gt_ix hi'] at h⟩
  · rintro ⟨x, hx, h⟩
    obtain ⟨i, hi, rfl⟩ := List.mem_iff_getElem.1 hx
    exact ⟨i, List.mem_range.2 hi, by rw [gt_ix hi]; exact h⟩
theorem found {n : Nat} (p : Nat → Bool) (b : Int) : (((some (match (List.range n).find? p with | some i => LO.ret ((i : Nat) : Int) | none => LO.brk b) : Option (LO Int Int)).bind (ln fun _ => some (-1))).bind fun r_1 => some (decide (r_1 ≥ 0))) = some ((List.range n).any p) := by
  cases hfd : (List.range n).find? p with
  | none =>
    have : (List.range n).any p = false := by
      rw [List.any_eq_false]; intro x hx; have := List.find?_eq_none.1 hfd x hx; simpa using this
    rw [this]; rfl
  | some i =>
    have : (List.range n).any p = true := List.any_eq_true.2 ⟨i, List.mem_of_find?_eq_some hfd, List.find?_some hfd⟩
    rw [this]
    have hd : decide ((i : Int) ≥ 0) = true := by simp
    simp only [Option.bind_some, ln, hd]
theorem hasVal (a : List Int) (h : a.length < 1000000) (v : Int) : slices_Contains_int64_int64.f a v = some (a.any fun x => v == x) := by
  unfold slices_Contains_int64_int64.f slices_Index_int64_int64.f
  have hl := loop_find (f := slices_Index_int64_int64.b0 a v) (fun i => (i : Int)) a.length (fun (i : Nat) => v == gt a (i : Int)) (fun i => (i : Int)) (a.length : Int) (by omega) (fun i hi => by
    unfold slices_Index_int64_int64.b0
    simp only [dlt_nat, hi, decide_true, cond_true]
    rw [chk_in (by omega), w64_succ (by omega)]
    cases v == gt a (i : Int) <;> rfl) (by
    unfold slices_Index_int64_int64.b0
    simp)
  have hl' : loop (slices_Index_int64_int64.b0 a v) 0 = _ := hl
  rw [hl', ← any_ix a (fun x => v == x)]
  exact found _ _
end Go.Proofs.Ytiiljfpbcanphaa.G

/- The primes that are allowed, told by both. -/
namespace Go.Proofs.Ytiiljfpbcanphaa.G
open Go Go.Sx Go.Proofs
def primeB (p : Int) : Bool := ((((((p == 2) || (p == 3)) || (p == 5)) || (p == 7)) || (p == 11)) || (p == 13))
theorem specPrime (p : Int) : spec_l01Prime.f p = some (primeB p) := rfl
theorem implPrime (p : Int) : impl_isPrime.f p = some (primeB p) := by
  unfold impl_isPrime.f
  rw [hasVal _ (by simp)]
  simp only [Option.bind_some, List.any_cons, List.any_nil, Bool.or_false, primeB, Bool.or_assoc]
theorem primeB_le {p : Int} (h : primeB p = true) : 2 ≤ p ∧ p ≤ 13 := by
  unfold primeB at h
  simp only [Bool.or_eq_true, beq_iff_eq] at h
  omega
end Go.Proofs.Ytiiljfpbcanphaa.G

/- Inverses for the primes that are allowed, told by both. -/
namespace Go.Proofs.Ytiiljfpbcanphaa.G
open Go Go.Sx Go.Proofs
def ivn (p c : Nat) : Nat := ((List.range p).find? fun q => c * q % p == 1).getD 0
def primeN (p : Nat) : Bool := p == 2 || p == 3 || p == 5 || p == 7 || p == 11 || p == 13
set_option maxRecDepth 100000 in
theorem inv_tab : ∀ p : Fin 14, primeN p.val = true → ∀ c : Fin 14, 1 ≤ c.val → c.val < p.val → impl_inverse.f (c.val : Int) (p.val : Int) = some (ivn p.val c.val : Int) ∧ spec_l01Inverse.f (p.val : Int) (c.val : Int) = some (ivn p.val c.val : Int) := by decide +kernel
set_option maxRecDepth 100000 in
theorem inv_mul : ∀ p : Fin 14, primeN p.val = true → ∀ c : Fin 14, 1 ≤ c.val → c.val < p.val → ∀ d : Fin 14, 1 ≤ d.val → d.val < p.val → 1 ≤ c.val * d.val % p.val ∧ ∀ u : Fin 14, u.val < p.val → (u.val * ivn p.val c.val % p.val) * ivn p.val d.val % p.val = u.val * ivn p.val (c.val * d.val % p.val) % p.val := by decide +kernel
theorem prime_nat {p : Int} (h : primeB p = true) : ∃ q : Nat, p = (q : Int) ∧ primeN q = true ∧ 2 ≤ q ∧ q ≤ 13 := by
  have h1 := primeB_le h
  obtain ⟨q, rfl⟩ := Int.eq_ofNat_of_zero_le (show 0 ≤ p by omega)
  refine ⟨q, rfl, ?_, by omega, by omega⟩
  unfold primeB at h
  unfold primeN
  simp only [Bool.or_eq_true, beq_iff_eq] at h ⊢
  omega
theorem ivn_lt {p c : Nat} (hp : 2 ≤ p) : ivn p c < p := by
  unfold ivn
  cases h : (List.range p).find? (fun q => c * q % p == 1) with
  | none => simp only [Option.getD_none]; omega
  | some q => exact List.mem_range.1 (List.mem_of_find?_eq_some h)
theorem implInv {p c : Nat} (hp : primeN p = true) (h2 : p ≤ 13) (hc : 1 ≤ c) (hcp : c < p) : impl_inverse.f (c : Int) (p : Int) = some (ivn p c : Int) := (inv_tab ⟨p, by omega⟩ hp ⟨c, by omega⟩ hc hcp).1
theorem specInv {p c : Nat} (hp : primeN p = true) (h2 : p ≤ 13) (hc : 1 ≤ c) (hcp : c < p) : spec_l01Inverse.f (p : Int) (c : Int) = some (ivn p c : Int) := (inv_tab ⟨p, by omega⟩ hp ⟨c, by omega⟩ hc hcp).2
theorem invMul {p c d u : Nat} (hp : primeN p = true) (h2 : p ≤ 13) (hc : 1 ≤ c) (hcp : c < p) (hd : 1 ≤ d) (hdp : d < p) (hu : u < p) : 1 ≤ c * d % p ∧ (u * ivn p c % p) * ivn p d % p = u * ivn p (c * d % p) % p := by
  have := inv_mul ⟨p, by omega⟩ hp ⟨c, by omega⟩ hc hcp ⟨d, by omega⟩ hd hdp
  exact ⟨this.1, this.2 ⟨u, by omega⟩ hu⟩
theorem tmodN (a b : Nat) : Int.tmod (a : Int) (b : Int) = ((a % b : Nat) : Int) := by rw [Int.tmod_eq_emod_of_nonneg (by omega)]; rfl
theorem w64N {a : Nat} (h : a < 4611686018427387904) : w64 (a : Int) = (a : Int) := w64_in (by omega)
theorem mulN (a b : Nat) : (a : Int) * (b : Int) = ((a * b : Nat) : Int) := by simp
/-- A product of small numbers, for a modulus. -/
theorem mulmod {a b p : Nat} (ha : a ≤ 100) (hb : b ≤ 100) : Int.tmod (w64 ((a : Int) * (b : Int))) (p : Int) = ((a * b % p : Nat) : Int) := by
  have : a * b ≤ 100 * 100 := Nat.mul_le_mul ha hb
  rw [mulN, w64N (by omega), tmodN]
end Go.Proofs.Ytiiljfpbcanphaa.G

/- Slices of numbers that are searched by a test. -/
namespace Go.Proofs.Ytiiljfpbcanphaa.G
open Go Go.Sx Go.Proofs
theorem hasInts (a : List Int) (h : a.length < 10000000) (f : Int → Option Bool) (p : Int → Bool) (hf : ∀ x ∈ a, f x = some (p x)) : slices_ContainsFunc_int64_int64.f a f = some (a.any p) := by
  unfold slices_ContainsFunc_int64_int64.f slices_IndexFunc_int64_int64.f
  have hl := loop_find (f := slices_IndexFunc_int64_int64.b0 a f) (fun i => (i : Int)) a.length (fun (i : Nat) => p (gt a (i : Int))) (fun i => (i : Int)) (a.length : Int) (by omega) (fun i hi => by
    unfold slices_IndexFunc_int64_int64.b0
    simp only [dlt_nat, hi, decide_true, cond_true]
    rw [chk_in (by omega), hf _ (by rw [gt_ix hi]; exact List.getElem_mem _), Option.bind_some, w64_succ (by omega)]
    cases p (gt a (i : Int)) <;> rfl) (by
    unfold slices_IndexFunc_int64_int64.b0
    simp)
  have hl' : loop (slices_IndexFunc_int64_int64.b0 a f) 0 = _ := hl
  rw [hl', ← any_ix a p]
  exact found _ _
end Go.Proofs.Ytiiljfpbcanphaa.G

/- Lists of numbers for a prime: polynomials and roots, told by both. -/
namespace Go.Proofs.Ytiiljfpbcanphaa.G
open Go Go.Sx Go.Proofs
def digB (p : Int) (x : Int) : Bool := decide (x ≥ 0) && decide (x ≤ p - 1)
def polyB (p : Int) (l : List Int) : Bool := primeB p && (decide ((l.length : Int) ≥ 1) && decide ((l.length : Int) ≤ 6)) && l.all (digB p)
theorem any_neg {α : Type} (l : List α) (p : α → Bool) : l.any (fun x => !p x) = !l.all p := by rw [List.all_eq_not_any_not, Bool.not_not]
theorem specPoly (p : Int) (l : List Int) (h : l.length ≤ 1048576) : spec_l09Poly.f p l = some (if polyB p l then 0 else 2) := by
  unfold spec_l09Poly.f spec_l01In.f
  rw [specPrime]
  unfold polyB
  simp only [Option.bind_some]
  cases hp : primeB p with
  | false => rfl
  | true =>
    have hpb := primeB_le hp
    simp only [Bool.not_true, cond_false, Option.bind_some, Bool.true_and]
    cases hl : (decide ((l.length : Int) ≥ 1) && decide ((l.length : Int) ≤ 6)) with
    | false => rfl
    | true =>
      simp only [Bool.not_true, cond_false, Bool.true_and]
      have h1 := loop_any (f := spec_l09Poly.b0 l p) (fun i => (i : Int)) l.length (fun (i : Nat) => !digB p (gt l (i : Int))) 2 (l.length : Int) (by omega) (fun i hi => by
        unfold spec_l09Poly.b0 spec_l01In.f
        simp only [dlt_nat, hi, decide_true, cond_true]
        rw [chk_in (by omega), w64_in (x := p - 1) (by omega), Option.bind_some, w64_succ (by omega)]
        have : (decide (gt l (i : Int) ≥ 0) && decide (gt l (i : Int) ≤ p - 1)) = digB p (gt l (i : Int)) := rfl
        rw [this]
        cases digB p (gt l (i : Int)) <;> rfl) (by
        unfold spec_l09Poly.b0
        simp)
      have h2 : loop (spec_l09Poly.b0 l p) 0 = _ := h1
      rw [h2, any_ix l (fun x => !digB p x), any_neg]
      cases l.all (digB p) <;> rfl
theorem poly_dig {p : Int} {l : List Int} (h : polyB p l = true) : (2 ≤ p ∧ p ≤ 13) ∧ 1 ≤ l.length ∧ l.length ≤ 6 ∧ ∀ i : Nat, i < l.length → 0 ≤ gt l (i : Int) ∧ gt l (i : Int) < p := by
  unfold polyB at h
  simp only [Bool.and_eq_true, decide_eq_true_eq, List.all_eq_true] at h
  refine ⟨primeB_le h.1.1, by omega, by omega, fun i hi => ?_⟩
  have := h.2 (gt l (i : Int)) (by rw [gt_ix hi]; exact List.getElem_mem _)
  unfold digB at this
  simp only [Bool.and_eq_true, decide_eq_true_eq] at this
  omega
end Go.Proofs.Ytiiljfpbcanphaa.G

/- Rests: told by both. -/
namespace Go.Proofs.Ytiiljfpbcanphaa.G
open Go Go.Sx Go.Proofs
theorem rs_emod {p : Int} (x : Int) (hp : 2 ≤ p ∧ p ≤ 13) : Int.tmod (w64 (Int.tmod x p + p)) p = x % p := by
  have h1 := Int.tmod_lt_of_pos x (show 0 < p by omega)
  have h2 := Int.lt_tmod_of_pos x (show 0 < p by omega)
  rw [w64_in (by omega), Int.tmod_eq_emod_of_nonneg (by omega), Int.add_emod_right]
  have h3 : Int.tmod x p + p * Int.tdiv x p = x := Int.tmod_add_mul_tdiv x p
  conv => rhs; rw [← h3]
  rw [Int.add_mul_emod_self_left]
theorem specMod {p : Int} (x : Int) (hp : 2 ≤ p ∧ p ≤ 13) : spec_l01Mod.f p x = some (x % p) := by
  unfold spec_l01Mod.f
  rw [nz_in (by omega), rs_emod x hp]
theorem implRest {p : Int} (x : Int) (hp : 2 ≤ p ∧ p ≤ 13) : impl_rest.f x p = some (x % p) := by
  unfold impl_rest.f
  rw [nz_in (by omega), rs_emod x hp]
theorem emod_b {p : Int} (x : Int) (hp : 2 ≤ p ∧ p ≤ 13) : 0 ≤ x % p ∧ x % p < p := ⟨Int.emod_nonneg _ (by omega), Int.emod_lt_of_pos _ (by omega)⟩
/-- So many whole numbers. -/
def zl (n : Nat) (e : Nat → Int) : List Int := (List.range n).map e
theorem zl_length (n : Nat) (e : Nat → Int) : (zl n e).length = n := by simp [zl]
theorem zl_gt {n : Nat} (e : Nat → Int) {k : Nat} (hk : k < n) : gt (zl n e) (k : Int) = e k := by simp [gt, zl, List.getD, hk]
theorem zl_set {n : Nat} (e : Nat → Int) {k : Nat} (v : Int) (hk : k < n) : (zl n e).set k v = zl n (fun x => if x = k then v else e x) := by
  apply List.ext_getElem?
  intro q
  simp only [zl, List.getElem?_set, List.length_map, List.length_range, List.getElem?_map]
  by_cases hq : q < n
  · by_cases h : k = q
    · subst h; simp [hk]
    · have : ¬ q = k := fun e => h e.symm
      simp [hq, h, this]
  · by_cases h : k = q
    · omega
    · simp [hq, h]
theorem zl_congr {n : Nat} {e f : Nat → Int} (h : ∀ i, i < n → e i = f i) : zl n e = zl n f := by
  unfold zl
  refine List.map_congr_left fun i hi => ?_
  rw [h i (List.mem_range.1 hi)]
theorem zl_rep (n : Nat) (v : Int) : List.replicate n v = zl n (fun _ => v) := by
  apply List.ext_getElem?
  intro q
  by_cases hq : q < n <;> simp [zl, hq]
theorem zl_cons (n : Nat) (e : Nat → Int) (v : Int) : [v] ++ zl n e = zl (n + 1) (fun i => if i = 0 then v else e (i - 1)) := by
  unfold zl
  rw [List.range_succ_eq_map, List.map_cons, List.map_map]
  simp only [List.singleton_append, if_pos]
  congr 1
theorem zl_of {l : List Int} : l = zl l.length (fun i => gt l (i : Int)) := by
  apply List.ext_getElem?
  intro q
  by_cases hq : q < l.length
  · simp [zl, hq, gt, List.getD]
  · simp [zl, hq]
end Go.Proofs.Ytiiljfpbcanphaa.G

/- The number of a polynomial at a number; roots; slopes: told by both. -/
namespace Go.Proofs.Ytiiljfpbcanphaa.G
open Go Go.Sx Go.Proofs
theorem implPolyOk (p : Int) (l : List Int) (h : l.length ≤ 1048576) : impl_polynomialOk.f p l = some (polyB p l) := by
  unfold impl_polynomialOk.f impl_in.f
  rw [implPrime]
  unfold polyB
  simp only [Option.bind_some]
  cases hp : primeB p with
  | false => rfl
  | true =>
    have hpb := primeB_le hp
    simp only [cond_true, Option.bind_some, Bool.true_and]
    cases hl : (decide ((l.length : Int) ≥ 1) && decide ((l.length : Int) ≤ 6)) with
    | false => rfl
    | true =>
      simp only [cond_true, Bool.true_and]
      rw [hasInts l (by omega) _ (fun x => !digB p x) (fun x _ => by
        unfold impl_polynomialOk_1.f impl_in.f digB
        rw [w64_in (x := p - 1) (by omega)]
        rfl), any_neg]
      simp
/-- A polynomial's number, from behind: after so many steps. -/
def hz (p r : Int) (e : Nat → Int) (n : Nat) (o : Int) : Nat → Int
  | 0 => o
  | k + 1 => (hz p r e n o k * r + e (n - 1 - k)) % p
theorem mul_b {x y : Int} (hx : 0 ≤ x ∧ x ≤ 13) (hy : 0 ≤ y ∧ y ≤ 13) : 0 ≤ x * y ∧ x * y ≤ 169 := by
  have h1 := Int.mul_nonneg hx.1 hy.1
  have h2 := Int.mul_le_mul hx.2 hy.2 hy.1 (by omega)
  omega
section
variable {p r : Int} (hp : 2 ≤ p ∧ p ≤ 13) (hr : 0 ≤ r ∧ r ≤ 13)
include hp
theorem hz_b {e : Nat → Int} {n : Nat} {o : Int} (ho : 0 ≤ o ∧ o ≤ 13) : ∀ k, 0 ≤ hz p r e n o k ∧ hz p r e n o k ≤ 13
  | 0 => ho
  | k + 1 => by have := emod_b (hz p r e n o k * r + e (n - 1 - k)) hp; unfold hz; omega
include hr
omit hp in
theorem st_emod {o c : Int} (ho : 0 ≤ o ∧ o ≤ 13) (hc : 0 ≤ c ∧ c ≤ 1000) : Int.tmod (w64 (w64 (o * r) + c)) p = (o * r + c) % p := by
  have := mul_b ho hr
  rw [w64_in (x := o * r) (by omega), w64_in (by omega), Int.tmod_eq_emod_of_nonneg (by omega)]
theorem g_hz {l : List Int} (hl : ∀ i : Nat, i < l.length → 0 ≤ gt l (i : Int) ∧ gt l (i : Int) ≤ 13) {o : Int} (ho : 0 ≤ o ∧ o ≤ 13) : impl_valueAt.g p r l.reverse o = hz p r (fun i => gt l (i : Int)) l.length o l.length := by
  have key : ∀ k, k ≤ l.length → impl_valueAt.g p r (l.reverse.take k) o = hz p r (fun i => gt l (i : Int)) l.length o k := by
    intro k
    induction k with
    | zero => intro _; simp [impl_valueAt.g, hz]
    | succ k ih =>
      intro hk
      have hi : l.length - 1 - k < l.length := by omega
      have e1 : l.reverse.take (k + 1) = l.reverse.take k ++ [gt l ((l.length - 1 - k : Nat) : Int)] := by
        rw [List.take_add_one, gt_ix hi, List.getElem?_reverse (by omega), List.getElem?_eq_getElem hi]; rfl
      have hc := hl _ hi
      rw [e1, g_snoc, ih (by omega), st_emod hr (hz_b hp ho k) (by omega)]
      rfl
  have := key l.length (Nat.le_refl _)
  rwa [List.take_of_length_le (by simp)] at this
theorem implAtV {l : List Int} (hl : ∀ i : Nat, i < l.length → 0 ≤ gt l (i : Int) ∧ gt l (i : Int) < p) : impl_valueAt.f p (l ++ [1]) r = some (hz p r (fun i => gt l (i : Int)) l.length 1 l.length) := by
  have hgl : ∀ i : Nat, i < l.length → gt (l ++ [1]) (i : Int) = gt l (i : Int) := by
    intro i hi
    rw [gt_ix (by simp; omega), gt_ix hi, List.getElem_append_left hi]
  have hgn : gt (l ++ [1]) (l.length : Int) = 1 := by
    rw [gt_ix (by simp)]; simp
  unfold impl_valueAt.f
  rw [if_neg (by simp), nz_in (by omega), g_hz hp hr (l := l ++ [1]) (fun i hi => by
    by_cases h : i < l.length
    · rw [hgl i h]; have := hl i h; omega
    · have : i = l.length := by simp at hi; omega
      subst this; rw [hgn]; omega) (o := 0) (by omega)]
  congr 1
  have key : ∀ k, k ≤ l.length → hz p r (fun i => gt (l ++ [1]) (i : Int)) (l.length + 1) 0 (k + 1) = hz p r (fun i => gt l (i : Int)) l.length 1 k := by
    intro k
    induction k with
    | zero =>
      intro _
      show (0 * r + gt (l ++ [1]) ((l.length + 1 - 1 - 0 : Nat) : Int)) % p = 1
      rw [show l.length + 1 - 1 - 0 = l.length by omega, hgn, Int.zero_mul, Int.zero_add]
      exact Int.emod_eq_of_lt (by omega) (by omega)
    | succ k ih =>
      intro hk
      show (hz p r (fun i => gt (l ++ [1]) (i : Int)) (l.length + 1) 0 (k + 1) * r + gt (l ++ [1]) ((l.length + 1 - 1 - (k + 1) : Nat) : Int)) % p = (hz p r (fun i => gt l (i : Int)) l.length 1 k * r + gt l ((l.length - 1 - k : Nat) : Int)) % p
      rw [ih (by omega), show l.length + 1 - 1 - (k + 1) = l.length - 1 - k by omega, hgl _ (by omega)]
  have := key l.length (Nat.le_refl _)
  rw [List.length_append, List.length_singleton]
  exact this
theorem specAtV {l : List Int} (hlen : l.length ≤ 6) (hl : ∀ i : Nat, i < l.length → 0 ≤ gt l (i : Int) ∧ gt l (i : Int) < p) : spec_l09At.f p l r = some (hz p r (fun i => gt l (i : Int)) l.length 1 l.length) := by
  unfold spec_l09At.f
  have h := loop1_upto (f := spec_l09At.b0 l p r) (fun k => (hz p r (fun i => gt l (i : Int)) l.length 1 k, (l.length : Int) - 1 - (k : Int))) l.length (hz p r (fun i => gt l (i : Int)) l.length 1 l.length, -1) (by omega) (fun k hk => by
    unfold spec_l09At.b0
    have d1 : decide ((l.length : Int) - 1 - (k : Int) ≥ 0) = true := by simp; omega
    have e2 : (l.length : Int) - 1 - (k : Int) = ((l.length - 1 - k : Nat) : Int) := by omega
    have hc := hl (l.length - 1 - k) (by omega)
    simp only [d1, cond_true]
    rw [e2, chk_in (by omega), nz_in (by omega), st_emod hr (hz_b hp (by omega) k) (by omega), w64_in (by omega)]
    congr 3
    omega) (by
    unfold spec_l09At.b0
    have d1 : decide ((l.length : Int) - 1 - (l.length : Int) ≥ 0) = false := by simp; omega
    simp only [d1, cond_false]
    congr 3
    omega)
  have e0 : w64 ((l.length : Int) - 1) = (l.length : Int) - 1 - ((0 : Nat) : Int) := by rw [w64_in (by omega)]; omega
  rw [e0]
  have h' : loop1 (spec_l09At.b0 l p r) (1, (l.length : Int) - 1 - ((0 : Nat) : Int)) = _ := h
  rw [h']; rfl
/-- The slope's number, from behind. -/
def sl (p r : Int) (l : List Int) : Nat → Int
  | 0 => (l.length : Int) % p
  | k + 1 => (sl p r l k * r + ((l.length - 1 - k : Nat) : Int) * gt l ((l.length - 1 - k : Nat) : Int)) % p
omit hr in
theorem sl_b {l : List Int} : ∀ k, 0 ≤ sl p r l k ∧ sl p r l k < p
  | 0 => emod_b _ hp
  | _ + 1 => emod_b _ hp
theorem specSl {l : List Int} (hlen : 1 ≤ l.length ∧ l.length ≤ 6) (hl : ∀ i : Nat, i < l.length → 0 ≤ gt l (i : Int) ∧ gt l (i : Int) < p) : spec_l09Slope.f p l r = some (sl p r l (l.length - 1)) := by
  unfold spec_l09Slope.f
  rw [nz_in (by omega)]
  have h := loop1_upto (f := spec_l09Slope.b0 l r p) (fun k => (sl p r l k, (l.length : Int) - 1 - (k : Int))) (l.length - 1) (sl p r l (l.length - 1), 0) (by omega) (fun k hk => by
    unfold spec_l09Slope.b0
    have d1 : decide ((l.length : Int) - 1 - (k : Int) > 0) = true := by simp; omega
    have e2 : (l.length : Int) - 1 - (k : Int) = ((l.length - 1 - k : Nat) : Int) := by omega
    have hc := hl (l.length - 1 - k) (by omega)
    have hm := mul_b (x := ((l.length - 1 - k : Nat) : Int)) (y := gt l ((l.length - 1 - k : Nat) : Int)) (by omega) (by omega)
    have hs := sl_b (r := r) (l := l) hp k
    simp only [d1, cond_true]
    rw [e2, chk_in (by omega), w64_in (x := ((l.length - 1 - k : Nat) : Int) * gt l ((l.length - 1 - k : Nat) : Int)) (by omega), st_emod hr (by omega) (by omega), w64_in (by omega)]
    congr 3
    omega) (by
    unfold spec_l09Slope.b0
    have d1 : decide ((l.length : Int) - 1 - ((l.length - 1 : Nat) : Int) > 0) = false := by simp; omega
    simp only [d1, cond_false]
    congr 3
    omega)
  have e0 : w64 ((l.length : Int) - 1) = (l.length : Int) - 1 - ((0 : Nat) : Int) := by rw [w64_in (by omega)]; omega
  have e1 : Int.tmod (l.length : Int) p = sl p r l 0 := Int.tmod_eq_emod_of_nonneg (by omega)
  rw [e0, e1, h]; rfl
theorem implSl {l : List Int} (hlen : 1 ≤ l.length ∧ l.length ≤ 6) (hl : ∀ i : Nat, i < l.length → 0 ≤ gt l (i : Int) ∧ gt l (i : Int) < p) : impl_slope.f p l r = some (sl p r l (l.length - 1)) := by
  have hgl : ∀ i : Nat, i < l.length → gt (l ++ [1]) (i : Int) = gt l (i : Int) := by
    intro i hi
    rw [gt_ix (by simp; omega), gt_ix hi, List.getElem_append_left hi]
  have hgn : gt (l ++ [1]) (l.length : Int) = 1 := by
    rw [gt_ix (by simp)]; simp
  have hgb : ∀ i : Nat, i ≤ l.length → 0 ≤ gt (l ++ [1]) (i : Int) ∧ gt (l ++ [1]) (i : Int) ≤ 13 := by
    intro i hi
    by_cases h : i < l.length
    · rw [hgl i h]; have := hl i h; omega
    · have : i = l.length := by omega
      subst this; rw [hgn]; omega
  have hlw : (((l ++ ([1] : List Int)).drop 1).take ((l ++ ([1] : List Int)).length - 1)).length = l.length := by simp
  have hgw : ∀ i : Nat, i < l.length → gt (((l ++ ([1] : List Int)).drop 1).take ((l ++ ([1] : List Int)).length - 1)) (i : Int) = gt (l ++ [1]) ((i + 1 : Nat) : Int) := by
    intro i hi
    rw [gt_ix (by rw [hlw]; exact hi), gt_ix (by simp; omega), List.getElem_take, List.getElem_drop]
    congr 1; omega
  unfold impl_slope.f slices_Clone_int64_int64.f
  have gd1 : (decide (0 ≤ 1) && decide (1 ≤ ((l ++ ([1] : List Int)).length : Int)) && decide (((l ++ ([1] : List Int)).length : Int) ≤ ((l ++ ([1] : List Int)).length : Int))) = true := by simp; omega
  rw [small_in (by simp; omega), List.nil_append, Option.bind_some, small_in (by simp; omega), gd1]
  simp only [grd, cond_true]
  have h := loop1_upto (f := impl_slope.b0 l p) (fun k => (zl k (fun i => (((i + 1 : Nat) : Int) * gt (l ++ [1]) ((i + 1 : Nat) : Int)) % p), (k : Int))) l.length (zl l.length (fun i => (((i + 1 : Nat) : Int) * gt (l ++ [1]) ((i + 1 : Nat) : Int)) % p), (l.length : Int)) (by omega) (fun k hk => by
    unfold impl_slope.b0
    have hb := hgb (k + 1) (by omega)
    have hm := mul_b (x := ((k + 1 : Nat) : Int)) (y := gt (l ++ [1]) ((k + 1 : Nat) : Int)) (by omega) hb
    simp only [hlw, dlt_nat, hk, decide_true, cond_true]
    rw [chk_in (by omega), nz_in (by omega), small_in (by simp [zl_length]; omega), hgw k hk, w64_succ (by omega), w64_in (by omega), Int.tmod_eq_emod_of_nonneg (by omega)]
    congr 3
    unfold zl
    rw [List.range_succ, List.map_append]; rfl) (by
    unfold impl_slope.b0
    simp only [hlw, dlt_nat, Nat.lt_irrefl, decide_false, cond_false])
  have h' : loop1 (impl_slope.b0 l p) (([] : List Int), 0) = _ := h
  rw [h']
  simp only [Option.bind_some]
  have hz0 : zl l.length (fun i => (((i + 1 : Nat) : Int) * gt (l ++ [1]) ((i + 1 : Nat) : Int)) % p) ≠ [] := by
    intro e
    have := congrArg List.length e
    rw [zl_length, List.length_nil] at this
    omega
  unfold impl_valueAt.f
  rw [if_neg hz0, nz_in (by omega), g_hz hp hr (fun i hi => by
    rw [zl_length] at hi
    rw [zl_gt _ hi]
    have := emod_b (((i + 1 : Nat) : Int) * gt (l ++ [1]) ((i + 1 : Nat) : Int)) hp
    omega) (o := 0) (by omega), zl_length]
  simp only [Option.bind_some]
  congr 1
  have key : ∀ k, k + 1 ≤ l.length → hz p r (fun i => gt (zl l.length (fun i => (((i + 1 : Nat) : Int) * gt (l ++ [1]) ((i + 1 : Nat) : Int)) % p)) (i : Int)) l.length 0 (k + 1) = sl p r l k := by
    intro k
    induction k with
    | zero =>
      intro _
      show (0 * r + gt (zl l.length (fun i => (((i + 1 : Nat) : Int) * gt (l ++ [1]) ((i + 1 : Nat) : Int)) % p)) ((l.length - 1 - 0 : Nat) : Int)) % p = (l.length : Int) % p
      rw [zl_gt _ (by omega), show l.length - 1 - 0 + 1 = l.length by omega, hgn, Int.zero_mul, Int.zero_add, Int.mul_one, Int.emod_emod]
    | succ k ih =>
      intro hk
      show (hz p r (fun i => gt (zl l.length (fun i => (((i + 1 : Nat) : Int) * gt (l ++ [1]) ((i + 1 : Nat) : Int)) % p)) (i : Int)) l.length 0 (k + 1) * r + gt (zl l.length (fun i => (((i + 1 : Nat) : Int) * gt (l ++ [1]) ((i + 1 : Nat) : Int)) % p)) ((l.length - 1 - (k + 1) : Nat) : Int)) % p = (sl p r l k * r + ((l.length - 1 - k : Nat) : Int) * gt l ((l.length - 1 - k : Nat) : Int)) % p
      rw [ih (by omega), zl_gt _ (by omega), show l.length - 1 - (k + 1) + 1 = l.length - 1 - k by omega, hgl _ (by omega), Int.add_emod, Int.emod_emod, ← Int.add_emod]
  have := key (l.length - 1) (by omega)
  rw [show l.length - 1 + 1 = l.length by omega] at this
  exact this
end
/-- The roots. -/
def rts (p : Int) (l : List Int) : Nat → List Int
  | 0 => []
  | k + 1 => rts p l k ++ (if hz p k (fun i => gt l (i : Int)) l.length 1 l.length = 0 then [(k : Int)] else [])
theorem rts_len (p : Int) (l : List Int) : ∀ k, (rts p l k).length ≤ k
  | 0 => by simp [rts]
  | k + 1 => by
    have := rts_len p l k
    unfold rts
    rw [List.length_append]
    split <;> simp <;> omega
theorem specRts {p : Int} {l : List Int} (hp : 2 ≤ p ∧ p ≤ 13) (hlen : l.length ≤ 6) (hl : ∀ i : Nat, i < l.length → 0 ≤ gt l (i : Int) ∧ gt l (i : Int) < p) : spec_l09Roots.f p l = some (rts p l p.toNat) := by
  unfold spec_l09Roots.f
  have h := loop1_upto (f := spec_l09Roots.b0 p l) (fun k => (rts p l k, (k : Int))) p.toNat (rts p l p.toNat, (p.toNat : Int)) (by omega) (fun k hk => by
    unfold spec_l09Roots.b0
    have d1 : decide ((k : Int) < p) = true := by simp; omega
    have hlk := rts_len p l k
    simp only [d1, cond_true]
    rw [specAtV hp (by omega) hlen hl, Option.bind_some, w64_succ (by omega), small_in (by simp; omega), show rts p l (k + 1) = rts p l k ++ (if hz p k (fun i => gt l (i : Int)) l.length 1 l.length = 0 then [(k : Int)] else []) from rfl]
    by_cases h0 : hz p k (fun i => gt l (i : Int)) l.length 1 l.length = 0
    · rw [h0]; rfl
    · rw [if_neg h0, List.append_nil, beq_false_of_ne h0]; rfl) (by
    unfold spec_l09Roots.b0
    have d1 : decide ((p.toNat : Int) < p) = false := by simp; omega
    simp only [d1, cond_false])
  have h' : loop1 (spec_l09Roots.b0 p l) (([] : List Int), 0) = _ := h
  rw [h']; rfl
theorem implRts {p : Int} {l : List Int} (hp : 2 ≤ p ∧ p ≤ 13) (hlen : l.length ≤ 6) (hl : ∀ i : Nat, i < l.length → 0 ≤ gt l (i : Int) ∧ gt l (i : Int) < p) : impl_roots.f p l = some (rts p l p.toNat) := by
  unfold impl_roots.f slices_Clone_int64_int64.f
  rw [small_in (by simp; omega), List.nil_append, Option.bind_some, small_in (by simp; omega)]
  have h := loop1_upto (f := impl_roots.b0 p l) (fun k => (rts p l k, (k : Int))) p.toNat (rts p l p.toNat, (p.toNat : Int)) (by omega) (fun k hk => by
    unfold impl_roots.b0
    have d1 : decide ((k : Int) < p) = true := by simp; omega
    have hlk := rts_len p l k
    simp only [d1, cond_true]
    rw [implAtV hp (by omega) hl, Option.bind_some, w64_succ (by omega), small_in (by simp; omega), show rts p l (k + 1) = rts p l k ++ (if hz p k (fun i => gt l (i : Int)) l.length 1 l.length = 0 then [(k : Int)] else []) from rfl]
    by_cases h0 : hz p k (fun i => gt l (i : Int)) l.length 1 l.length = 0
    · rw [h0]; rfl
    · rw [if_neg h0, List.append_nil, beq_false_of_ne h0]; rfl) (by
    unfold impl_roots.b0
    have d1 : decide ((p.toNat : Int) < p) = false := by simp; omega
    simp only [d1, cond_false])
  have h' : loop1 (impl_roots.b0 p l) (([] : List Int), 0) = _ := h
  rw [h']; rfl
end Go.Proofs.Ytiiljfpbcanphaa.G

/- A polynomial has no more roots than its degree. -/
namespace Go.Proofs.Ytiiljfpbcanphaa.G
open Go Go.Sx Go.Proofs
/-- A polynomial's number: the coefficients from the least on. -/
def Hn : List Int → Int → Int
  | [], _ => 0
  | c :: t, x => c + x * Hn t x
def qt (a : Int) : List Int → List Int
  | [] => []
  | [_] => []
  | _ :: d :: t => Hn (d :: t) a :: qt a (d :: t)
theorem Hn_sub (a x : Int) : ∀ c : List Int, Hn c x - Hn c a = (x - a) * Hn (qt a c) x
  | [] => by simp [Hn, qt]
  | [c] => by simp [Hn, qt]
  | c :: d :: t => by
    have ih := Hn_sub a x (d :: t)
    have e1 : Hn (c :: d :: t) x = c + x * Hn (d :: t) x := rfl
    have e2 : Hn (c :: d :: t) a = c + a * Hn (d :: t) a := rfl
    have e3 : Hn (qt a (c :: d :: t)) x = Hn (d :: t) a + x * Hn (qt a (d :: t)) x := rfl
    rw [e1, e2, e3]
    generalize Hn (d :: t) x = H at *
    generalize Hn (d :: t) a = Ha at *
    generalize Hn (qt a (d :: t)) x = q at *
    grind
theorem qt_monic (a : Int) : ∀ (c : Int) (m : List Int), ∃ m', qt a (c :: m ++ [1]) = m' ++ [1] ∧ m'.length = m.length
  | c, [] => ⟨[], by simp [qt, Hn], rfl⟩
  | c, d :: m => by
    obtain ⟨m', h1, h2⟩ := qt_monic a d m
    refine ⟨Hn (d :: m ++ [1]) a :: m', ?_, by simp [h2]⟩
    have : qt a (c :: (d :: m) ++ [1]) = Hn (d :: m ++ [1]) a :: qt a (d :: m ++ [1]) := rfl
    rw [this, h1]; rfl
set_option maxRecDepth 100000 in
theorem euc_tab : ∀ p : Fin 14, primeN p.val = true → ∀ a : Fin 14, a.val < p.val → ∀ b : Fin 14, b.val < p.val → a.val * b.val % p.val = 0 → a.val = 0 ∨ b.val = 0 := by decide +kernel
theorem euc {p : Nat} (hp : primeN p = true) (h2 : 2 ≤ p ∧ p ≤ 13) {x y : Int} (h : (p : Int) ∣ x * y) : (p : Int) ∣ x ∨ (p : Int) ∣ y := by
  have bx := Int.emod_nonneg x (show (p : Int) ≠ 0 by omega)
  have bx2 := Int.emod_lt_of_pos x (show (0 : Int) < p by omega)
  have by1 := Int.emod_nonneg y (show (p : Int) ≠ 0 by omega)
  have by2 := Int.emod_lt_of_pos y (show (0 : Int) < p by omega)
  obtain ⟨a, ha⟩ := Int.eq_ofNat_of_zero_le bx
  obtain ⟨b, hb⟩ := Int.eq_ofNat_of_zero_le by1
  have h0 := Int.emod_eq_zero_of_dvd h
  rw [Int.mul_emod, ha, hb] at h0
  have h1 : a * b % p = 0 := by
    have : (((a * b % p : Nat)) : Int) = 0 := by rw [Int.natCast_emod, Int.natCast_mul]; exact h0
    omega
  rcases euc_tab ⟨p, by omega⟩ hp ⟨a, by omega⟩ (by simp only; omega) ⟨b, by omega⟩ (by simp only; omega) h1 with h | h
  · simp only at h
    exact .inl (Int.dvd_of_emod_eq_zero (by rw [ha, h]; rfl))
  · simp only at h
    exact .inr (Int.dvd_of_emod_eq_zero (by rw [hb, h]; rfl))
theorem count {p : Nat} (hp : primeN p = true) (h2 : 2 ≤ p ∧ p ≤ 13) : ∀ (d : Nat) (m : List Int) (R : List Int), m.length = d → R.Nodup → (∀ r ∈ R, 0 ≤ r ∧ r < p) → (∀ r ∈ R, (p : Int) ∣ Hn (m ++ [1]) r) → R.length ≤ d
  | 0, m, R, hm, _, _, hd => by
    have : m = [] := List.length_eq_zero_iff.1 hm
    subst this
    cases R with
    | nil => simp
    | cons r R =>
      exfalso
      have := hd r (by simp)
      simp only [List.nil_append, Hn, Int.mul_zero, Int.add_zero] at this
      have := Int.le_of_dvd (by omega) this
      omega
  | d + 1, m, R, hm, hn, hb, hd => by
    cases R with
    | nil => simp
    | cons a R =>
      cases m with
      | nil => simp at hm
      | cons c m =>
        obtain ⟨m', e1, e2⟩ := qt_monic a c m
        rw [List.nodup_cons] at hn
        have := count hp h2 d m' R (by simp at hm; omega) hn.2 (fun r hr => hb r (by simp [hr])) (fun r hr => by
          have hs := Hn_sub a r (c :: m ++ [1])
          rw [e1] at hs
          have h1 : (p : Int) ∣ (r - a) * Hn (m' ++ [1]) r := hs ▸ Int.dvd_sub (hd r (by simp [hr])) (hd a (by simp))
          rcases euc hp h2 h1 with h | h
          · exfalso
            have ba := hb a (by simp)
            have br := hb r (by simp [hr])
            have hne : r ≠ a := fun e => hn.1 (e ▸ hr)
            obtain ⟨q, hq⟩ := h
            by_cases h0 : q = 0
            · subst h0; omega
            · rcases Int.lt_or_gt_of_ne h0 with h | h
              · have := Int.mul_le_mul_of_nonneg_left (show q ≤ -1 by omega) (show (0 : Int) ≤ p by omega)
                omega
              · have := Int.mul_le_mul_of_nonneg_left (show 1 ≤ q by omega) (show (0 : Int) ≤ p by omega)
                omega
          · exact h)
        simp only [List.length_cons]; omega
theorem hz_Hn {p x : Int} {l : List Int} : ∀ k, k ≤ l.length → ∃ q, Hn ((l ++ [1]).drop (l.length - k)) x = hz p x (fun i => gt l (i : Int)) l.length 1 k + p * q
  | 0, _ => ⟨0, by
    rw [Nat.sub_zero, List.drop_append_of_le_length (Nat.le_refl _), List.drop_length]
    simp [Hn, hz]⟩
  | k + 1, hk => by
    obtain ⟨q, hq⟩ := hz_Hn (p := p) (x := x) (l := l) k (by omega)
    have hi : l.length - 1 - k < l.length := by omega
    have e1 : (l ++ [1]).drop (l.length - (k + 1)) = gt l ((l.length - 1 - k : Nat) : Int) :: (l ++ [1]).drop (l.length - k) := by
      rw [show l.length - (k + 1) = l.length - 1 - k by omega, List.drop_eq_getElem_cons (show l.length - 1 - k < (l ++ [1]).length by simp; omega), List.getElem_append_left hi, gt_ix hi, show l.length - 1 - k + 1 = l.length - k by omega]
    refine ⟨(hz p x (fun i => gt l (i : Int)) l.length 1 k * x + gt l ((l.length - 1 - k : Nat) : Int)) / p + x * q, ?_⟩
    rw [e1]
    have e2 : Hn (gt l ((l.length - 1 - k : Nat) : Int) :: (l ++ [1]).drop (l.length - k)) x = gt l ((l.length - 1 - k : Nat) : Int) + x * Hn ((l ++ [1]).drop (l.length - k)) x := rfl
    have e3 : hz p x (fun i => gt l (i : Int)) l.length 1 (k + 1) = (hz p x (fun i => gt l (i : Int)) l.length 1 k * x + gt l ((l.length - 1 - k : Nat) : Int)) % p := rfl
    rw [e2, e3, hq]
    generalize hz p x (fun i => gt l (i : Int)) l.length 1 k = hk
    generalize gt l ((l.length - 1 - k : Nat) : Int) = c
    have := Int.mul_ediv_add_emod (hk * x + c) p
    grind
theorem rts_mem {p : Int} {l : List Int} : ∀ (k : Nat) (r : Int), r ∈ rts p l k → (0 ≤ r ∧ r < k) ∧ hz p r (fun i => gt l (i : Int)) l.length 1 l.length = 0
  | 0, r, h => by simp [rts] at h
  | k + 1, r, h => by
    rw [show rts p l (k + 1) = rts p l k ++ (if hz p k (fun i => gt l (i : Int)) l.length 1 l.length = 0 then [(k : Int)] else []) from rfl, List.mem_append] at h
    rcases h with h | h
    · have := rts_mem k r h
      exact ⟨by omega, this.2⟩
    · by_cases h0 : hz p k (fun i => gt l (i : Int)) l.length 1 l.length = 0
      · rw [if_pos h0] at h
        obtain rfl := List.mem_singleton.1 h
        exact ⟨by omega, h0⟩
      · rw [if_neg h0] at h; cases h
theorem rts_nodup (p : Int) (l : List Int) : ∀ k, (rts p l k).Nodup
  | 0 => by simp [rts]
  | k + 1 => by
    rw [show rts p l (k + 1) = rts p l k ++ (if hz p k (fun i => gt l (i : Int)) l.length 1 l.length = 0 then [(k : Int)] else []) from rfl]
    by_cases h0 : hz p k (fun i => gt l (i : Int)) l.length 1 l.length = 0
    · rw [if_pos h0, List.nodup_append]
      refine ⟨rts_nodup p l k, by simp, fun x hx y hy => ?_⟩
      have := rts_mem k x hx
      obtain rfl := List.mem_singleton.1 hy
      omega
    · rw [if_neg h0, List.append_nil]; exact rts_nodup p l k
theorem rts_few {p : Int} {l : List Int} (hp : primeB p = true) : (rts p l p.toNat).length ≤ l.length := by
  obtain ⟨q, rfl, h1, h2, h3⟩ := prime_nat hp
  refine count h1 ⟨h2, h3⟩ l.length l _ rfl (rts_nodup _ _ _) (fun r hr => by have := (rts_mem _ r hr).1; omega) (fun r hr => ?_)
  have h0 := (rts_mem _ r hr).2
  obtain ⟨k, hk⟩ := hz_Hn (p := (q : Int)) (x := r) (l := l) l.length (Nat.le_refl _)
  rw [Nat.sub_self, List.drop_zero, h0, Int.zero_add] at hk
  exact ⟨k, hk⟩
/-- The slope's number. -/
def Hd : List Int → Int → Int
  | [], _ => 0
  | _ :: t, x => Hn t x + x * Hd t x
theorem Hn_qt (a : Int) : ∀ c : List Int, Hn (qt a c) a = Hd c a
  | [] => rfl
  | [c] => by simp [qt, Hn, Hd]
  | c :: d :: t => by
    have ih := Hn_qt a (d :: t)
    have e3 : Hn (qt a (c :: d :: t)) a = Hn (d :: t) a + a * Hn (qt a (d :: t)) a := rfl
    rw [e3, ih]; rfl
def Hw : Int → List Int → Int → Int
  | _, [], _ => 0
  | j, c :: t, x => j * c + x * Hw (j + 1) t x
theorem Hw_eq (x : Int) : ∀ (t : List Int) (j : Int), Hw j t x = j * Hn t x + x * Hd t x
  | [], j => by simp [Hw, Hn, Hd]
  | c :: t, j => by
    have ih := Hw_eq x t (j + 1)
    have e1 : Hw j (c :: t) x = j * c + x * Hw (j + 1) t x := rfl
    have e2 : Hn (c :: t) x = c + x * Hn t x := rfl
    have e3 : Hd (c :: t) x = Hn t x + x * Hd t x := rfl
    rw [e1, e2, e3, ih]
    generalize Hn t x = A
    generalize Hd t x = B
    grind
theorem sl_Hw {p x : Int} {l : List Int} : ∀ k, k ≤ l.length → ∃ q, Hw ((l.length - k : Nat) : Int) ((l ++ [1]).drop (l.length - k)) x = sl p x l k + p * q
  | 0, _ => ⟨(l.length : Int) / p, by
    rw [Nat.sub_zero, List.drop_append_of_le_length (Nat.le_refl _), List.drop_length]
    have := Int.mul_ediv_add_emod (l.length : Int) p
    simp only [List.nil_append, Hw, sl, Int.mul_one, Int.mul_zero, Int.add_zero]
    omega⟩
  | k + 1, hk => by
    obtain ⟨q, hq⟩ := sl_Hw (p := p) (x := x) (l := l) k (by omega)
    have hi : l.length - 1 - k < l.length := by omega
    have e1 : (l ++ [1]).drop (l.length - (k + 1)) = gt l ((l.length - 1 - k : Nat) : Int) :: (l ++ [1]).drop (l.length - k) := by
      rw [show l.length - (k + 1) = l.length - 1 - k by omega, List.drop_eq_getElem_cons (show l.length - 1 - k < (l ++ [1]).length by simp; omega), List.getElem_append_left hi, gt_ix hi, show l.length - 1 - k + 1 = l.length - k by omega]
    refine ⟨(sl p x l k * x + ((l.length - 1 - k : Nat) : Int) * gt l ((l.length - 1 - k : Nat) : Int)) / p + x * q, ?_⟩
    rw [e1, show l.length - (k + 1) = l.length - 1 - k by omega]
    have e2 : Hw ((l.length - 1 - k : Nat) : Int) (gt l ((l.length - 1 - k : Nat) : Int) :: (l ++ [1]).drop (l.length - k)) x = ((l.length - 1 - k : Nat) : Int) * gt l ((l.length - 1 - k : Nat) : Int) + x * Hw (((l.length - 1 - k : Nat) : Int) + 1) ((l ++ [1]).drop (l.length - k)) x := rfl
    have e3 : sl p x l (k + 1) = (sl p x l k * x + ((l.length - 1 - k : Nat) : Int) * gt l ((l.length - 1 - k : Nat) : Int)) % p := rfl
    rw [e2, e3, show ((l.length - 1 - k : Nat) : Int) + 1 = ((l.length - k : Nat) : Int) by omega, hq]
    generalize sl p x l k = hk
    generalize ((l.length - 1 - k : Nat) : Int) * gt l ((l.length - 1 - k : Nat) : Int) = c
    have := Int.mul_ediv_add_emod (hk * x + c) p
    grind
/-- Where there are as many roots as the degree says, no slope at a root is 0. -/
theorem sl_ne {p : Int} {l : List Int} (hp : primeB p = true) (h1 : 1 ≤ l.length) (hR : (rts p l p.toNat).length = l.length) {a : Int} (ha : a ∈ rts p l p.toNat) : sl p a l (l.length - 1) ≠ 0 := by
  intro h0
  obtain ⟨n, rfl, n1, n2, n3⟩ := prime_nat hp
  obtain ⟨q, hq⟩ := sl_Hw (p := (n : Int)) (x := a) (l := l) (l.length - 1) (by omega)
  rw [h0, Int.zero_add, show l.length - (l.length - 1) = 1 by omega] at hq
  cases l with
  | nil => simp at h1
  | cons c m =>
    have hd : (c :: m ++ [1]).drop 1 = m ++ [1] := rfl
    rw [hd] at hq
    have e1 : Hd (c :: m ++ [1]) a = Hw 1 (m ++ [1]) a := by
      rw [Hw_eq, Int.one_mul]; rfl
    obtain ⟨m', q1, q2⟩ := qt_monic a c m
    have hqa : (n : Int) ∣ Hn (m' ++ [1]) a := by
      rw [← q1, Hn_qt, e1]; exact ⟨q, hq⟩
    have hval : ∀ r ∈ rts (n : Int) (c :: m) (n : Int).toNat, (n : Int) ∣ Hn (c :: m ++ [1]) r := by
      intro r hr
      have h0 := (rts_mem _ r hr).2
      obtain ⟨k, hk⟩ := hz_Hn (p := (n : Int)) (x := r) (l := c :: m) (c :: m).length (Nat.le_refl _)
      rw [Nat.sub_self, List.drop_zero, h0, Int.zero_add] at hk
      exact ⟨k, hk⟩
    have := count n1 ⟨n2, n3⟩ m'.length m' _ rfl (rts_nodup (n : Int) (c :: m) (n : Int).toNat) (fun r hr => by have := (rts_mem _ r hr).1; omega) (fun r hr => by
      by_cases hra : r = a
      · subst hra; exact hqa
      · have hs := Hn_sub a r (c :: m ++ [1])
        rw [q1] at hs
        have h1 : (n : Int) ∣ (r - a) * Hn (m' ++ [1]) r := hs ▸ Int.dvd_sub (hval r hr) (hval a ha)
        rcases euc n1 ⟨n2, n3⟩ h1 with h | h
        · exfalso
          have ba := (rts_mem _ a ha).1
          have br := (rts_mem _ r hr).1
          obtain ⟨q, hq⟩ := h
          by_cases h0 : q = 0
          · subst h0; omega
          · rcases Int.lt_or_gt_of_ne h0 with h | h
            · have := Int.mul_le_mul_of_nonneg_left (show q ≤ -1 by omega) (show (0 : Int) ≤ n by omega)
              omega
            · have := Int.mul_le_mul_of_nonneg_left (show 1 ≤ q by omega) (show (0 : Int) ≤ n by omega)
              omega
        · exact h)
    rw [hR, q2, List.length_cons] at this
    omega
end Go.Proofs.Ytiiljfpbcanphaa.G

/- Slices of numbers that come in: how large they are, and their copies. -/
namespace Go.Proofs.Ytiiljfpbcanphaa.G
open Go Go.Sx Go.Proofs
theorem toS (a : List Int) (h : a.length ≤ 1048576) : laws_toInt64S.f a = some a := by
  unfold laws_toInt64S.f
  rw [small_in (by omega), Int.toNat_natCast]
  have hl := loop1_upto (f := laws_toInt64S.b0 a) (fun i => (a.take i ++ List.replicate (a.length - i) 0, (i : Int))) a.length (a, (a.length : Int)) (by omega) (fun i hi => by
    unfold laws_toInt64S.b0
    have e : (a.take i ++ List.replicate (a.length - i) (0 : Int)).length = a.length := by simp; omega
    simp only [dlt_nat, hi, decide_true, cond_true]
    rw [chk_in (by omega), e, chk_in (by omega), w64_succ (by omega), Int.toNat_natCast]
    have hg : gt a (i : Int) = a[i] := by simp [gt, List.getD, hi]
    have hm : (a.take i).length = i := by simp; omega
    have e2 : (a.take i ++ List.replicate (a.length - i) (0 : Int)).set i (gt a (i : Int)) = a.take (i + 1) ++ List.replicate (a.length - (i + 1)) 0 := by
      rw [hg, List.set_append_right _ _ (by omega), hm, Nat.sub_self, show a.length - i = (a.length - (i + 1)) + 1 by omega, List.replicate_succ, List.set_cons_zero, List.take_add_one, List.getElem?_eq_getElem hi]
      simp only [Option.toList_some, List.append_assoc, List.singleton_append]
    rw [e2]) (by
    unfold laws_toInt64S.b0
    simp)
  have hl' : loop1 (laws_toInt64S.b0 a) (List.replicate a.length 0, 0) = some (a, (a.length : Int)) := by simpa using hl
  rw [hl']; rfl
theorem szS (a : List Int) (l : Nat) (hl : l ≤ 1048576) (h : a.length ≤ 9223372036854775807) : (laws_szInt64S.f a l = some (-1) ∧ l < a.length) ∨ (laws_szInt64S.f a l = some ((l - a.length : Nat) : Int) ∧ a.length ≤ l) := by
  unfold laws_szInt64S.f
  rw [w64_in (by omega)]
  by_cases hc : a.length ≤ l
  · right
    have : decide (((l : Int) - (a.length : Int)) < 0) = false := by simp; omega
    rw [this]
    exact ⟨by rw [cond_false]; congr 1; omega, hc⟩
  · left
    have : decide (((l : Int) - (a.length : Int)) < 0) = true := by simp; omega
    rw [this]
    exact ⟨rfl, by omega⟩
end Go.Proofs.Ytiiljfpbcanphaa.G

/- Slices of numbers: the same as themselves; marked, and held. -/
namespace Go.Proofs.Ytiiljfpbcanphaa.G
open Go Go.Sx Go.Proofs
theorem eqS_refl (a : List Int) (h : a.length < 1000000000000) : laws_eqInt64S.f a a = some true := by
  unfold laws_eqInt64S.f
  have e : (((a.length : Nat) : Int) != (a.length : Int)) = false := by simp
  rw [e, cond_false]
  have hl := loop_upto (f := laws_eqInt64S.b0 a a) (fun i => (i : Int)) a.length (a.length : Int) (by omega) (fun i hi => by
    unfold laws_eqInt64S.b0
    simp only [dlt_nat, hi, decide_true, cond_true]
    rw [chk_in (by omega), chk_in (by omega), w64_succ (by omega)]
    simp) (by
    unfold laws_eqInt64S.b0
    simp)
  have hl' : loop (laws_eqInt64S.b0 a a) 0 = some (.brk (a.length : Int)) := hl
  rw [hl']; rfl
/-- So many numbers from k on. -/
def iota (k n : Nat) : List Int := (List.range n).map fun i => ((k + i : Nat) : Int)
theorem iota_length (k n : Nat) : (iota k n).length = n := by simp [iota]
theorem iota_gt {k n i : Nat} (h : i < n) : gt (iota k n) (i : Int) = ((k + i : Nat) : Int) := by simp [gt, iota, List.getD, h]
theorem markS (a : List Int) (k : Nat) (h : k + a.length < 1000000000000) : laws_markInt64S.f a k = some (((k + a.length : Nat) : Int), iota k a.length) := by
  unfold laws_markInt64S.f
  have hl := loop1_upto (f := laws_markInt64S.b0) (fun i => (iota k i ++ a.drop i, ((k + i : Nat) : Int), (i : Int))) a.length (iota k a.length, ((k + a.length : Nat) : Int), (a.length : Int)) (by omega) (fun i hi => by
    unfold laws_markInt64S.b0
    have e : (iota k i ++ a.drop i).length = a.length := by rw [List.length_append, iota_length, List.length_drop]; omega
    simp only [e, dlt_nat, hi, decide_true, cond_true]
    rw [chk_in (by omega), w64_succ (by omega), w64_succ (by omega), Int.toNat_natCast]
    have e2 : (iota k i ++ a.drop i).set i ((k + i : Nat) : Int) = iota k (i + 1) ++ a.drop (i + 1) := by
      rw [List.set_append_right _ _ (by rw [iota_length]; exact Nat.le_refl _), iota_length, Nat.sub_self]
      have h3 : a.drop i = a[i] :: a.drop (i + 1) := by rw [List.getElem_cons_drop]
      rw [h3, List.set_cons_zero]
      unfold iota
      rw [List.range_succ, List.map_append]
      simp
    rw [e2]
    rfl) (by
    unfold laws_markInt64S.b0
    simp [iota_length])
  have hl' : loop1 laws_markInt64S.b0 (a, (k : Int), 0) = some (iota k a.length, ((k + a.length : Nat) : Int), (a.length : Int)) := hl
  rw [hl']; rfl
theorem heldS (k n : Nat) (h : k + n < 1000000000000) : laws_heldInt64S.f (iota k n) k = some ((k + n : Nat) : Int) := by
  unfold laws_heldInt64S.f
  have hl := loop_upto (f := laws_heldInt64S.b0 (iota k n)) (fun i => (((k + i : Nat) : Int), (i : Int))) n (((k + n : Nat) : Int), (n : Int)) (by omega) (fun i hi => by
    unfold laws_heldInt64S.b0
    simp only [iota_length, dlt_nat, hi, decide_true, cond_true]
    rw [chk_in (by omega), iota_gt hi, w64_succ (by omega), w64_succ (by omega)]
    simp
    rfl) (by
    unfold laws_heldInt64S.b0
    simp [iota_length])
  have hl' : loop (laws_heldInt64S.b0 (iota k n)) ((k : Int), 0) = some (.brk (((k + n : Nat) : Int), (n : Int))) := hl
  rw [hl']; rfl
end Go.Proofs.Ytiiljfpbcanphaa.G

/- The law of RootNumber tells true. -/
namespace Go.Proofs.Ytiiljfpbcanphaa.G
open Go Go.Sx Go.Proofs
theorem iv_both {p s : Int} (hp : primeB p = true) (hs : 0 ≤ s ∧ s < p) (h0 : s ≠ 0) : ∃ v, impl_inverse.f s p = some v ∧ spec_l01Inverse.f p s = some v ∧ 0 ≤ v ∧ v ≤ 13 := by
  obtain ⟨q, rfl, h1, h2, h3⟩ := prime_nat hp
  obtain ⟨c, rfl⟩ := Int.eq_ofNat_of_zero_le hs.1
  have hlt := ivn_lt (p := q) (c := c) h2
  exact ⟨_, implInv h1 h3 (by omega) (by omega), specInv h1 h3 (by omega) (by omega), by omega, by omega⟩
/-- So many times a number, for a prime. -/
def ow (p s v : Int) : Nat → Int
  | 0 => v
  | k + 1 => (ow p s v k * s) % p
section
variable {p s : Int} (hp : 2 ≤ p ∧ p ≤ 13)
include hp
theorem ow_b {v : Int} (hv : 0 ≤ v ∧ v ≤ 13) : ∀ k, 0 ≤ ow p s v k ∧ ow p s v k ≤ 13
  | 0 => hv
  | k + 1 => by have := emod_b (ow p s v k * s) hp; unfold ow; omega
omit hp in
theorem ow_mul (v : Int) : ∀ k, ∃ q, v * ow p s 1 k = ow p s v k + p * q
  | 0 => ⟨0, by simp [ow]⟩
  | k + 1 => by
    obtain ⟨q, hq⟩ := ow_mul v k
    refine ⟨(ow p s v k * s) / p + q * s - v * ((ow p s 1 k * s) / p), ?_⟩
    have e1 : ow p s 1 (k + 1) = (ow p s 1 k * s) % p := rfl
    have e2 : ow p s v (k + 1) = (ow p s v k * s) % p := rfl
    rw [e1, e2]
    have h1 := Int.mul_ediv_add_emod (ow p s v k * s) p
    have h2 := Int.mul_ediv_add_emod (ow p s 1 k * s) p
    grind
theorem specOw (hs : 0 ≤ s ∧ s ≤ 13) {v : Int} (hv : 0 ≤ v ∧ v ≤ 13) (g : Nat) (hg : g ≤ 30) : ∃ q, loop1 (spec_RootNumber.b0 p s) (v, (g : Int)) = some (ow p s v g, q) := by
  refine ⟨0, ?_⟩
  have h := loop1_upto (f := spec_RootNumber.b0 p s) (fun k => (ow p s v k, (g : Int) - (k : Int))) g (ow p s v g, 0) (by omega) (fun k hk => by
    unfold spec_RootNumber.b0
    have d1 : decide ((g : Int) - (k : Int) > 0) = true := by simp; omega
    have hb := ow_b (s := s) hp hv k
    have hm := mul_b hb hs
    simp only [d1, cond_true]
    rw [nz_in (by omega), w64_in (x := ow p s v k * s) (by omega), w64_in (by omega), Int.tmod_eq_emod_of_nonneg (by omega)]
    congr 3
    omega) (by
    unfold spec_RootNumber.b0
    have d1 : decide ((g : Int) - (g : Int) > 0) = false := by simp
    simp only [d1, cond_false]
    congr 3
    omega)
  have e0 : (g : Int) = (g : Int) - ((0 : Nat) : Int) := by omega
  rw [e0]
  exact h
theorem implOw (hs : 0 ≤ s ∧ s ≤ 13) (g : Nat) (hg : g ≤ 30) : impl_power.f s g p = some (ow p s 1 g) := by
  unfold impl_power.f
  have h := loop1_upto (f := impl_power.b0 g p s) (fun k => (ow p s 1 k, (k : Int))) g (ow p s 1 g, (g : Int)) (by omega) (fun k hk => by
    unfold impl_power.b0
    have hb := ow_b (s := s) (v := 1) hp (by omega) k
    have hm := mul_b hb hs
    simp only [dlt_nat, hk, decide_true, cond_true]
    rw [nz_in (by omega), w64_in (x := ow p s 1 k * s) (by omega), w64_succ (by omega), Int.tmod_eq_emod_of_nonneg (by omega)]
    rfl) (by
    unfold impl_power.b0
    simp only [dlt_nat, Nat.lt_irrefl, decide_false, cond_false])
  have h' : loop1 (impl_power.b0 g p s) (1, 0) = _ := h
  rw [h']; rfl
end
theorem rn_sums {p : Int} {l R : List Int} {g : Nat} (hpr : primeB p = true) (l1 : 1 ≤ l.length) (l2 : l.length ≤ 6) (hd : ∀ i : Nat, i < l.length → 0 ≤ gt l (i : Int) ∧ gt l (i : Int) < p) (hR : ∀ i : Nat, i < R.length → 0 ≤ gt R (i : Int) ∧ gt R (i : Int) < p) (hRl : R.length ≤ 6) (hg : g ≤ 30) (hne : ∀ i : Nat, i < R.length → sl p (gt R (i : Int)) l (l.length - 1) ≠ 0) :
    ∃ a b, loop1 (spec_RootNumber.b1 R p l g) (0, 0) = some (a, (R.length : Int)) ∧ loop1 (impl_RootNumber.b0 R p l g) (0, 0) = some (b, (R.length : Int)) ∧ Int.tmod a p = Int.tmod b p := by
  have hp := primeB_le hpr
  have key : ∀ j, j ≤ R.length → ∃ S T : Nat → Int, S 0 = 0 ∧ T 0 = 0 ∧ (∀ i, i < j → spec_RootNumber.b1 R p l g (S i, (i : Int)) = some (.next (S (i + 1), ((i + 1 : Nat) : Int)))) ∧ (∀ i, i < j → impl_RootNumber.b0 R p l g (T i, (i : Int)) = some (.next (T (i + 1), ((i + 1 : Nat) : Int)))) ∧ (0 ≤ S j ∧ S j ≤ 13 * j) ∧ (0 ≤ T j ∧ T j ≤ 169 * j) ∧ ∃ q, T j = S j + p * q := by
    intro j
    induction j with
    | zero => exact fun _ => ⟨fun _ => 0, fun _ => 0, rfl, rfl, fun i hi => by omega, fun i hi => by omega, by simp, by simp, 0, by simp⟩
    | succ j ih =>
      intro hj
      obtain ⟨S, T, s0, t0, hs, ht, sb, tb, q, hq⟩ := ih (by omega)
      have hr := hR j (by omega)
      have hsl := sl_b (r := gt R (j : Int)) (l := l) hp (l.length - 1)
      obtain ⟨v, i1, i2, v1, v2⟩ := iv_both hpr hsl (hne j (by omega))
      obtain ⟨c, hc⟩ := specOw hp (s := sl p (gt R (j : Int)) l (l.length - 1)) (by omega) ⟨v1, v2⟩ g hg
      have hw := implOw hp (s := sl p (gt R (j : Int)) l (l.length - 1)) (by omega) g hg
      have hwb := ow_b (s := sl p (gt R (j : Int)) l (l.length - 1)) hp ⟨v1, v2⟩ g
      have hwb1 := ow_b (s := sl p (gt R (j : Int)) l (l.length - 1)) (v := 1) hp (by omega) g
      have hm := mul_b (x := v) ⟨v1, v2⟩ hwb1
      obtain ⟨q2, hq2⟩ := ow_mul (p := p) (s := sl p (gt R (j : Int)) l (l.length - 1)) v g
      have hjR : j < R.length := by omega
      refine ⟨fun i => if i = j + 1 then S j + ow p (sl p (gt R (j : Int)) l (l.length - 1)) v g else S i, fun i => if i = j + 1 then T j + v * ow p (sl p (gt R (j : Int)) l (l.length - 1)) 1 g else T i, ?_, ?_, fun i hi => ?_, fun i hi => ?_, ?_, ?_, q + q2, ?_⟩
      · show (if 0 = j + 1 then _ else S 0) = 0
        rw [if_neg (by omega), s0]
      · show (if 0 = j + 1 then _ else T 0) = 0
        rw [if_neg (by omega), t0]
      · by_cases he : i = j
        · subst he
          show spec_RootNumber.b1 R p l g ((if i = i + 1 then _ else S i), (i : Int)) = some (.next ((if i + 1 = i + 1 then _ else S (i + 1)), _))
          rw [if_neg (by omega : ¬ i = i + 1), if_pos rfl]
          unfold spec_RootNumber.b1
          simp only [dlt_nat, hjR, decide_true, cond_true]
          rw [chk_in (by omega), specSl hp (by omega) ⟨l1, l2⟩ hd, Option.bind_some, i2, Option.bind_some, hc, Option.bind_some, w64_succ (by omega), w64_in (by omega)]
        · simp only
          rw [if_neg (by omega), if_neg (by omega)]
          exact hs i (by omega)
      · by_cases he : i = j
        · subst he
          show impl_RootNumber.b0 R p l g ((if i = i + 1 then _ else T i), (i : Int)) = some (.next ((if i + 1 = i + 1 then _ else T (i + 1)), _))
          rw [if_neg (by omega : ¬ i = i + 1), if_pos rfl]
          unfold impl_RootNumber.b0
          simp only [dlt_nat, hjR, decide_true, cond_true]
          rw [chk_in (by omega), implSl hp (by omega) ⟨l1, l2⟩ hd, Option.bind_some, i1, Option.bind_some, hw, Option.bind_some, w64_succ (by omega), w64_in (x := v * ow p (sl p (gt R (i : Int)) l (l.length - 1)) 1 g) (by omega), w64_in (by omega)]
        · simp only
          rw [if_neg (by omega), if_neg (by omega)]
          exact ht i (by omega)
      · show 0 ≤ (if j + 1 = j + 1 then _ else S (j + 1)) ∧ (if j + 1 = j + 1 then _ else S (j + 1)) ≤ 13 * ((j + 1 : Nat) : Int)
        rw [if_pos rfl]; omega
      · show 0 ≤ (if j + 1 = j + 1 then _ else T (j + 1)) ∧ (if j + 1 = j + 1 then _ else T (j + 1)) ≤ 169 * ((j + 1 : Nat) : Int)
        rw [if_pos rfl]; omega
      · show (if j + 1 = j + 1 then _ else T (j + 1)) = (if j + 1 = j + 1 then _ else S (j + 1)) + p * (q + q2)
        rw [if_pos rfl, if_pos rfl, hq, hq2, Int.mul_add]; omega
  obtain ⟨S, T, s0, t0, hs, ht, sb, tb, q, hq⟩ := key R.length (Nat.le_refl _)
  refine ⟨S R.length, T R.length, ?_, ?_, ?_⟩
  · have h := loop1_upto (f := spec_RootNumber.b1 R p l g) (fun i => (S i, (i : Int))) R.length (S R.length, (R.length : Int)) (by omega) hs (by
      unfold spec_RootNumber.b1
      simp only [dlt_nat, Nat.lt_irrefl, decide_false, cond_false])
    rw [s0] at h
    exact h
  · have h := loop1_upto (f := impl_RootNumber.b0 R p l g) (fun i => (T i, (i : Int))) R.length (T R.length, (R.length : Int)) (by omega) ht (by
      unfold impl_RootNumber.b0
      simp only [dlt_nat, Nat.lt_irrefl, decide_false, cond_false])
    rw [t0] at h
    exact h
  · rw [Int.tmod_eq_emod_of_nonneg sb.1, Int.tmod_eq_emod_of_nonneg tb.1, hq, Int.add_mul_emod_self_left]
theorem rn_same (p : Int) (l : List Int) (g : Int) (h : l.length ≤ 1048576) : ∃ a e, spec_RootNumber.f p l g = some (a, e) ∧ impl_RootNumber.f p l g = some (a, e) := by
  unfold spec_RootNumber.f impl_RootNumber.f spec_l01In.f impl_in.f
  rw [specPoly p l h, implPolyOk p l h]
  simp only [Option.bind_some]
  cases hpo : polyB p l with
  | false => exact ⟨_, _, rfl, rfl⟩
  | true =>
    obtain ⟨hp, l1, l2, hd⟩ := poly_dig hpo
    have hpr : primeB p = true := by
      unfold polyB at hpo
      simp only [Bool.and_eq_true] at hpo
      exact hpo.1.1
    have ez : ((0 : Int) != 0) = false := rfl
    simp only [Bool.not_true, cond_false, if_pos, ez, Option.bind_some]
    cases hg : (decide (g ≥ 0) && decide (g ≤ 30)) with
    | false => exact ⟨_, _, rfl, rfl⟩
    | true =>
      simp only [Bool.and_eq_true, decide_eq_true_eq] at hg
      obtain ⟨G', rfl⟩ := Int.eq_ofNat_of_zero_le hg.1
      have hf := rts_few (l := l) hpr
      simp only [Bool.not_true, cond_false]
      rw [specRts hp l2 hd, implRts hp l2 hd]
      simp only [Option.bind_some]
      by_cases he : (rts p l p.toNat).length = l.length
      · have c1 : (((rts p l p.toNat).length : Int) != (l.length : Int)) = false := by rw [he]; simp
        have c2 : decide (((rts p l p.toNat).length : Int) < (l.length : Int)) = false := by rw [he]; simp
        obtain ⟨a, b, e1, e2, e3⟩ := rn_sums (p := p) (l := l) (R := rts p l p.toNat) (g := G') hpr l1 l2 hd (fun i hi => by
          have := (rts_mem p.toNat (gt (rts p l p.toNat) (i : Int)) (by rw [gt_ix hi]; exact List.getElem_mem _)).1
          omega) (by omega) (by omega) (fun i hi => sl_ne hpr l1 he (by rw [gt_ix hi]; exact List.getElem_mem _))
        rw [c1, c2, cond_false, cond_false, e1, e2]
        simp only [Option.bind_some]
        rw [nz_in (by omega), nz_in (by omega), e3]
        exact ⟨_, _, rfl, rfl⟩
      · have c1 : (((rts p l p.toNat).length : Int) != (l.length : Int)) = true := by simp; omega
        have c2 : decide (((rts p l p.toNat).length : Int) < (l.length : Int)) = true := by simp; omega
        rw [c1, c2]
        exact ⟨_, _, rfl, rfl⟩
theorem plain_FnExactRootNumber (p : Int) (l : List Int) (g : Int) (_wp : IntKind.i64.has p) (_w : ∀ x ∈ l, IntKind.i64.has x) (_z : l.length * 8 ≤ 140737488351232) (_wg : IntKind.i64.has g) : laws_FnExactRootNumber.f p l g = some true := by
  unfold laws_FnExactRootNumber.f
  by_cases hl : (l.length : Int) > 1048576
  · rw [decide_eq_true hl]; rfl
  · rw [decide_eq_false hl, cond_false]
    have hl' : l.length ≤ 1048576 := by omega
    obtain ⟨a, e, e1, e2⟩ := rn_same p l g hl'
    have b1 := eqS_refl l (by omega)
    simp only [toS l hl', Option.bind_some, e1, e2, b1, bne_self_eq_false, Bool.not_true, Bool.or_false, cond_false]
end Go.Proofs.Ytiiljfpbcanphaa.G

/- Arg: a law's arguments, as they come in, in the calculus' own words. -/
namespace Go.Sx
open Go.RowKit

theorem okWide_agg {P : Program} {W : World} {r : Reach} {base : Nat} {t : TypeId} {v : Value} {ts : List TypeId} (ht : (match P.underlying t with | some (.struct _) | some (.array _ _) => true | _ => false) = true) (hts : P.cellTypes P.depth t = some ts) (h : Value.okWide P W r base t v) :
    ∃ cs, v = .agg cs ∧ cs.size = P.cellsOf t ∧ ∀ i u, cs[i]? = some u → ∃ k, ts[i % ts.length]? = some k ∧ Cell.okWide P W r base k u := by
  unfold Value.okWide at h
  split at h
  · obtain ⟨cs, h1, h2, ts', h3, _, h4⟩ := h
    rw [hts] at h3; obtain rfl := Option.some.inj h3
    exact ⟨cs, h1, h2, h4⟩
  · obtain ⟨cs, h1, h2, ts', h3, _, h4⟩ := h
    rw [hts] at h3; obtain rfl := Option.some.inj h3
    exact ⟨cs, h1, h2, h4⟩
  · rename_i h1 h2
    exfalso
    split at ht
    · exact h1 _ ‹_›
    · exact h2 _ _ ‹_›
    · cases ht

theorem okWide_int {P : Program} {W : World} {r : Reach} {base : Nat} {t : TypeId} {k : IntKind} {v : Value} (ht : P.underlying t = some (.int k)) (h : Cell.okWide P W r base t v) : ∃ n, v = .int k n ∧ k.has n := by
  unfold Cell.okWide at h
  rw [ht] at h
  unfold Cell.ok at h
  rw [ht] at h
  cases v <;> simp at h
  rename_i k' n
  obtain ⟨rfl, h2⟩ := h
  exact ⟨n, rfl, h2⟩

theorem u8block (cs : Array Value) (o m : Nat) (h : ∀ i, o ≤ i → i < o + m → ∃ n, cs[i]? = some (.int .u8 n) ∧ IntKind.u8.has n) : ∃ t : Nat → UInt8, (cs.toList.drop o).take m = flat [.arr m (enf u8v t)] := by
  refine ⟨fun k => match cs[o + k]? with | some (.int _ n) => UInt8.ofInt n | _ => 0, ?_⟩
  apply List.ext_getElem?
  intro i
  simp only [flat, Seg.cells, List.append_nil, List.getElem?_take, List.getElem?_drop, List.getElem?_map]
  by_cases hi : i < m
  · obtain ⟨n, hn, hw⟩ := h (o + i) (by omega) (by omega)
    have hn' : cs.toList[o + i]? = some (.int .u8 n) := by simpa using hn
    rw [if_pos hi, List.getElem?_range hi, hn']
    simp only [Option.map_some, enf, hn]
    congr 1
    rw [← conv_i64_u8]
    congr 1
    have hw' : 0 ≤ n ∧ n ≤ 255 := by
      simp only [IntKind.has, IntKind.min, IntKind.max, IntKind.signed, IntKind.bits] at hw
      simpa using hw
    rw [IntKind.wrap_u8]; omega
  · rw [if_neg hi]
    simp [hi]

theorem okWideV_int {P : Program} {W : World} {r : Reach} {base : Nat} {t : TypeId} {k : IntKind} {v : Value} (ht : P.underlying t = some (.int k)) (h : Value.okWide P W r base t v) : ∃ n, v = .int k n ∧ k.has n := by
  unfold Value.okWide at h
  rw [ht] at h
  exact okWide_int ht h
theorem okWideV_string {P : Program} {W : World} {r : Reach} {base : Nat} {t : TypeId} {v : Value} (ht : P.underlying t = some .string) (h : Value.okWide P W r base t v) : ∃ l : Str, v = strv l := by
  unfold Value.okWide at h
  rw [ht] at h
  simp only at h
  unfold Cell.okWide at h
  rw [ht] at h
  unfold Cell.ok at h
  rw [ht] at h
  cases v <;> simp at h
  rename_i s
  exact ⟨s.data.toList, by simp [strv]⟩
theorem i64cell (cs : Array Value) (o : Nat) (ho : o < cs.size) (h : ∀ u, cs[o]? = some u → ∃ n, u = .int .i64 n ∧ IntKind.i64.has n) : ∃ x, (cs.toList.drop o).take 1 = flat [.one (.int .i64 x)] ∧ IntKind.i64.has x := by
  obtain ⟨n, hn, hw⟩ := h cs[o] (by simp [ho])
  refine ⟨n, ?_, hw⟩
  have hl : o < cs.toList.length := by simpa using ho
  rw [List.drop_eq_getElem_cons hl, List.take_succ_cons, List.take_zero]
  simp [flat, Seg.cells, hn]
def pieces (l : List Value) : Nat → List Nat → List Value
  | _, [] => []
  | o, m :: r => (l.drop o).take m ++ pieces l (o + m) r
theorem pieces_eq (l : List Value) : ∀ (ns : List Nat) (o : Nat), l.length = o + ns.sum → pieces l o ns = l.drop o
  | [], o, h => by
    simp only [List.sum_nil, Nat.add_zero] at h
    simp [pieces, h]
  | m :: r, o, h => by
    simp only [List.sum_cons] at h
    rw [pieces, pieces_eq l r (o + m) (by omega), ← List.drop_drop, List.take_append_drop]

theorem encs_ints (ys : List Int) : encs Ei ys = ys.map (Value.int .i64) := by
  induction ys with
  | nil => rfl
  | cons y ys ih => simp only [encs, List.flatMap_cons, List.map_cons] at ih ⊢; rw [ih]; rfl
theorem okWideV_slice {P : Program} {W : World} {r : Reach} {base : Nat} {t e : TypeId} {v : Value} (ht : P.underlying t = some (.slice e)) (h : Value.okWide P W r base t v) : ∃ a n c, v = .slice a n c := by
  unfold Value.okWide at h
  rw [ht] at h
  simp only at h
  unfold Cell.okWide at h
  rw [ht] at h
  simp only at h
  unfold Cell.ok at h
  rw [ht] at h
  cases v <;> simp at h
  exact ⟨_, _, _, rfl⟩
/-- A slice of whole numbers that comes in. -/
theorem okWideV_ints {H : Type} {r : Reach} {base : Nat} {enc : TypeId × Value → H} {P : Program} {W : World} {sp : Nat → Bool} {held : Bool} {t e : TypeId} {v : Value} {d : DataW H} {p : List MemPlace} (ht : P.underlying t = some (.slice e)) (he : P.underlying e = some (.int .i64)) (hc : P.cellsOf e = 1)
    (hv : Value.okWide P W r base t v) (h : DataW.Trod enc P W 0 sp held t v d p) : ∃ (s : SV) (ys : List Int) (el spare : List (DataW H)), v = s.v ∧ Reads Ei (hp W) s ys ∧ (∀ x ∈ ys, IntKind.i64.has x) ∧ ((d = .nil ∧ ys = []) ∨ (d = .slice el spare ∧ ys.length = el.length + 0)) := by
  obtain ⟨m, hm⟩ := h
  obtain ⟨a1, n1, c1, rfl⟩ := okWideV_slice ht hv
  have hcl : (Value.slice a1 n1 c1).cells.toList = [Value.slice a1 n1 c1] := rfl
  rw [hcl] at hm
  rcases ChangeShapes.open_ints ht he hc hm with ⟨h1, h2⟩ | ⟨a, len, cap, zs, h1, _, h3, h4, h5, h6, h7, h8⟩
  · injection h1 with h1
    injection h2 with h2
    exact ⟨⟨none, 0, 0⟩, [], [], [], h1, ⟨rfl, Nat.le_refl _, by simp [maxLen], .inl rfl⟩, by simp, .inl ⟨h2, rfl⟩⟩
  · injection h1 with h1
    injection h6 with h6
    have hlen : len ≤ zs.length := by rw [h5]; split <;> omega
    refine ⟨⟨some a, len, cap⟩, zs.take len, _, _, h1, ⟨by simp; omega, h3, h4, ?_⟩, ?_, .inr ⟨h6, by simp [ChangeShapes.lits]⟩⟩
    · by_cases hl : len = 0
      · left; subst hl; simp
      · right
        have h0 := h7 0 (by omega)
        obtain ⟨b, o, sp'⟩ := a
        have e0 : (⟨b, o, sp'⟩ : Addr).add 0 = ⟨b, o, sp'⟩ := by simp [Addr.add]
        rw [e0] at h0
        unfold World.cell? at h0
        split at h0
        · rename_i cs T fr hb
          have hsp : sp' = none := by
            cases sp' with
            | none => rfl
            | some x => simp at h0
          subst hsp
          refine ⟨b, o, cs, T, fr, rfl, hb, ?_⟩
          intro j u hu
          rw [encs_ints, List.getElem?_map, List.getElem?_take] at hu
          split at hu
          · rename_i hj
            have hz := h7 j (by omega)
            rw [add_none, cell_at hb] at hz
            rw [hz, ← hu]
            have : zs[j]? = some (zs[j]'(by omega)) := List.getElem?_eq_getElem _
            simp [List.getD, this]
          · simp at hu
        · cases h0
    · intro x hx
      have := h8 x (List.mem_of_mem_take hx)
      simp only [Lit.wf, Bool.and_eq_true, decide_eq_true_eq] at this
      exact this

theorem reads_of {β : Type} {E : FE β} {W : World} {a : Addr} {n cap : Nat} {ys : List β} (hn : n = ys.length) (hpos : 0 < E.sz) (hc : ∀ (j : Nat) (u : Value), (encs E ys)[j]? = some u → W.cell? (a.add j) = some u) (h1 : n ≤ cap) (h2 : cap ≤ maxLen) : Reads E (hp W) ⟨some a, n, cap⟩ ys := by
  subst hn
  refine ⟨rfl, h1, h2, ?_⟩
  cases ys with
  | nil => exact .inl rfl
  | cons y ys =>
    right
    have hl : 0 < (encs E (y :: ys)).length := by rw [encs_length, List.length_cons, Nat.add_mul]; omega
    have h0 := hc 0 _ (List.getElem?_eq_getElem hl)
    obtain ⟨b, o, sp'⟩ := a
    have e0 : (⟨b, o, sp'⟩ : Addr).add 0 = ⟨b, o, sp'⟩ := by simp [Addr.add]
    rw [e0] at h0
    unfold World.cell? at h0
    split at h0
    · rename_i cs T fr hb
      have hsp : sp' = none := by
        cases sp' with
        | none => rfl
        | some x => simp at h0
      subst hsp
      refine ⟨b, o, cs, T, fr, rfl, hb, ?_⟩
      intro j u hu
      have := hc j u hu
      rwa [add_none, cell_at hb] at this
    · cases h0
theorem encs_svs (ys : List SV) : encs Ev ys = ys.map SV.v := by
  induction ys with
  | nil => rfl
  | cons y ys ih => simp only [encs, List.flatMap_cons, List.map_cons] at ih ⊢; rw [ih]; rfl
theorem Reads.len_le {β : Type} {E : FE β} {I : Hp} {s : SV} {ys : List β} (h : Reads E I s ys) : ys.length ≤ 9223372036854775807 := by
  obtain ⟨h0, h1, h2, _⟩ := h
  have : maxLen = 9223372036854775807 := rfl
  omega
/-- A slice of slices of whole numbers that comes in. -/
theorem okWideV_introws {H : Type} {r : Reach} {base : Nat} {enc : TypeId × Value → H} {P : Program} {W : World} {held : Bool} {t e q : TypeId} {v : Value} {d : DataW H} {p : List MemPlace} (ht : P.underlying t = some (.slice e)) (he : P.underlying e = some (.slice q)) (hq : P.underlying q = some (.int .i64)) (ce : P.cellsOf e = 1) (cq : P.cellsOf q = 1)
    (hv : Value.okWide P W r base t v) (h : DataW.Trod enc P W 0 (fun _ => true) held t v d p) : ∃ (s : SV) (ss : List SV) (yss : List (List Int)), v = s.v ∧ ReadsM Ei (hp W) s ss yss ∧ (∀ r ∈ yss, ∀ x ∈ r, IntKind.i64.has x) ∧ (∀ r ∈ yss, r.length ≤ 9223372036854775807) ∧ yss.length ≤ 9223372036854775807 := by
  obtain ⟨m, hm⟩ := h
  obtain ⟨a1, n1, c1, rfl⟩ := okWideV_slice ht hv
  have hcl : (Value.slice a1 n1 c1).cells.toList = [Value.slice a1 n1 c1] := rfl
  rw [hcl] at hm
  rcases Deep.open_int_rows ht he hq ce cq hm with ⟨h1, h2⟩ | ⟨a, len, cap, A, L, C, Z, h1, _, h3, h4, _, h5⟩
  · injection h1 with h1
    exact ⟨⟨none, 0, 0⟩, [], [], h1, ⟨⟨rfl, Nat.le_refl _, by simp [maxLen], .inl rfl⟩, rfl, by simp⟩, by simp, by simp, by simp⟩
  · injection h1 with h1
    have key : ∀ r, r < len → Reads Ei (hp W) ⟨A r, L r, C r⟩ ((Z r).take (L r)) := by
      intro r hr
      obtain ⟨g1, g2, g3, g4, g5, g6, g7⟩ := h5 r (by omega)
      cases hA : A r with
      | none =>
        have := g6 hA
        have hL : L r = 0 := by omega
        rw [hL]
        exact ⟨rfl, Nat.zero_le _, g3, .inl rfl⟩
      | some a' =>
        refine reads_of (by simp; omega) (by decide) ?_ g2 g3
        intro j u hu
        rw [encs_ints, List.getElem?_map, List.getElem?_take] at hu
        split at hu
        · rename_i hj
          have hz := (g7 a' hA).2 j (by omega)
          rw [hz, ← hu]
          have : (Z r)[j]? = some ((Z r)[j]'(by omega)) := List.getElem?_eq_getElem _
          simp [List.getD, this]
        · simp at hu
    have hM : ReadsM Ei (hp W) ⟨some a, len, cap⟩ ((List.range len).map fun r => ⟨A r, L r, C r⟩) ((List.range len).map fun r => (Z r).take (L r)) := by
      refine ⟨reads_of (by simp) (by decide) ?_ h3 h4, by simp, ?_⟩
      · intro j u hu
        rw [encs_svs, List.map_map, List.getElem?_map] at hu
        by_cases hj : j < len
        · rw [List.getElem?_range hj] at hu
          have := (h5 j (by omega)).1
          rw [this, ← hu]; rfl
        · simp [hj] at hu
      · intro j u ys h1 h2
        by_cases hj : j < len
        · rw [List.getElem?_map, List.getElem?_range hj] at h1 h2
          obtain rfl := Option.some.inj h1
          obtain rfl := Option.some.inj h2
          exact key j hj
        · simp [hj] at h1
    refine ⟨⟨some a, len, cap⟩, _, _, h1, hM, ?_, ?_, hM.2.1 ▸ hM.1.len_le⟩
    · intro r hr x hx
      obtain ⟨i, hi, rfl⟩ := List.mem_map.1 hr
      have := (h5 i (by have := List.mem_range.1 hi; omega)).2.2.2.2.1 x (List.mem_of_mem_take hx)
      simp only [Lit.wf, Bool.and_eq_true, decide_eq_true_eq] at this
      exact this
    · intro r hr
      obtain ⟨i, hi, rfl⟩ := List.mem_map.1 hr
      exact (key i (List.mem_range.1 hi)).len_le

theorem mapM_get {α β : Type} {f : α → Option β} : ∀ {l : List α} {xs : List β}, l.mapM f = some xs → ∀ {i : Nat} {a : α}, l[i]? = some a → ∃ y, f a = some y
  | [], _, _, _, _, h => by simp at h
  | a :: l, xs, hm, i, b, h => by
    rw [List.mapM_cons] at hm
    obtain ⟨y, hy, h2⟩ := Option.bind_eq_some_iff.1 hm
    obtain ⟨ys, hys, _⟩ := Option.bind_eq_some_iff.1 h2
    cases i with
    | zero => simp at h; subst h; exact ⟨y, hy⟩
    | succ i => exact mapM_get hys (by simpa using h)
/-- A slice of whole numbers that is a field of a struct that comes in. -/
theorem structInts {H : Type} {enc : TypeId × Value → H} {P : Program} {W : World} {sp : Nat → Bool} {held : Bool} {t e : TypeId} {fs : Array Field} {f : Field} {cs : Array Value} {d : DataW H} {p : List MemPlace} (ht : P.underlying t = some (.struct fs)) (h : DataW.Trod enc P W 0 sp held t (.agg cs) d p) (i : Nat) (hf : fs[i]? = some f)
    (hu : P.underlying f.type = some (.slice e)) (he : P.underlying e = some (.int .i64)) (hc : P.cellsOf e = 1) (h1 : P.cellsOf f.type = 1) {o : Nat} (ho : f.offset = o) :
    ∃ (s : SV) (ys : List Int), (cs.toList.drop o).take 1 = flat [.one (SV.v s)] ∧ Reads Ei (hp W) s ys ∧ (∀ x ∈ ys, IntKind.i64.has x) := by
  obtain ⟨m, hm⟩ := h
  have hcl : (Value.agg cs).cells.toList = cs.toList := rfl
  rw [hcl] at hm
  cases m with
  | zero => simp [DataW.trod] at hm
  | succ m =>
    unfold DataW.trod at hm
    rw [ht] at hm
    simp only at hm
    split at hm
    · obtain ⟨xs, hxs, _⟩ := Option.map_eq_some_iff.1 hm
      obtain ⟨y, hy⟩ := mapM_get hxs (i := i) (a := f) (by simpa using hf)
      rw [h1, ho] at hy
      rcases ChangeShapes.open_ints hu he hc hy with ⟨g1, g2⟩ | ⟨a, len, cap, zs, g1, _, g3, g4, g5, g6, g7, g8⟩
      · exact ⟨⟨none, 0, 0⟩, [], by rw [g1]; rfl, ⟨rfl, Nat.le_refl _, by simp [maxLen], .inl rfl⟩, by simp⟩
      · have hlen : len ≤ zs.length := by rw [g5]; split <;> omega
        refine ⟨⟨some a, len, cap⟩, zs.take len, by rw [g1]; rfl, reads_of (by simp; omega) (by decide) ?_ g3 g4, ?_⟩
        · intro j u hu'
          rw [encs_ints, List.getElem?_map, List.getElem?_take] at hu'
          split at hu'
          · rename_i hj
            have hz := g7 j (by omega)
            rw [hz, ← hu']
            have : zs[j]? = some (zs[j]'(by omega)) := List.getElem?_eq_getElem _
            simp [List.getD, this]
          · simp at hu'
        · intro x hx
          have := g8 x (List.mem_of_mem_take hx)
          simp only [Lit.wf, Bool.and_eq_true, decide_eq_true_eq] at this
          exact this
    · cases hm
end Go.Sx
