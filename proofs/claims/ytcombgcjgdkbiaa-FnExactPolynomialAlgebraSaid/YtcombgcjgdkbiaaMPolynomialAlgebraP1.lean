/- Plain laws. -/
import Derived.Test.YtcombgcjgdkbiaaMPolynomialAlgebra3
import Derived.ProofKit
import Derived.OpenShut
import Derived.ShutString
import Derived.ChangeOld
import Derived.Carry
import Derived.SizedLaws
import Derived.ChangeSlices
import Derived.Deep.Matrix
/- Pl: plain laws of the loops, and of whole numbers. -/
namespace Go.Sx

theorem loopN_mono {σ ρ : Type} {f : σ → Option (LR σ ρ)} : ∀ {k s o}, loopN f k s = some o → ∀ {k'}, k ≤ k' → loopN f k' s = some o
  | 0, _, _, h, _, _ => by cases h
  | k + 1, s, o, h, k', hk => by
    obtain ⟨j, rfl⟩ : ∃ j, k' = j + 1 := ⟨k' - 1, by omega⟩
    simp only [loopN] at h ⊢
    split at h
    · cases h
    · exact loopN_mono h (by omega)
    · exact h
    · exact h

theorem loop_run {σ ρ : Type} {f : σ → Option (LR σ ρ)} (Inv : σ → Prop) (m : σ → Nat) (Q : LO σ ρ → Prop)
    (h : ∀ s, Inv s → (∃ s', f s = some (.next s') ∧ Inv s' ∧ m s' < m s) ∨ (∃ s', f s = some (.brk s') ∧ Q (.brk s')) ∨ (∃ r, f s = some (.ret r) ∧ Q (.ret r)))
    (s : σ) (hs : Inv s) (hm : m s < 4611686018427387904) : ∃ o, loop f s = some o ∧ Q o := by
  have key : ∀ k s, Inv s → m s < k → ∃ o, loopN f k s = some o ∧ Q o := by
    intro k
    induction k with
    | zero => intro s _ h; omega
    | succ k ih =>
      intro s hs hm
      rcases h s hs with ⟨s', h1, h2, h3⟩ | ⟨s', h1, h2⟩ | ⟨r, h1, h2⟩
      · obtain ⟨o, ho, hq⟩ := ih s' h2 (by omega)
        exact ⟨o, by simp only [loopN, h1]; exact ho, hq⟩
      · exact ⟨_, by simp only [loopN, h1], h2⟩
      · exact ⟨_, by simp only [loopN, h1], h2⟩
  obtain ⟨o, ho, hq⟩ := key (m s + 1) s hs (by omega)
  exact ⟨o, loopN_mono ho (by unfold FUEL; omega), hq⟩

theorem loop1_of {σ : Type} {f : σ → Option (LB σ)} {s s' : σ} (h : loop (ρ := Empty) (fun s => (f s).map LB.lr) s = some (.brk s')) : loop1 f s = some s' := by
  unfold loop1; rw [h]

theorem loop1_run {σ : Type} {f : σ → Option (LB σ)} (Inv : σ → Prop) (m : σ → Nat) (Q : σ → Prop)
    (h : ∀ s, Inv s → (∃ s', f s = some (.next s') ∧ Inv s' ∧ m s' < m s) ∨ (∃ s', f s = some (.brk s') ∧ Q s'))
    (s : σ) (hs : Inv s) (hm : m s < 4611686018427387904) : ∃ o, loop1 f s = some o ∧ Q o := by
  obtain ⟨o, ho, hq⟩ := loop_run (ρ := Empty) (f := fun s => (f s).map LB.lr) Inv m (fun o => match o with | .brk s => Q s | .ret r => nomatch r) (by
    intro s hs
    rcases h s hs with ⟨s', h1, h2, h3⟩ | ⟨s', h1, h2⟩
    · exact .inl ⟨s', by rw [h1]; rfl, h2, h3⟩
    · exact .inr (.inl ⟨s', by rw [h1]; rfl, h2⟩)) s hs hm
  cases o with
  | brk s' => exact ⟨s', loop1_of ho, hq⟩
  | ret r => exact nomatch r

theorem loop_of {σ ρ : Type} {f : σ → Option (LR σ ρ)} {s : σ} {o : LO σ ρ} {k : Nat} (h : loopN f k s = some o) (hk : k ≤ 4611686018427387904) : loop f s = some o :=
  loopN_mono h (by unfold FUEL; omega)

/-- A loop that counts up to n, and leaves by its end. -/
theorem loop_upto {σ ρ : Type} {f : σ → Option (LR σ ρ)} (S : Nat → σ) (n : Nat) (b : σ) (hn : n < 4611686018427387904) (step : ∀ i, i < n → f (S i) = some (.next (S (i + 1)))) (fin : f (S n) = some (.brk b)) : loop f (S 0) = some (.brk b) := by
  have key : ∀ d i, i + d = n → loopN f (d + 1) (S i) = some (.brk b) := by
    intro d
    induction d with
    | zero => intro i hi; obtain rfl : i = n := by omega
              simp only [loopN, fin]
    | succ d ih => intro i hi; rw [loopN, step i (by omega)]; exact ih (i + 1) (by omega)
  exact loop_of (key n 0 (by omega)) (by omega)
theorem loop1_upto {σ : Type} {f : σ → Option (LB σ)} (S : Nat → σ) (n : Nat) (b : σ) (hn : n < 4611686018427387904) (step : ∀ i, i < n → f (S i) = some (.next (S (i + 1)))) (fin : f (S n) = some (.brk b)) : loop1 f (S 0) = some b :=
  loop1_of (loop_upto (ρ := Empty) (f := fun s => (f s).map LB.lr) S n b hn (fun i hi => by rw [step i hi]; rfl) (by rw [fin]; rfl))

/-- A loop that counts up to n and looks for something. -/
theorem loop_find {σ ρ : Type} {f : σ → Option (LR σ ρ)} (S : Nat → σ) (n : Nat) (bad : Nat → Bool) (r : Nat → ρ) (b : σ) (hn : n < 4611686018427387904)
    (step : ∀ i, i < n → f (S i) = some (bif bad i then .ret (r i) else .next (S (i + 1)))) (fin : f (S n) = some (.brk b)) :
    loop f (S 0) = some (match (List.range n).find? bad with | some i => .ret (r i) | none => .brk b) := by
  have key : ∀ d i, i + d = n → loopN f (d + 1) (S i) = some (match (List.range' i d).find? bad with | some i => .ret (r i) | none => .brk b) := by
    intro d
    induction d with
    | zero => intro i hi; obtain rfl : i = n := by omega
              simp only [loopN, fin]; rfl
    | succ d ih =>
      intro i hi
      rw [loopN, step i (by omega), List.range'_succ, List.find?_cons]
      cases hb : bad i with
      | true => rfl
      | false => exact ih (i + 1) (by omega)
  rw [List.range_eq_range']
  exact loop_of (key n 0 (by omega)) (by omega)
theorem loop_any {σ ρ : Type} {f : σ → Option (LR σ ρ)} (S : Nat → σ) (n : Nat) (bad : Nat → Bool) (r : ρ) (b : σ) (hn : n < 4611686018427387904)
    (step : ∀ i, i < n → f (S i) = some (bif bad i then .ret r else .next (S (i + 1)))) (fin : f (S n) = some (.brk b)) :
    loop f (S 0) = some (bif (List.range n).any bad then .ret r else .brk b) := by
  rw [loop_find S n bad (fun _ => r) b hn step fin]
  cases hf : (List.range n).find? bad with
  | none =>
    have : (List.range n).any bad = false := by
      rw [List.any_eq_false]; intro x hx; have := List.find?_eq_none.1 hf x hx; simpa using this
    rw [this]; rfl
  | some i =>
    have : (List.range n).any bad = true := List.any_eq_true.2 ⟨i, List.mem_of_find?_eq_some hf, List.find?_some hf⟩
    rw [this]; rfl

theorem w64_in {x : Int} (h : -9223372036854775808 ≤ x ∧ x ≤ 9223372036854775807) : w64 x = x := IntWalk.i64_in x h
theorem w64_succ {i : Nat} (h : i < 4611686018427387904) : w64 ((i : Int) + 1) = ((i + 1 : Nat) : Int) := by rw [w64_in (by omega)]; omega
theorem w64_pred {i : Nat} (h : i < 4611686018427387904) : w64 (((i + 1 : Nat) : Int) - 1) = (i : Int) := by rw [w64_in (by omega)]; omega
theorem chk_in {α : Type} {i : Int} {n : Nat} {k : Option α} (h : 0 ≤ i ∧ i < n) : chk i n k = k := if_pos h
theorem nz_in {α : Type} {b : Int} {k : Option α} (h : b ≠ 0) : nz b k = k := if_neg h
theorem small_in {α : Type} {n : Nat} {k : Option α} (h : n ≤ 1099511627776) : small n k = k := if_pos h
theorem dlt_nat (i n : Nat) : decide ((i : Int) < (n : Int)) = decide (i < n) := by simp
theorem beq_nat (a b : Nat) : ((a : Int) == (b : Int)) = decide (a = b) := by rw [Bool.eq_iff_iff]; simp; omega
theorem beq_nat0 (a : Nat) : ((a : Int) == 0) = decide (a = 0) := by rw [Bool.eq_iff_iff]; simp
theorem bne_nat (a b : Nat) : ((a : Int) != (b : Int)) = !decide (a = b) := by rw [bne, beq_nat]
theorem bne_nat0 (a : Nat) : ((a : Int) != 0) = !decide (a = 0) := by rw [bne, beq_nat0]
theorem any_congr {n : Nat} {p q : Nat → Bool} (h : ∀ i, i < n → p i = q i) : (List.range n).any p = (List.range n).any q := by
  rw [Bool.eq_iff_iff]
  simp only [List.any_eq_true, List.mem_range]
  constructor
  · rintro ⟨i, hi, hp⟩; exact ⟨i, hi, by rw [← h i hi]; exact hp⟩
  · rintro ⟨i, hi, hp⟩; exact ⟨i, hi, by rw [h i hi]; exact hp⟩
end Go.Sx

/- Slices of numbers that are searched. -/
namespace Go.Proofs.Ytcombgcjgdkbiaa.G
open Go Go.Sx Go.Proofs
theorem gt_ix {α : Type} [Inhabited α] {a : List α} {i : Nat} (h : i < a.length) : gt a (i : Int) = a[i] := by simp [gt, List.getD, h]
theorem any_ix {α : Type} [Inhabited α] (a : List α) (p : α → Bool) : (List.range a.length).any (fun (i : Nat) => p (gt a (i : Int))) = a.any p := by
  rw [Bool.eq_iff_iff, List.any_eq_true, List.any_eq_true]
  constructor
  · rintro ⟨i, hi, h⟩
    have hi' := List.mem_range.1 hi
    exact ⟨a[i], List.getElem_mem _, by rwa [gt_ix hi'] at h⟩
  · rintro ⟨x, hx, h⟩
    obtain ⟨i, hi, rfl⟩ := List.mem_iff_getElem.1 hx
    exact ⟨i, List.mem_range.2 hi, by rw [gt_ix hi]; exact h⟩
theorem found {n : Nat} (p : Nat → Bool) (b : Int) : (((some (match (List.range n).find? p with | some i => LO.ret ((i : Nat) : Int) | none => LO.brk b) : Option (LO Int Int)).bind (ln fun _ => some (-1))).bind fun r_1 => some (decide (r_1 ≥ 0))) = some ((List.range n).any p) := by
  cases hfd : (List.range n).find? p with
  | none =>
    have : (List.range n).any p = false := by
      rw [List.any_eq_false]; intro x hx; have := List.find?_eq_none.1 hfd x hx; simpa using this
    rw [this]; rfl
  | some i =>
    have : (List.range n).any p = true := List.any_eq_true.2 ⟨i, List.mem_of_find?_eq_some hfd, List.find?_some hfd⟩
    rw [this]
    have hd : decide ((i : Int) ≥ 0) = true := by simp
    simp only [Option.bind_some, ln, hd]
theorem hasVal (a : List Int) (h : a.length < 1000000) (v : Int) : slices_Contains_int64_int64.f a v = some (a.any fun x => v == x) := by
  unfold slices_Contains_int64_int64.f slices_Index_int64_int64.f
  have hl := loop_find (f := slices_Index_int64_int64.b0 a v) (fun i => (i : Int)) a.length (fun (i : Nat) => v == gt a (i : Int)) (fun i => (i : Int)) (a.length : Int) (by omega) (fun i hi => by
    unfold slices_Index_int64_int64.b0
    simp only [dlt_nat, hi, decide_true, cond_true]
    rw [chk_in (by omega), w64_succ (by omega)]
    cases v == gt a (i : Int) <;> rfl) (by
    unfold slices_Index_int64_int64.b0
    simp)
  have hl' : loop (slices_Index_int64_int64.b0 a v) 0 = _ := hl
  rw [hl', ← any_ix a (fun x => v == x)]
  exact found _ _
end Go.Proofs.Ytcombgcjgdkbiaa.G

/- The primes that are allowed, told by both. -/
namespace Go.Proofs.Ytcombgcjgdkbiaa.G
open Go Go.Sx Go.Proofs
def primeB (p : Int) : Bool := ((((((p == 2) || (p == 3)) || (p == 5)) || (p == 7)) || (p == 11)) || (p == 13))
theorem specPrime (p : Int) : spec_l01Prime.f p = some (primeB p) := rfl
theorem implPrime (p : Int) : impl_isPrime.f p = some (primeB p) := by
  unfold impl_isPrime.f
  rw [hasVal _ (by simp)]
  simp only [Option.bind_some, List.any_cons, List.any_nil, Bool.or_false, primeB, Bool.or_assoc]
theorem primeB_le {p : Int} (h : primeB p = true) : 2 ≤ p ∧ p ≤ 13 := by
  unfold primeB at h
  simp only [Bool.or_eq_true, beq_iff_eq] at h
  omega
end Go.Proofs.Ytcombgcjgdkbiaa.G

/- Slices of numbers that are searched by a test. -/
namespace Go.Proofs.Ytcombgcjgdkbiaa.G
open Go Go.Sx Go.Proofs
theorem hasInts (a : List Int) (h : a.length < 10000000) (f : Int → Option Bool) (p : Int → Bool) (hf : ∀ x ∈ a, f x = some (p x)) : slices_ContainsFunc_int64_int64.f a f = some (a.any p) := by
  unfold slices_ContainsFunc_int64_int64.f slices_IndexFunc_int64_int64.f
  have hl := loop_find (f := slices_IndexFunc_int64_int64.b0 a f) (fun i => (i : Int)) a.length (fun (i : Nat) => p (gt a (i : Int))) (fun i => (i : Int)) (a.length : Int) (by omega) (fun i hi => by
    unfold slices_IndexFunc_int64_int64.b0
    simp only [dlt_nat, hi, decide_true, cond_true]
    rw [chk_in (by omega), hf _ (by rw [gt_ix hi]; exact List.getElem_mem _), Option.bind_some, w64_succ (by omega)]
    cases p (gt a (i : Int)) <;> rfl) (by
    unfold slices_IndexFunc_int64_int64.b0
    simp)
  have hl' : loop (slices_IndexFunc_int64_int64.b0 a f) 0 = _ := hl
  rw [hl', ← any_ix a p]
  exact found _ _
end Go.Proofs.Ytcombgcjgdkbiaa.G

/- Lists of numbers for a prime: polynomials and roots, told by both. -/
namespace Go.Proofs.Ytcombgcjgdkbiaa.G
open Go Go.Sx Go.Proofs
def digB (p : Int) (x : Int) : Bool := decide (x ≥ 0) && decide (x ≤ p - 1)
def polyB (p : Int) (l : List Int) : Bool := primeB p && (decide ((l.length : Int) ≥ 1) && decide ((l.length : Int) ≤ 6)) && l.all (digB p)
theorem any_neg {α : Type} (l : List α) (p : α → Bool) : l.any (fun x => !p x) = !l.all p := by rw [List.all_eq_not_any_not, Bool.not_not]
theorem specPoly (p : Int) (l : List Int) (h : l.length ≤ 1048576) : spec_l09Poly.f p l = some (if polyB p l then 0 else 2) := by
  unfold spec_l09Poly.f spec_l01In.f
  rw [specPrime]
  unfold polyB
  simp only [Option.bind_some]
  cases hp : primeB p with
  | false => rfl
  | true =>
    have hpb := primeB_le hp
    simp only [Bool.not_true, cond_false, Option.bind_some, Bool.true_and]
    cases hl : (decide ((l.length : Int) ≥ 1) && decide ((l.length : Int) ≤ 6)) with
    | false => rfl
    | true =>
      simp only [Bool.not_true, cond_false, Bool.true_and]
      have h1 := loop_any (f := spec_l09Poly.b0 l p) (fun i => (i : Int)) l.length (fun (i : Nat) => !digB p (gt l (i : Int))) 2 (l.length : Int) (by omega) (fun i hi => by
        unfold spec_l09Poly.b0 spec_l01In.f
        simp only [dlt_nat, hi, decide_true, cond_true]
        rw [chk_in (by omega), w64_in (x := p - 1) (by omega), Option.bind_some, w64_succ (by omega)]
        have : (decide (gt l (i : Int) ≥ 0) && decide (gt l (i : Int) ≤ p - 1)) = digB p (gt l (i : Int)) := rfl
        rw [this]
        cases digB p (gt l (i : Int)) <;> rfl) (by
        unfold spec_l09Poly.b0
        simp)
      have h2 : loop (spec_l09Poly.b0 l p) 0 = _ := h1
      rw [h2, any_ix l (fun x => !digB p x), any_neg]
      cases l.all (digB p) <;> rfl
theorem poly_dig {p : Int} {l : List Int} (h : polyB p l = true) : (2 ≤ p ∧ p ≤ 13) ∧ 1 ≤ l.length ∧ l.length ≤ 6 ∧ ∀ i : Nat, i < l.length → 0 ≤ gt l (i : Int) ∧ gt l (i : Int) < p := by
  unfold polyB at h
  simp only [Bool.and_eq_true, decide_eq_true_eq, List.all_eq_true] at h
  refine ⟨primeB_le h.1.1, by omega, by omega, fun i hi => ?_⟩
  have := h.2 (gt l (i : Int)) (by rw [gt_ix hi]; exact List.getElem_mem _)
  unfold digB at this
  simp only [Bool.and_eq_true, decide_eq_true_eq] at this
  omega
end Go.Proofs.Ytcombgcjgdkbiaa.G

/- Rests: told by both. -/
namespace Go.Proofs.Ytcombgcjgdkbiaa.G
open Go Go.Sx Go.Proofs
theorem rs_emod {p : Int} (x : Int) (hp : 2 ≤ p ∧ p ≤ 13) : Int.tmod (w64 (Int.tmod x p + p)) p = x % p := by
  have h1 := Int.tmod_lt_of_pos x (show 0 < p by omega)
  have h2 := Int.lt_tmod_of_pos x (show 0 < p by omega)
  rw [w64_in (by omega), Int.tmod_eq_emod_of_nonneg (by omega), Int.add_emod_right]
  have h3 : Int.tmod x p + p * Int.tdiv x p = x := Int.tmod_add_mul_tdiv x p
  conv => rhs; rw [← h3]
  rw [Int.add_mul_emod_self_left]
theorem specMod {p : Int} (x : Int) (hp : 2 ≤ p ∧ p ≤ 13) : spec_l01Mod.f p x = some (x % p) := by
  unfold spec_l01Mod.f
  rw [nz_in (by omega), rs_emod x hp]
theorem implRest {p : Int} (x : Int) (hp : 2 ≤ p ∧ p ≤ 13) : impl_rest.f x p = some (x % p) := by
  unfold impl_rest.f
  rw [nz_in (by omega), rs_emod x hp]
theorem emod_b {p : Int} (x : Int) (hp : 2 ≤ p ∧ p ≤ 13) : 0 ≤ x % p ∧ x % p < p := ⟨Int.emod_nonneg _ (by omega), Int.emod_lt_of_pos _ (by omega)⟩
/-- So many whole numbers. -/
def zl (n : Nat) (e : Nat → Int) : List Int := (List.range n).map e
theorem zl_length (n : Nat) (e : Nat → Int) : (zl n e).length = n := by simp [zl]
theorem zl_gt {n : Nat} (e : Nat → Int) {k : Nat} (hk : k < n) : gt (zl n e) (k : Int) = e k := by simp [gt, zl, List.getD, hk]
theorem zl_set {n : Nat} (e : Nat → Int) {k : Nat} (v : Int) (hk : k < n) : (zl n e).set k v = zl n (fun x => if x = k then v else e x) := by
  apply List.ext_getElem?
  intro q
  simp only [zl, List.getElem?_set, List.length_map, List.length_range, List.getElem?_map]
  by_cases hq : q < n
  · by_cases h : k = q
    · subst h; simp [hk]
    · have : ¬ q = k := fun e => h e.symm
      simp [hq, h, this]
  · by_cases h : k = q
    · omega
    · simp [hq, h]
theorem zl_congr {n : Nat} {e f : Nat → Int} (h : ∀ i, i < n → e i = f i) : zl n e = zl n f := by
  unfold zl
  refine List.map_congr_left fun i hi => ?_
  rw [h i (List.mem_range.1 hi)]
theorem zl_rep (n : Nat) (v : Int) : List.replicate n v = zl n (fun _ => v) := by
  apply List.ext_getElem?
  intro q
  by_cases hq : q < n <;> simp [zl, hq]
theorem zl_cons (n : Nat) (e : Nat → Int) (v : Int) : [v] ++ zl n e = zl (n + 1) (fun i => if i = 0 then v else e (i - 1)) := by
  unfold zl
  rw [List.range_succ_eq_map, List.map_cons, List.map_map]
  simp only [List.singleton_append, if_pos]
  congr 1
theorem zl_of {l : List Int} : l = zl l.length (fun i => gt l (i : Int)) := by
  apply List.ext_getElem?
  intro q
  by_cases hq : q < l.length
  · simp [zl, hq, gt, List.getD]
  · simp [zl, hq]
end Go.Proofs.Ytcombgcjgdkbiaa.G

/- The table of an algebra of rests by a polynomial, told by both. -/
namespace Go.Proofs.Ytcombgcjgdkbiaa.G
open Go Go.Sx Go.Proofs
def sh (e : Nat → Int) (i : Nat) : Int := if i = 0 then 0 else e (i - 1)
def up (p : Int) (l : List Int) (e : Nat → Int) (i : Nat) : Int := (sh e i - e (l.length - 1) * gt l (i : Int)) % p
/-- The powers of the unknown. -/
def PW (p : Int) (l : List Int) : Nat → (Nat → Int)
  | 0 => fun i => if i = 0 then 1 else 0
  | m + 1 => up p l (PW p l m)
theorem PW_dig {p : Int} {l : List Int} (hp : 2 ≤ p ∧ p ≤ 13) : ∀ m i, 0 ≤ PW p l m i ∧ PW p l m i < p
  | 0, i => by
    show 0 ≤ (if i = 0 then (1 : Int) else 0) ∧ (if i = 0 then (1 : Int) else 0) < p
    by_cases h : i = 0
    · rw [if_pos h]; omega
    · rw [if_neg h]; omega
  | m + 1, i => emod_b _ hp
theorem sh_dig {p : Int} {e : Nat → Int} (hp : 2 ≤ p ∧ p ≤ 13) (h : ∀ i, 0 ≤ e i ∧ e i < p) (i : Nat) : 0 ≤ sh e i ∧ sh e i < p := by
  unfold sh
  by_cases h0 : i = 0
  · rw [if_pos h0]; omega
  · rw [if_neg h0]; exact h _
theorem sm_mul {p r x : Int} (hp : 2 ≤ p ∧ p ≤ 13) (hr : 0 ≤ r ∧ r < p) (hx : 0 ≤ x ∧ x < p) : 0 ≤ r * x ∧ r * x ≤ 169 := by
  refine ⟨Int.mul_nonneg hr.1 hx.1, ?_⟩
  have := Int.mul_le_mul (show r ≤ 13 by omega) (show x ≤ 13 by omega) hx.1 (by omega)
  omega
/-- What of the table is written: the rows before m, of row m what lies before q, and r of the next. -/
def GG (n : Nat) (e : Nat → Nat → Int) (m q r k : Nat) : UInt8 :=
  if k / 36 < n ∧ k / 6 % 6 < n ∧ k % 6 < n ∧ (k / 36 + k / 6 % 6 < m ∨ (k / 36 + k / 6 % 6 = m ∧ (k / 36 < q ∨ (k / 36 = q ∧ k % 6 < r)))) then UInt8.ofInt (e (k / 36 + k / 6 % 6) (k % 6)) else 0
section
variable {n : Nat} {e : Nat → Nat → Int} (hn : n ≤ 6)
include hn
theorem GG_cell {m q r : Nat} (hq : q < n) (hm : q ≤ m) (hj : m < q + n) (hr : r < n) : upd (GG n e m q r) (q * 36 + (m - q) * 6 + r) (UInt8.ofInt (e m r)) = GG n e m q (r + 1) := by
  funext k
  unfold upd GG
  by_cases hk : k = q * 36 + (m - q) * 6 + r
  · have h1 : k / 36 = q := by omega
    have h2 : k / 6 % 6 = m - q := by omega
    have h3 : k % 6 = r := by omega
    rw [if_pos hk, h1, h2, h3, if_pos (by omega), show q + (m - q) = m by omega]
  · rw [if_neg hk]
    have : (k / 36 < n ∧ k / 6 % 6 < n ∧ k % 6 < n ∧ (k / 36 + k / 6 % 6 < m ∨ (k / 36 + k / 6 % 6 = m ∧ (k / 36 < q ∨ (k / 36 = q ∧ k % 6 < r))))) ↔ (k / 36 < n ∧ k / 6 % 6 < n ∧ k % 6 < n ∧ (k / 36 + k / 6 % 6 < m ∨ (k / 36 + k / 6 % 6 = m ∧ (k / 36 < q ∨ (k / 36 = q ∧ k % 6 < r + 1))))) := by omega
    simp only [this]
theorem GG_row {m q : Nat} (hq : q < n) (hm : q ≤ m) (hj : m < q + n) {v : Nat → UInt8} (hv : ∀ c, c < 6 → v c = if c < n then UInt8.ofInt (e m c) else 0) : updN (GG n e m q 0) (q * 36 + (m - q) * 6) 6 v = GG n e m (q + 1) 0 := by
  funext k
  unfold updN GG
  by_cases hk : q * 36 + (m - q) * 6 ≤ k ∧ k < q * 36 + (m - q) * 6 + 6
  · have h1 : k / 36 = q := by omega
    have h2 : k / 6 % 6 = m - q := by omega
    have h3 : k % 6 = k - (q * 36 + (m - q) * 6) := by omega
    rw [if_pos hk, h1, h2, h3, hv _ (by omega), show q + (m - q) = m by omega]
    by_cases hc : k - (q * 36 + (m - q) * 6) < n
    · rw [if_pos hc, if_pos (by omega)]
    · rw [if_neg hc, if_neg (by omega)]
  · rw [if_neg hk]
    have : (k / 36 < n ∧ k / 6 % 6 < n ∧ k % 6 < n ∧ (k / 36 + k / 6 % 6 < m ∨ (k / 36 + k / 6 % 6 = m ∧ (k / 36 < q ∨ (k / 36 = q ∧ k % 6 < 0))))) ↔ (k / 36 < n ∧ k / 6 % 6 < n ∧ k % 6 < n ∧ (k / 36 + k / 6 % 6 < m ∨ (k / 36 + k / 6 % 6 = m ∧ (k / 36 < q + 1 ∨ (k / 36 = q + 1 ∧ k % 6 < 0))))) := by omega
    simp only [this]
omit hn in
theorem GG_same {m q r m' q' r' : Nat} (h : ∀ i j c, i < n → j < n → c < n → ((i + j < m ∨ (i + j = m ∧ (i < q ∨ (i = q ∧ c < r)))) ↔ (i + j < m' ∨ (i + j = m' ∧ (i < q' ∨ (i = q' ∧ c < r')))))) : GG n e m q r = GG n e m' q' r' := by
  funext k
  unfold GG
  by_cases h1 : k / 36 < n
  · by_cases h2 : k / 6 % 6 < n
    · by_cases h3 : k % 6 < n
      · simp only [h _ _ _ h1 h2 h3]
      · simp only [h3, false_and, and_false]
    · simp only [h2, false_and, and_false]
  · simp only [h1, false_and]
end
theorem zl_take {n k : Nat} (e : Nat → Int) (h : k ≤ n) : (zl n e).take k = zl k e := by
  unfold zl
  rw [← List.map_take, List.take_range, Nat.min_eq_left h]
theorem zl_one (k : Nat) (e : Nat → Int) : zl (k + 1) e = zl k e ++ [e k] := by simp [zl, List.range_succ]
theorem vec_eq {n : Nat} (hn : n ≤ 6) (e : Nat → Int) : ∃ v, impl_vector.f (zl n e) = some v ∧ ∀ c, v c = if c < n then UInt8.ofInt (e c) else 0 := by
  refine ⟨fun c => if c < n then UInt8.ofInt (e c) else 0, ?_, fun c => rfl⟩
  unfold impl_vector.f
  have h := loop1_upto (f := impl_vector.b0 (zl n e)) (fun k => ((fun c => if c < k then UInt8.ofInt (e c) else 0), (k : Int))) n ((fun c => if c < n then UInt8.ofInt (e c) else 0), (n : Int)) (by omega) (fun k hk => by
    unfold impl_vector.b0
    simp only [zl_length, dlt_nat, hk, decide_true, cond_true]
    rw [chk_in (by omega), chk_in (by omega), zl_gt _ hk, w64_succ (by omega), Int.toNat_natCast]
    congr 3
    funext c
    show (if c = k then UInt8.ofInt (e k) else if c < k then UInt8.ofInt (e c) else 0) = if c < k + 1 then UInt8.ofInt (e c) else 0
    by_cases hc : c = k
    · subst hc; rw [if_pos rfl, if_pos (by omega)]
    · rw [if_neg hc]
      by_cases h2 : c < k
      · rw [if_pos h2, if_pos (by omega)]
      · rw [if_neg h2, if_neg (by omega)]) (by
    unfold impl_vector.b0
    simp [zl_length])
  have e0 : (fun c => if c < 0 then UInt8.ofInt (e c) else (0 : UInt8)) = fun _ => 0 := by funext c; rw [if_neg (Nat.not_lt_zero c)]
  have h' : loop1 (impl_vector.b0 (zl n e)) ((fun _ => 0), 0) = some ((fun c => if c < n then UInt8.ofInt (e c) else 0), (n : Int)) := by rw [← e0]; exact h
  rw [h']; rfl
section
variable {p : Int} {l : List Int} {e : Nat → Int} (hp : 2 ≤ p ∧ p ≤ 13) (h1 : 1 ≤ l.length) (hl : l.length ≤ 6) (hd : ∀ i : Nat, i < l.length → 0 ≤ gt l (i : Int) ∧ gt l (i : Int) < p) (he : ∀ i, 0 ≤ e i ∧ e i < p)
include hp h1 hl hd he
theorem implShift : impl_shifted.f p l (zl l.length e) = some (zl l.length (up p l e)) := by
  unfold impl_shifted.f
  have w : w64 ((l.length : Int) - 1) = ((l.length - 1 : Nat) : Int) := by rw [w64_in (by omega)]; omega
  have g : (decide (0 ≤ 0) && decide ((0 : Int) ≤ ((l.length - 1 : Nat) : Int)) && decide (((l.length - 1 : Nat) : Int) ≤ (l.length : Int))) = true := by simp
  have ez : [(0 : Int)] ++ zl (l.length - 1) e = zl l.length (sh e) := by
    rw [zl_cons, show l.length - 1 + 1 = l.length by omega]
    exact zl_congr fun i _ => rfl
  rw [zl_length, w, chk_in (by omega), g, Int.toNat_natCast, List.drop_zero, Nat.sub_zero, zl_take _ (by omega), ez, zl_gt _ (by omega)]
  simp only [grd, cond_true]
  rw [small_in (by simp [zl_length]; omega)]
  unfold impl_lessTimes.f
  have h := loop1_upto (f := impl_lessTimes.b0 (zl l.length (sh e)) l (e (l.length - 1)) p) (fun k => (zl k (up p l e), (k : Int))) l.length (zl l.length (up p l e), (l.length : Int)) (by omega) (fun k hk => by
    unfold impl_lessTimes.b0
    have hm := sm_mul hp (he (l.length - 1)) (hd k hk)
    have hs := sh_dig hp he k
    simp only [zl_length, dlt_nat, hk, decide_true, cond_true]
    rw [chk_in (by omega), chk_in (by omega), zl_gt _ hk, w64_in (x := e (l.length - 1) * gt l (k : Int)) (by omega), w64_in (x := sh e k - e (l.length - 1) * gt l (k : Int)) (by omega), implRest _ hp, Option.bind_some, small_in (by simp; omega), w64_succ (by omega), zl_one]
    rfl) (by
    unfold impl_lessTimes.b0
    simp [zl_length])
  have h' : loop1 (impl_lessTimes.b0 (zl l.length (sh e)) l (e (l.length - 1)) p) ([], 0) = _ := h
  rw [h']; rfl
theorem specShift : loop1 (spec_l09Algebra.b2 l (zl l.length e) p) (List.replicate (l.length : Int).toNat 0, 0) = some (zl l.length (up p l e), (l.length : Int)) := by
  have h := loop1_upto (f := spec_l09Algebra.b2 l (zl l.length e) p) (fun k => (zl l.length (fun i => if i < k then up p l e i else 0), (k : Int))) l.length (zl l.length (up p l e), (l.length : Int)) (by omega) (fun k hk => by
    unfold spec_l09Algebra.b2
    have hm := sm_mul hp (he (l.length - 1)) (hd k hk)
    have hs := sh_dig hp he k
    have w : w64 ((l.length : Int) - 1) = ((l.length - 1 : Nat) : Int) := by rw [w64_in (by omega)]; omega
    simp only [zl_length, dlt_nat, hk, decide_true, cond_true]
    have e1 : (bif decide ((k : Int) > 0) then chk (w64 ((k : Int) - 1)) l.length (chk (k : Int) l.length (some ((zl l.length (fun i => if i < k then up p l e i else 0)).set ((k : Int)).toNat (gt (zl l.length e) (w64 ((k : Int) - 1)))))) else some (zl l.length (fun i => if i < k then up p l e i else 0))) = some (zl l.length (fun i => if i < k then up p l e i else if i = k then sh e k else 0)) := by
      by_cases h0 : k = 0
      · subst h0
        simp only [Nat.not_lt_zero, if_false]
        have : decide (((0 : Nat) : Int) > 0) = false := rfl
        rw [this, cond_false]
        congr 1
        refine zl_congr fun i _ => ?_
        unfold sh
        by_cases h : i = 0 <;> simp [h]
      · have : decide ((k : Int) > 0) = true := by simp; omega
        have w2 : w64 ((k : Int) - 1) = ((k - 1 : Nat) : Int) := by rw [w64_in (by omega)]; omega
        rw [this, cond_true, w2, chk_in (by omega), chk_in (by omega), zl_gt _ (by omega), Int.toNat_natCast, zl_set _ _ hk]
        congr 1
        refine zl_congr fun i _ => ?_
        by_cases h : i = k
        · subst h; rw [if_pos rfl, if_neg (Nat.lt_irrefl i), if_pos rfl]; unfold sh; rw [if_neg h0]
        · rw [if_neg h, if_neg h]
    rw [e1, Option.bind_some, zl_length, chk_in (by omega), chk_in (by omega), w, zl_gt _ hk, zl_gt _ (by omega), if_neg (Nat.lt_irrefl k), if_pos rfl, w64_in (x := e (l.length - 1) * gt l (k : Int)) (by omega), w64_in (x := sh e k - e (l.length - 1) * gt l (k : Int)) (by omega), specMod _ hp, Option.bind_some, w64_succ (by omega), Int.toNat_natCast, zl_set _ _ hk]
    congr 3
    refine zl_congr fun i _ => ?_
    by_cases h : i = k
    · subst h; rw [if_pos rfl, if_pos (by omega)]; rfl
    · rw [if_neg h, if_neg h]
      by_cases h2 : i < k
      · rw [if_pos h2, if_pos (by omega)]
      · rw [if_neg h2, if_neg (by omega)]) (by
    unfold spec_l09Algebra.b2
    simp only [dlt_nat, Nat.lt_irrefl, decide_false, cond_false]
    congr 3
    exact zl_congr fun i hi => by rw [if_pos hi])
  rw [Int.toNat_natCast, zl_rep]
  have e0 : zl l.length (fun _ => (0 : Int)) = zl l.length (fun i => if i < 0 then up p l e i else 0) := zl_congr fun i _ => by rw [if_neg (Nat.not_lt_zero i)]
  rw [e0]
  exact h
end
section
variable {p : Int} {l : List Int} (h1 : 1 ≤ l.length) (hl : l.length ≤ 6)
include h1 hl
theorem implRowG {m : Nat} (hm : m < 2 * l.length - 1) : loop1 (impl_PolynomialAlgebra.b0 l m (zl l.length (PW p l m))) (GG l.length (PW p l) m 0 0, 0) = some (GG l.length (PW p l) (m + 1) 0 0, (l.length : Int)) := by
  obtain ⟨v, hv, hvc⟩ := vec_eq hl (PW p l m)
  refine loop1_upto (f := impl_PolynomialAlgebra.b0 l m (zl l.length (PW p l m))) (fun q => (GG l.length (PW p l) m q 0, (q : Int))) l.length _ (by omega) (fun q hq => ?_) ?_
  · unfold impl_PolynomialAlgebra.b0
    simp only [dlt_nat, hq, decide_true, cond_true]
    rw [w64_in (x := (m : Int) - (q : Int)) (by omega), hv, w64_succ (by omega)]
    by_cases hc : q ≤ m ∧ m < q + l.length
    · have e1 : (decide ((m : Int) - (q : Int) ≥ 0) && decide ((m : Int) - (q : Int) < (l.length : Int))) = true := by simp; omega
      have e2 : (m : Int) - (q : Int) = ((m - q : Nat) : Int) := by omega
      rw [e1, cond_true, Option.bind_some, e2, chk_in (by omega), chk_in (by omega), Int.toNat_natCast, Int.toNat_natCast, Option.bind_some, GG_row hl hq hc.1 hc.2 (fun c _ => hvc c)]
    · have e1 : (decide ((m : Int) - (q : Int) ≥ 0) && decide ((m : Int) - (q : Int) < (l.length : Int))) = false := by
        rw [Bool.and_eq_false_iff]; simp only [decide_eq_false_iff_not]; omega
      rw [e1, cond_false, Option.bind_some, GG_same (m' := m) (q' := q + 1) (r' := 0) (fun i j c hi hj _ => by omega)]
  · unfold impl_PolynomialAlgebra.b0
    simp only [dlt_nat, Nat.lt_irrefl, decide_false, cond_false]
    rw [GG_same (m' := m + 1) (q' := 0) (r' := 0) (fun i j c hi hj _ => by omega)]
theorem specRowG {m q : Nat} (hq : q < l.length) (hqm : q ≤ m) (hj : m < q + l.length) : loop1 (spec_l09Algebra.b0 l (zl l.length (PW p l m)) q m) (GG l.length (PW p l) m q 0, 0) = some (GG l.length (PW p l) m (q + 1) 0, (l.length : Int)) := by
  refine loop1_upto (f := spec_l09Algebra.b0 l (zl l.length (PW p l m)) q m) (fun r => (GG l.length (PW p l) m q r, (r : Int))) l.length _ (by omega) (fun r hr => ?_) ?_
  · unfold spec_l09Algebra.b0
    have e2 : (m : Int) - (q : Int) = ((m - q : Nat) : Int) := by omega
    simp only [dlt_nat, hr, decide_true, cond_true, zl_length]
    rw [w64_in (x := (m : Int) - (q : Int)) (by omega), e2, chk_in (by omega), chk_in (by omega), chk_in (by omega), chk_in (by omega), zl_gt _ hr, Int.toNat_natCast, Int.toNat_natCast, Int.toNat_natCast, w64_succ (by omega), GG_cell hl hq hqm hj hr]
  · unfold spec_l09Algebra.b0
    simp only [dlt_nat, Nat.lt_irrefl, decide_false, cond_false]
    rw [GG_same (m' := m) (q' := q + 1) (r' := 0) (fun i j c hi hj _ => by omega)]
theorem specRowsG {m : Nat} (hm : m < 2 * l.length - 1) : ∃ k, loop1 (spec_l09Algebra.b1 l m (zl l.length (PW p l m))) (GG l.length (PW p l) m 0 0, (if 0 > (w64 ((w64 ((m : Int) - (l.length : Int))) + 1)) then 0 else (w64 ((w64 ((m : Int) - (l.length : Int))) + 1)))) = some (GG l.length (PW p l) (m + 1) 0 0, k) := by
  obtain ⟨lo, e1, hlo⟩ : ∃ lo : Nat, (if 0 > (w64 ((w64 ((m : Int) - (l.length : Int))) + 1)) then (0 : Int) else (w64 ((w64 ((m : Int) - (l.length : Int))) + 1))) = (lo : Int) ∧ lo = m + 1 - l.length := by
    refine ⟨_, ?_, rfl⟩
    rw [w64_in (x := (m : Int) - (l.length : Int)) (by omega), w64_in (by omega)]
    by_cases h : 0 > (m : Int) - (l.length : Int) + 1
    · rw [if_pos h]; omega
    · rw [if_neg h]; omega
  have hi : ∃ hi : Nat, hi ≤ l.length ∧ hi ≤ m + 1 ∧ (hi = l.length ∨ hi = m + 1) := by
    by_cases h : m + 1 ≤ l.length
    · exact ⟨m + 1, by omega, by omega, by omega⟩
    · exact ⟨l.length, by omega, by omega, by omega⟩
  obtain ⟨hi, a1, a2, a3⟩ := hi
  rw [e1]
  have hl2 := loop1_upto (f := spec_l09Algebra.b1 l m (zl l.length (PW p l m))) (fun q => (GG l.length (PW p l) m (lo + q) 0, ((lo + q : Nat) : Int))) (hi - lo) (GG l.length (PW p l) (m + 1) 0 0, ((lo + (hi - lo) : Nat) : Int)) (by omega) (fun q hq => by
    unfold spec_l09Algebra.b1
    have c1 : (decide (((lo + q : Nat) : Int) < (l.length : Int)) && decide (((lo + q : Nat) : Int) ≤ (m : Int))) = true := by simp; omega
    simp only [c1, cond_true]
    rw [specRowG h1 hl (by omega) (by omega) (by omega), Option.bind_some, w64_succ (by omega)]
    rfl) (by
    unfold spec_l09Algebra.b1
    have c1 : (decide (((lo + (hi - lo) : Nat) : Int) < (l.length : Int)) && decide (((lo + (hi - lo) : Nat) : Int) ≤ (m : Int))) = false := by
      rw [Bool.and_eq_false_iff]; simp only [decide_eq_false_iff_not]; omega
    simp only [c1, cond_false]
    rw [GG_same (m' := m + 1) (q' := 0) (r' := 0) (fun i j c hi hj _ => by omega)])
  refine ⟨((lo + (hi - lo) : Nat) : Int), ?_⟩
  rw [← hl2]
  simp only [Nat.add_zero]
  rw [GG_same (m' := m) (q' := lo) (r' := 0) (fun i j c hi hj _ => by omega)]
end
section
variable {p : Int} {l : List Int} (hp : 2 ≤ p ∧ p ≤ 13) (h1 : 1 ≤ l.length) (hl : l.length ≤ 6) (hd : ∀ i : Nat, i < l.length → 0 ≤ gt l (i : Int) ∧ gt l (i : Int) < p)
include hp h1 hl hd
omit hp hl hd in
theorem start1 : (List.replicate (l.length : Int).toNat (0 : Int)).set 0 1 = zl l.length (PW p l 0) := by
  rw [Int.toNat_natCast, zl_rep]
  have h := zl_set (n := l.length) (fun _ => (0 : Int)) (k := 0) 1 (by omega)
  rw [h]
  exact zl_congr fun i _ => rfl
theorem implAllG : loop1 (impl_PolynomialAlgebra.b1 l p) (GG l.length (PW p l) 0 0 0, zl l.length (PW p l 0), 0) = some (GG l.length (PW p l) (2 * l.length - 1) 0 0, zl l.length (PW p l (2 * l.length - 1)), ((2 * l.length - 1 : Nat) : Int)) := by
  have w : w64 (w64 (2 * (l.length : Int)) - 1) = ((2 * l.length - 1 : Nat) : Int) := by rw [w64_in (x := 2 * (l.length : Int)) (by omega), w64_in (by omega)]; omega
  refine loop1_upto (f := impl_PolynomialAlgebra.b1 l p) (fun m => (GG l.length (PW p l) m 0 0, zl l.length (PW p l m), (m : Int))) (2 * l.length - 1) _ (by omega) (fun m hm => ?_) ?_
  · unfold impl_PolynomialAlgebra.b1
    simp only [w, dlt_nat, hm, decide_true, cond_true]
    rw [implRowG h1 hl hm]
    simp only [Option.bind_some]
    rw [implShift hp h1 hl hd (PW_dig hp m), Option.bind_some, w64_succ (by omega)]
    rfl
  · unfold impl_PolynomialAlgebra.b1
    simp only [w, dlt_nat, Nat.lt_irrefl, decide_false, cond_false]
theorem specAllG : loop1 (spec_l09Algebra.b3 l p) (GG l.length (PW p l) 0 0 0, zl l.length (PW p l 0), 0) = some (GG l.length (PW p l) (2 * l.length - 1) 0 0, zl l.length (PW p l (2 * l.length - 1)), ((2 * l.length - 1 : Nat) : Int)) := by
  have w : w64 (w64 (2 * (l.length : Int)) - 2) = 2 * (l.length : Int) - 2 := by rw [w64_in (x := 2 * (l.length : Int)) (by omega), w64_in (by omega)]
  have w2 : w64 ((l.length : Int) - 1) = ((l.length - 1 : Nat) : Int) := by rw [w64_in (by omega)]; omega
  refine loop1_upto (f := spec_l09Algebra.b3 l p) (fun m => (GG l.length (PW p l) m 0 0, zl l.length (PW p l m), (m : Int))) (2 * l.length - 1) _ (by omega) (fun m hm => ?_) ?_
  · unfold spec_l09Algebra.b3
    have c1 : decide ((m : Int) ≤ 2 * (l.length : Int) - 2) = true := by simp; omega
    obtain ⟨k, hk⟩ := specRowsG (p := p) h1 hl hm
    simp only [w, c1, cond_true]
    rw [hk]
    simp only [Option.bind_some]
    rw [w2, zl_length, chk_in (by omega), small_in (by omega), specShift hp h1 hl hd (PW_dig hp m)]
    simp only [Option.bind_some]
    rw [w64_succ (by omega)]
    rfl
  · unfold spec_l09Algebra.b3
    have c1 : decide (((2 * l.length - 1 : Nat) : Int) ≤ 2 * (l.length : Int) - 2) = false := by simp; omega
    simp only [w, c1, cond_false]
end
end Go.Proofs.Ytcombgcjgdkbiaa.G

/- An algebra is the same as itself. -/
namespace Go.Proofs.Ytcombgcjgdkbiaa.G
open Go Go.Sx Go.Proofs
theorem lt6 (i : Nat) : decide ((i : Int) < 6) = decide (i < 6) := dlt_nat i 6
theorem eqA6 (a : Nat → UInt8) : laws_eqByteA6.f a a = some true := by
  unfold laws_eqByteA6.f
  have hl := loop_upto (f := laws_eqByteA6.b0 a a) (fun i => (i : Int)) 6 6 (by omega) (fun i hi => by
    unfold laws_eqByteA6.b0
    simp only [lt6, hi, decide_true, cond_true]
    rw [chk_in (by omega), w64_succ (by omega)]
    simp) (by
    unfold laws_eqByteA6.b0
    rfl)
  have hl' : loop (laws_eqByteA6.b0 a a) 0 = _ := hl
  rw [hl']; rfl
theorem eqA66 (a : Nat → UInt8) : laws_eqByteA6A6.f a a = some true := by
  unfold laws_eqByteA6A6.f
  have hl := loop_upto (f := laws_eqByteA6A6.b0 a a) (fun i => (i : Int)) 6 6 (by omega) (fun i hi => by
    unfold laws_eqByteA6A6.b0
    simp only [lt6, hi, decide_true, cond_true]
    rw [chk_in (by omega), eqA6, w64_succ (by omega)]
    rfl) (by
    unfold laws_eqByteA6A6.b0
    rfl)
  have hl' : loop (laws_eqByteA6A6.b0 a a) 0 = _ := hl
  rw [hl']; rfl
theorem eqA666 (a : Nat → UInt8) : laws_eqByteA6A6A6.f a a = some true := by
  unfold laws_eqByteA6A6A6.f
  have hl := loop_upto (f := laws_eqByteA6A6A6.b0 a a) (fun i => (i : Int)) 6 6 (by omega) (fun i hi => by
    unfold laws_eqByteA6A6A6.b0
    simp only [lt6, hi, decide_true, cond_true]
    rw [chk_in (by omega), eqA66, w64_succ (by omega)]
    rfl) (by
    unfold laws_eqByteA6A6A6.b0
    rfl)
  have hl' : loop (laws_eqByteA6A6A6.b0 a a) 0 = _ := hl
  rw [hl']; rfl
theorem eqV (a : Nat → UInt8) : laws_eqVector.f a a = some true := by
  unfold laws_eqVector.f
  have hl := loop_upto (f := laws_eqVector.b0 a a) (fun i => (i : Int)) 6 6 (by omega) (fun i hi => by
    unfold laws_eqVector.b0
    simp only [lt6, hi, decide_true, cond_true]
    rw [chk_in (by omega), w64_succ (by omega)]
    simp) (by
    unfold laws_eqVector.b0
    rfl)
  have hl' : loop (laws_eqVector.b0 a a) 0 = _ := hl
  rw [hl']; rfl
theorem eqAlg (p n : Int) (t f : Nat → UInt8) : laws_eqAlgebra.f p n t f p n t f = some true := by
  unfold laws_eqAlgebra.f
  simp only [bne_self_eq_false, cond_false, eqA666, eqV, Option.bind_some, Bool.not_true]
end Go.Proofs.Ytcombgcjgdkbiaa.G

/- Slices of numbers that come in: how large they are, and their copies. -/
namespace Go.Proofs.Ytcombgcjgdkbiaa.G
open Go Go.Sx Go.Proofs
theorem toS (a : List Int) (h : a.length ≤ 1048576) : laws_toInt64S.f a = some a := by
  unfold laws_toInt64S.f
  rw [small_in (by omega), Int.toNat_natCast]
  have hl := loop1_upto (f := laws_toInt64S.b0 a) (fun i => (a.take i ++ List.replicate (a.length - i) 0, (i : Int))) a.length (a, (a.length : Int)) (by omega) (fun i hi => by
    unfold laws_toInt64S.b0
    have e : (a.take i ++ List.replicate (a.length - i) (0 : Int)).length = a.length := by simp; omega
    simp only [dlt_nat, hi, decide_true, cond_true]
    rw [chk_in (by omega), e, chk_in (by omega), w64_succ (by omega), Int.toNat_natCast]
    have hg : gt a (i : Int) = a[i] := by simp [gt, List.getD, hi]
    have hm : (a.take i).length = i := by simp; omega
    have e2 : (a.take i ++ List.replicate (a.length - i) (0 : Int)).set i (gt a (i : Int)) = a.take (i + 1) ++ List.replicate (a.length - (i + 1)) 0 := by
      rw [hg, List.set_append_right _ _ (by omega), hm, Nat.sub_self, show a.length - i = (a.length - (i + 1)) + 1 by omega, List.replicate_succ, List.set_cons_zero, List.take_add_one, List.getElem?_eq_getElem hi]
      simp only [Option.toList_some, List.append_assoc, List.singleton_append]
    rw [e2]) (by
    unfold laws_toInt64S.b0
    simp)
  have hl' : loop1 (laws_toInt64S.b0 a) (List.replicate a.length 0, 0) = some (a, (a.length : Int)) := by simpa using hl
  rw [hl']; rfl
theorem szS (a : List Int) (l : Nat) (hl : l ≤ 1048576) (h : a.length ≤ 9223372036854775807) : (laws_szInt64S.f a l = some (-1) ∧ l < a.length) ∨ (laws_szInt64S.f a l = some ((l - a.length : Nat) : Int) ∧ a.length ≤ l) := by
  unfold laws_szInt64S.f
  rw [w64_in (by omega)]
  by_cases hc : a.length ≤ l
  · right
    have : decide (((l : Int) - (a.length : Int)) < 0) = false := by simp; omega
    rw [this]
    exact ⟨by rw [cond_false]; congr 1; omega, hc⟩
  · left
    have : decide (((l : Int) - (a.length : Int)) < 0) = true := by simp; omega
    rw [this]
    exact ⟨rfl, by omega⟩
end Go.Proofs.Ytcombgcjgdkbiaa.G

/- Slices of numbers: the same as themselves; marked, and held. -/
namespace Go.Proofs.Ytcombgcjgdkbiaa.G
open Go Go.Sx Go.Proofs
theorem eqS_refl (a : List Int) (h : a.length < 1000000000000) : laws_eqInt64S.f a a = some true := by
  unfold laws_eqInt64S.f
  have e : (((a.length : Nat) : Int) != (a.length : Int)) = false := by simp
  rw [e, cond_false]
  have hl := loop_upto (f := laws_eqInt64S.b0 a a) (fun i => (i : Int)) a.length (a.length : Int) (by omega) (fun i hi => by
    unfold laws_eqInt64S.b0
    simp only [dlt_nat, hi, decide_true, cond_true]
    rw [chk_in (by omega), chk_in (by omega), w64_succ (by omega)]
    simp) (by
    unfold laws_eqInt64S.b0
    simp)
  have hl' : loop (laws_eqInt64S.b0 a a) 0 = some (.brk (a.length : Int)) := hl
  rw [hl']; rfl
/-- So many numbers from k on. -/
def iota (k n : Nat) : List Int := (List.range n).map fun i => ((k + i : Nat) : Int)
theorem iota_length (k n : Nat) : (iota k n).length = n := by simp [iota]
theorem iota_gt {k n i : Nat} (h : i < n) : gt (iota k n) (i : Int) = ((k + i : Nat) : Int) := by simp [gt, iota, List.getD, h]
theorem markS (a : List Int) (k : Nat) (h : k + a.length < 1000000000000) : laws_markInt64S.f a k = some (((k + a.length : Nat) : Int), iota k a.length) := by
  unfold laws_markInt64S.f
  have hl := loop1_upto (f := laws_markInt64S.b0) (fun i => (iota k i ++ a.drop i, ((k + i : Nat) : Int), (i : Int))) a.length (iota k a.length, ((k + a.length : Nat) : Int), (a.length : Int)) (by omega) (fun i hi => by
    unfold laws_markInt64S.b0
    have e : (iota k i ++ a.drop i).length = a.length := by rw [List.length_append, iota_length, List.length_drop]; omega
    simp only [e, dlt_nat, hi, decide_true, cond_true]
    rw [chk_in (by omega), w64_succ (by omega), w64_succ (by omega), Int.toNat_natCast]
    have e2 : (iota k i ++ a.drop i).set i ((k + i : Nat) : Int) = iota k (i + 1) ++ a.drop (i + 1) := by
      rw [List.set_append_right _ _ (by rw [iota_length]; exact Nat.le_refl _), iota_length, Nat.sub_self]
      have h3 : a.drop i = a[i] :: a.drop (i + 1) := by rw [List.getElem_cons_drop]
      rw [h3, List.set_cons_zero]
      unfold iota
      rw [List.range_succ, List.map_append]
      simp
    rw [e2]
    rfl) (by
    unfold laws_markInt64S.b0
    simp [iota_length])
  have hl' : loop1 laws_markInt64S.b0 (a, (k : Int), 0) = some (iota k a.length, ((k + a.length : Nat) : Int), (a.length : Int)) := hl
  rw [hl']; rfl
theorem heldS (k n : Nat) (h : k + n < 1000000000000) : laws_heldInt64S.f (iota k n) k = some ((k + n : Nat) : Int) := by
  unfold laws_heldInt64S.f
  have hl := loop_upto (f := laws_heldInt64S.b0 (iota k n)) (fun i => (((k + i : Nat) : Int), (i : Int))) n (((k + n : Nat) : Int), (n : Int)) (by omega) (fun i hi => by
    unfold laws_heldInt64S.b0
    simp only [iota_length, dlt_nat, hi, decide_true, cond_true]
    rw [chk_in (by omega), iota_gt hi, w64_succ (by omega), w64_succ (by omega)]
    simp
    rfl) (by
    unfold laws_heldInt64S.b0
    simp [iota_length])
  have hl' : loop (laws_heldInt64S.b0 (iota k n)) ((k : Int), 0) = some (.brk (((k + n : Nat) : Int), (n : Int))) := hl
  rw [hl']; rfl
end Go.Proofs.Ytcombgcjgdkbiaa.G

/- The law of PolynomialAlgebra tells true. -/
namespace Go.Proofs.Ytcombgcjgdkbiaa.G
open Go Go.Sx Go.Proofs
theorem implPolyOk (p : Int) (l : List Int) (h : l.length ≤ 1048576) : impl_polynomialOk.f p l = some (polyB p l) := by
  unfold impl_polynomialOk.f impl_in.f
  rw [implPrime]
  unfold polyB
  simp only [Option.bind_some]
  cases hp : primeB p with
  | false => rfl
  | true =>
    have hpb := primeB_le hp
    simp only [cond_true, Option.bind_some, Bool.true_and]
    cases hl : (decide ((l.length : Int) ≥ 1) && decide ((l.length : Int) ≤ 6)) with
    | false => rfl
    | true =>
      simp only [cond_true, Bool.true_and]
      rw [hasInts l (by omega) _ (fun x => !digB p x) (fun x _ => by
        unfold impl_polynomialOk_1.f impl_in.f digB
        rw [w64_in (x := p - 1) (by omega)]
        rfl), any_neg]
      simp
theorem pa_same (p : Int) (l : List Int) (h : l.length ≤ 1048576) : ∃ a b c d e, spec_PolynomialAlgebra.f p l = some (a, b, c, d, e) ∧ impl_PolynomialAlgebra.f p l = some (a, b, c, d, e) := by
  unfold spec_PolynomialAlgebra.f impl_PolynomialAlgebra.f
  rw [specPoly p l h, implPolyOk p l h]
  simp only [Option.bind_some]
  cases hpo : polyB p l with
  | false => exact ⟨_, _, _, _, _, rfl, rfl⟩
  | true =>
    obtain ⟨hp, l1, l2, hd⟩ := poly_dig hpo
    have ez : ((0 : Int) != 0) = false := rfl
    have w2 : w64 ((l.length : Int) - 1) = ((l.length - 1 : Nat) : Int) := by rw [w64_in (by omega)]; omega
    have g0 : (fun _ => (0 : UInt8)) = GG l.length (PW p l) 0 0 0 := by
      funext k; unfold GG; rw [if_neg (by omega)]
    have a1 := implAllG hp l1 l2 hd
    have a2 := specAllG hp l1 l2 hd
    rw [← g0] at a1 a2
    simp only [Bool.not_true, cond_false, if_pos, ez]
    unfold spec_l09Algebra.f
    rw [w2, chk_in (by omega), small_in (by omega), chk_in (by simp; omega), chk_in (by omega), small_in (by omega), chk_in (by simp; omega), start1 (p := p) l1, a1, a2]
    exact ⟨_, _, _, _, _, rfl, rfl⟩
theorem plain_FnExactPolynomialAlgebra (p : Int) (l : List Int) (_wp : IntKind.i64.has p) (_w : ∀ x ∈ l, IntKind.i64.has x) (_z : l.length * 8 ≤ 140737488351232) : laws_FnExactPolynomialAlgebra.f p l = some true := by
  unfold laws_FnExactPolynomialAlgebra.f
  by_cases hl : (l.length : Int) > 1048576
  · rw [decide_eq_true hl]; rfl
  · rw [decide_eq_false hl, cond_false]
    have hl' : l.length ≤ 1048576 := by omega
    obtain ⟨a, b, c, d, e, e1, e2⟩ := pa_same p l hl'
    have b1 := eqS_refl l (by omega)
    simp only [toS l hl', Option.bind_some, e1, e2, b1, eqAlg]
    simp
end Go.Proofs.Ytcombgcjgdkbiaa.G

/- Arg: a law's arguments, as they come in, in the calculus' own words. -/
namespace Go.Sx
open Go.RowKit

theorem okWide_agg {P : Program} {W : World} {r : Reach} {base : Nat} {t : TypeId} {v : Value} {ts : List TypeId} (ht : (match P.underlying t with | some (.struct _) | some (.array _ _) => true | _ => false) = true) (hts : P.cellTypes P.depth t = some ts) (h : Value.okWide P W r base t v) :
    ∃ cs, v = .agg cs ∧ cs.size = P.cellsOf t ∧ ∀ i u, cs[i]? = some u → ∃ k, ts[i % ts.length]? = some k ∧ Cell.okWide P W r base k u := by
  unfold Value.okWide at h
  split at h
  · obtain ⟨cs, h1, h2, ts', h3, _, h4⟩ := h
    rw [hts] at h3; obtain rfl := Option.some.inj h3
    exact ⟨cs, h1, h2, h4⟩
  · obtain ⟨cs, h1, h2, ts', h3, _, h4⟩ := h
    rw [hts] at h3; obtain rfl := Option.some.inj h3
    exact ⟨cs, h1, h2, h4⟩
  · rename_i h1 h2
    exfalso
    split at ht
    · exact h1 _ ‹_›
    · exact h2 _ _ ‹_›
    · cases ht

theorem okWide_int {P : Program} {W : World} {r : Reach} {base : Nat} {t : TypeId} {k : IntKind} {v : Value} (ht : P.underlying t = some (.int k)) (h : Cell.okWide P W r base t v) : ∃ n, v = .int k n ∧ k.has n := by
  unfold Cell.okWide at h
  rw [ht] at h
  unfold Cell.ok at h
  rw [ht] at h
  cases v <;> simp at h
  rename_i k' n
  obtain ⟨rfl, h2⟩ := h
  exact ⟨n, rfl, h2⟩

theorem u8block (cs : Array Value) (o m : Nat) (h : ∀ i, o ≤ i → i < o + m → ∃ n, cs[i]? = some (.int .u8 n) ∧ IntKind.u8.has n) : ∃ t : Nat → UInt8, (cs.toList.drop o).take m = flat [.arr m (enf u8v t)] := by
  refine ⟨fun k => match cs[o + k]? with | some (.int _ n) => UInt8.ofInt n | _ => 0, ?_⟩
  apply List.ext_getElem?
  intro i
  simp only [flat, Seg.cells, List.append_nil, List.getElem?_take, List.getElem?_drop, List.getElem?_map]
  by_cases hi : i < m
  · obtain ⟨n, hn, hw⟩ := h (o + i) (by omega) (by omega)
    have hn' : cs.toList[o + i]? = some (.int .u8 n) := by simpa using hn
    rw [if_pos hi, List.getElem?_range hi, hn']
    simp only [Option.map_some, enf, hn]
    congr 1
    rw [← conv_i64_u8]
    congr 1
    have hw' : 0 ≤ n ∧ n ≤ 255 := by
      simp only [IntKind.has, IntKind.min, IntKind.max, IntKind.signed, IntKind.bits] at hw
      simpa using hw
    rw [IntKind.wrap_u8]; omega
  · rw [if_neg hi]
    simp [hi]

theorem okWideV_int {P : Program} {W : World} {r : Reach} {base : Nat} {t : TypeId} {k : IntKind} {v : Value} (ht : P.underlying t = some (.int k)) (h : Value.okWide P W r base t v) : ∃ n, v = .int k n ∧ k.has n := by
  unfold Value.okWide at h
  rw [ht] at h
  exact okWide_int ht h
theorem okWideV_string {P : Program} {W : World} {r : Reach} {base : Nat} {t : TypeId} {v : Value} (ht : P.underlying t = some .string) (h : Value.okWide P W r base t v) : ∃ l : Str, v = strv l := by
  unfold Value.okWide at h
  rw [ht] at h
  simp only at h
  unfold Cell.okWide at h
  rw [ht] at h
  unfold Cell.ok at h
  rw [ht] at h
  cases v <;> simp at h
  rename_i s
  exact ⟨s.data.toList, by simp [strv]⟩
theorem i64cell (cs : Array Value) (o : Nat) (ho : o < cs.size) (h : ∀ u, cs[o]? = some u → ∃ n, u = .int .i64 n ∧ IntKind.i64.has n) : ∃ x, (cs.toList.drop o).take 1 = flat [.one (.int .i64 x)] ∧ IntKind.i64.has x := by
  obtain ⟨n, hn, hw⟩ := h cs[o] (by simp [ho])
  refine ⟨n, ?_, hw⟩
  have hl : o < cs.toList.length := by simpa using ho
  rw [List.drop_eq_getElem_cons hl, List.take_succ_cons, List.take_zero]
  simp [flat, Seg.cells, hn]
def pieces (l : List Value) : Nat → List Nat → List Value
  | _, [] => []
  | o, m :: r => (l.drop o).take m ++ pieces l (o + m) r
theorem pieces_eq (l : List Value) : ∀ (ns : List Nat) (o : Nat), l.length = o + ns.sum → pieces l o ns = l.drop o
  | [], o, h => by
    simp only [List.sum_nil, Nat.add_zero] at h
    simp [pieces, h]
  | m :: r, o, h => by
    simp only [List.sum_cons] at h
    rw [pieces, pieces_eq l r (o + m) (by omega), ← List.drop_drop, List.take_append_drop]

theorem encs_ints (ys : List Int) : encs Ei ys = ys.map (Value.int .i64) := by
  induction ys with
  | nil => rfl
  | cons y ys ih => simp only [encs, List.flatMap_cons, List.map_cons] at ih ⊢; rw [ih]; rfl
theorem okWideV_slice {P : Program} {W : World} {r : Reach} {base : Nat} {t e : TypeId} {v : Value} (ht : P.underlying t = some (.slice e)) (h : Value.okWide P W r base t v) : ∃ a n c, v = .slice a n c := by
  unfold Value.okWide at h
  rw [ht] at h
  simp only at h
  unfold Cell.okWide at h
  rw [ht] at h
  simp only at h
  unfold Cell.ok at h
  rw [ht] at h
  cases v <;> simp at h
  exact ⟨_, _, _, rfl⟩
/-- A slice of whole numbers that comes in. -/
theorem okWideV_ints {H : Type} {r : Reach} {base : Nat} {enc : TypeId × Value → H} {P : Program} {W : World} {sp : Nat → Bool} {held : Bool} {t e : TypeId} {v : Value} {d : DataW H} {p : List MemPlace} (ht : P.underlying t = some (.slice e)) (he : P.underlying e = some (.int .i64)) (hc : P.cellsOf e = 1)
    (hv : Value.okWide P W r base t v) (h : DataW.Trod enc P W 0 sp held t v d p) : ∃ (s : SV) (ys : List Int) (el spare : List (DataW H)), v = s.v ∧ Reads Ei (hp W) s ys ∧ (∀ x ∈ ys, IntKind.i64.has x) ∧ ((d = .nil ∧ ys = []) ∨ (d = .slice el spare ∧ ys.length = el.length + 0)) := by
  obtain ⟨m, hm⟩ := h
  obtain ⟨a1, n1, c1, rfl⟩ := okWideV_slice ht hv
  have hcl : (Value.slice a1 n1 c1).cells.toList = [Value.slice a1 n1 c1] := rfl
  rw [hcl] at hm
  rcases ChangeShapes.open_ints ht he hc hm with ⟨h1, h2⟩ | ⟨a, len, cap, zs, h1, _, h3, h4, h5, h6, h7, h8⟩
  · injection h1 with h1
    injection h2 with h2
    exact ⟨⟨none, 0, 0⟩, [], [], [], h1, ⟨rfl, Nat.le_refl _, by simp [maxLen], .inl rfl⟩, by simp, .inl ⟨h2, rfl⟩⟩
  · injection h1 with h1
    injection h6 with h6
    have hlen : len ≤ zs.length := by rw [h5]; split <;> omega
    refine ⟨⟨some a, len, cap⟩, zs.take len, _, _, h1, ⟨by simp; omega, h3, h4, ?_⟩, ?_, .inr ⟨h6, by simp [ChangeShapes.lits]⟩⟩
    · by_cases hl : len = 0
      · left; subst hl; simp
      · right
        have h0 := h7 0 (by omega)
        obtain ⟨b, o, sp'⟩ := a
        have e0 : (⟨b, o, sp'⟩ : Addr).add 0 = ⟨b, o, sp'⟩ := by simp [Addr.add]
        rw [e0] at h0
        unfold World.cell? at h0
        split at h0
        · rename_i cs T fr hb
          have hsp : sp' = none := by
            cases sp' with
            | none => rfl
            | some x => simp at h0
          subst hsp
          refine ⟨b, o, cs, T, fr, rfl, hb, ?_⟩
          intro j u hu
          rw [encs_ints, List.getElem?_map, List.getElem?_take] at hu
          split at hu
          · rename_i hj
            have hz := h7 j (by omega)
            rw [add_none, cell_at hb] at hz
            rw [hz, ← hu]
            have : zs[j]? = some (zs[j]'(by omega)) := List.getElem?_eq_getElem _
            simp [List.getD, this]
          · simp at hu
        · cases h0
    · intro x hx
      have := h8 x (List.mem_of_mem_take hx)
      simp only [Lit.wf, Bool.and_eq_true, decide_eq_true_eq] at this
      exact this

theorem reads_of {β : Type} {E : FE β} {W : World} {a : Addr} {n cap : Nat} {ys : List β} (hn : n = ys.length) (hpos : 0 < E.sz) (hc : ∀ (j : Nat) (u : Value), (encs E ys)[j]? = some u → W.cell? (a.add j) = some u) (h1 : n ≤ cap) (h2 : cap ≤ maxLen) : Reads E (hp W) ⟨some a, n, cap⟩ ys := by
  subst hn
  refine ⟨rfl, h1, h2, ?_⟩
  cases ys with
  | nil => exact .inl rfl
  | cons y ys =>
    right
    have hl : 0 < (encs E (y :: ys)).length := by rw [encs_length, List.length_cons, Nat.add_mul]; omega
    have h0 := hc 0 _ (List.getElem?_eq_getElem hl)
    obtain ⟨b, o, sp'⟩ := a
    have e0 : (⟨b, o, sp'⟩ : Addr).add 0 = ⟨b, o, sp'⟩ := by simp [Addr.add]
    rw [e0] at h0
    unfold World.cell? at h0
    split at h0
    · rename_i cs T fr hb
      have hsp : sp' = none := by
        cases sp' with
        | none => rfl
        | some x => simp at h0
      subst hsp
      refine ⟨b, o, cs, T, fr, rfl, hb, ?_⟩
      intro j u hu
      have := hc j u hu
      rwa [add_none, cell_at hb] at this
    · cases h0
theorem encs_svs (ys : List SV) : encs Ev ys = ys.map SV.v := by
  induction ys with
  | nil => rfl
  | cons y ys ih => simp only [encs, List.flatMap_cons, List.map_cons] at ih ⊢; rw [ih]; rfl
theorem Reads.len_le {β : Type} {E : FE β} {I : Hp} {s : SV} {ys : List β} (h : Reads E I s ys) : ys.length ≤ 9223372036854775807 := by
  obtain ⟨h0, h1, h2, _⟩ := h
  have : maxLen = 9223372036854775807 := rfl
  omega
/-- A slice of slices of whole numbers that comes in. -/
theorem okWideV_introws {H : Type} {r : Reach} {base : Nat} {enc : TypeId × Value → H} {P : Program} {W : World} {held : Bool} {t e q : TypeId} {v : Value} {d : DataW H} {p : List MemPlace} (ht : P.underlying t = some (.slice e)) (he : P.underlying e = some (.slice q)) (hq : P.underlying q = some (.int .i64)) (ce : P.cellsOf e = 1) (cq : P.cellsOf q = 1)
    (hv : Value.okWide P W r base t v) (h : DataW.Trod enc P W 0 (fun _ => true) held t v d p) : ∃ (s : SV) (ss : List SV) (yss : List (List Int)), v = s.v ∧ ReadsM Ei (hp W) s ss yss ∧ (∀ r ∈ yss, ∀ x ∈ r, IntKind.i64.has x) ∧ (∀ r ∈ yss, r.length ≤ 9223372036854775807) ∧ yss.length ≤ 9223372036854775807 := by
  obtain ⟨m, hm⟩ := h
  obtain ⟨a1, n1, c1, rfl⟩ := okWideV_slice ht hv
  have hcl : (Value.slice a1 n1 c1).cells.toList = [Value.slice a1 n1 c1] := rfl
  rw [hcl] at hm
  rcases Deep.open_int_rows ht he hq ce cq hm with ⟨h1, h2⟩ | ⟨a, len, cap, A, L, C, Z, h1, _, h3, h4, _, h5⟩
  · injection h1 with h1
    exact ⟨⟨none, 0, 0⟩, [], [], h1, ⟨⟨rfl, Nat.le_refl _, by simp [maxLen], .inl rfl⟩, rfl, by simp⟩, by simp, by simp, by simp⟩
  · injection h1 with h1
    have key : ∀ r, r < len → Reads Ei (hp W) ⟨A r, L r, C r⟩ ((Z r).take (L r)) := by
      intro r hr
      obtain ⟨g1, g2, g3, g4, g5, g6, g7⟩ := h5 r (by omega)
      cases hA : A r with
      | none =>
        have := g6 hA
        have hL : L r = 0 := by omega
        rw [hL]
        exact ⟨rfl, Nat.zero_le _, g3, .inl rfl⟩
      | some a' =>
        refine reads_of (by simp; omega) (by decide) ?_ g2 g3
        intro j u hu
        rw [encs_ints, List.getElem?_map, List.getElem?_take] at hu
        split at hu
        · rename_i hj
          have hz := (g7 a' hA).2 j (by omega)
          rw [hz, ← hu]
          have : (Z r)[j]? = some ((Z r)[j]'(by omega)) := List.getElem?_eq_getElem _
          simp [List.getD, this]
        · simp at hu
    have hM : ReadsM Ei (hp W) ⟨some a, len, cap⟩ ((List.range len).map fun r => ⟨A r, L r, C r⟩) ((List.range len).map fun r => (Z r).take (L r)) := by
      refine ⟨reads_of (by simp) (by decide) ?_ h3 h4, by simp, ?_⟩
      · intro j u hu
        rw [encs_svs, List.map_map, List.getElem?_map] at hu
        by_cases hj : j < len
        · rw [List.getElem?_range hj] at hu
          have := (h5 j (by omega)).1
          rw [this, ← hu]; rfl
        · simp [hj] at hu
      · intro j u ys h1 h2
        by_cases hj : j < len
        · rw [List.getElem?_map, List.getElem?_range hj] at h1 h2
          obtain rfl := Option.some.inj h1
          obtain rfl := Option.some.inj h2
          exact key j hj
        · simp [hj] at h1
    refine ⟨⟨some a, len, cap⟩, _, _, h1, hM, ?_, ?_, hM.2.1 ▸ hM.1.len_le⟩
    · intro r hr x hx
      obtain ⟨i, hi, rfl⟩ := List.mem_map.1 hr
      have := (h5 i (by have := List.mem_range.1 hi; omega)).2.2.2.2.1 x (List.mem_of_mem_take hx)
      simp only [Lit.wf, Bool.and_eq_true, decide_eq_true_eq] at this
      exact this
    · intro r hr
      obtain ⟨i, hi, rfl⟩ := List.mem_map.1 hr
      exact (key i (List.mem_range.1 hi)).len_le

theorem mapM_get {α β : Type} {f : α → Option β} : ∀ {l : List α} {xs : List β}, l.mapM f = some xs → ∀ {i : Nat} {a : α}, l[i]? = some a → ∃ y, f a = some y
  | [], _, _, _, _, h => by simp at h
  | a :: l, xs, hm, i, b, h => by
    rw [List.mapM_cons] at hm
    obtain ⟨y, hy, h2⟩ := Option.bind_eq_some_iff.1 hm
    obtain ⟨ys, hys, _⟩ := Option.bind_eq_some_iff.1 h2
    cases i with
    | zero => simp at h; subst h; exact ⟨y, hy⟩
    | succ i => exact mapM_get hys (by simpa using h)
/-- A slice of whole numbers that is a field of a struct that comes in. -/
theorem structInts {H : Type} {enc : TypeId × Value → H} {P : Program} {W : World} {sp : Nat → Bool} {held : Bool} {t e : TypeId} {fs : Array Field} {f : Field} {cs : Array Value} {d : DataW H} {p : List MemPlace} (ht : P.underlying t = some (.struct fs)) (h : DataW.Trod enc P W 0 sp held t (.agg cs) d p) (i : Nat) (hf : fs[i]? = some f)
    (hu : P.underlying f.type = some (.slice e)) (he : P.underlying e = some (.int .i64)) (hc : P.cellsOf e = 1) (h1 : P.cellsOf f.type = 1) {o : Nat} (ho : f.offset = o) :
    ∃ (s : SV) (ys : List Int), (cs.toList.drop o).take 1 = flat [.one (SV.v s)] ∧ Reads Ei (hp W) s ys ∧ (∀ x ∈ ys, IntKind.i64.has x) := by
  obtain ⟨m, hm⟩ := h
  have hcl : (Value.agg cs).cells.toList = cs.toList := rfl
  rw [hcl] at hm
  cases m with
  | zero => simp [DataW.trod] at hm
  | succ m =>
    unfold DataW.trod at hm
    rw [ht] at hm
    simp only at hm
    split at hm
    · obtain ⟨xs, hxs, _⟩ := Option.map_eq_some_iff.1 hm
      obtain ⟨y, hy⟩ := mapM_get hxs (i := i) (a := f) (by simpa using hf)
      rw [h1, ho] at hy
      rcases ChangeShapes.open_ints hu he hc hy with ⟨g1, g2⟩ | ⟨a, len, cap, zs, g1, _, g3, g4, g5, g6, g7, g8⟩
      · exact ⟨⟨none, 0, 0⟩, [], by rw [g1]; rfl, ⟨rfl, Nat.le_refl _, by simp [maxLen], .inl rfl⟩, by simp⟩
      · have hlen : len ≤ zs.length := by rw [g5]; split <;> omega
        refine ⟨⟨some a, len, cap⟩, zs.take len, by rw [g1]; rfl, reads_of (by simp; omega) (by decide) ?_ g3 g4, ?_⟩
        · intro j u hu'
          rw [encs_ints, List.getElem?_map, List.getElem?_take] at hu'
          split at hu'
          · rename_i hj
            have hz := g7 j (by omega)
            rw [hz, ← hu']
            have : zs[j]? = some (zs[j]'(by omega)) := List.getElem?_eq_getElem _
            simp [List.getD, this]
          · simp at hu'
        · intro x hx
          have := g8 x (List.mem_of_mem_take hx)
          simp only [Lit.wf, Bool.and_eq_true, decide_eq_true_eq] at this
          exact this
    · cases hm
end Go.Sx
