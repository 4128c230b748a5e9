/- Plain laws. -/
import Derived.Test.YtiiljfpbcanphaaMIsAlgebra7
/- Pl: plain laws of the loops, and of whole numbers. -/
namespace Go.Sx

theorem loopN_mono {σ ρ : Type} {f : σ → Option (LR σ ρ)} : ∀ {k s o}, loopN f k s = some o → ∀ {k'}, k ≤ k' → loopN f k' s = some o
  | 0, _, _, h, _, _ => by cases h
  | k + 1, s, o, h, k', hk => by
    obtain ⟨j, rfl⟩ : ∃ j, k' = j + 1 := ⟨k' - 1, by omega⟩
    simp only [loopN] at h ⊢
    split at h
    · cases h
    · exact loopN_mono h (by omega)
    · exact h
    · exact h

theorem loop_run {σ ρ : Type} {f : σ → Option (LR σ ρ)} (Inv : σ → Prop) (m : σ → Nat) (Q : LO σ ρ → Prop)
    (h : ∀ s, Inv s → (∃ s', f s = some (.next s') ∧ Inv s' ∧ m s' < m s) ∨ (∃ s', f s = some (.brk s') ∧ Q (.brk s')) ∨ (∃ r, f s = some (.ret r) ∧ Q (.ret r)))
    (s : σ) (hs : Inv s) (hm : m s < 4611686018427387904) : ∃ o, loop f s = some o ∧ Q o := by
  have key : ∀ k s, Inv s → m s < k → ∃ o, loopN f k s = some o ∧ Q o := by
    intro k
    induction k with
    | zero => intro s _ h; omega
    | succ k ih =>
      intro s hs hm
      rcases h s hs with ⟨s', h1, h2, h3⟩ | ⟨s', h1, h2⟩ | ⟨r, h1, h2⟩
      · obtain ⟨o, ho, hq⟩ := ih s' h2 (by omega)
        exact ⟨o, by simp only [loopN, h1]; exact ho, hq⟩
      · exact ⟨_, by simp only [loopN, h1], h2⟩
      · exact ⟨_, by simp only [loopN, h1], h2⟩
  obtain ⟨o, ho, hq⟩ := key (m s + 1) s hs (by omega)
  exact ⟨o, loopN_mono ho (by unfold FUEL; omega), hq⟩

theorem loop1_of {σ : Type} {f : σ → Option (LB σ)} {s s' : σ} (h : loop (ρ := Empty) (fun s => (f s).map LB.lr) s = some (.brk s')) : loop1 f s = some s' := by
  unfold loop1; rw [h]

theorem loop1_run {σ : Type} {f : σ → Option (LB σ)} (Inv : σ → Prop) (m : σ → Nat) (Q : σ → Prop)
    (h : ∀ s, Inv s → (∃ s', f s = some (.next s') ∧ Inv s' ∧ m s' < m s) ∨ (∃ s', f s = some (.brk s') ∧ Q s'))
    (s : σ) (hs : Inv s) (hm : m s < 4611686018427387904) : ∃ o, loop1 f s = some o ∧ Q o := by
  obtain ⟨o, ho, hq⟩ := loop_run (ρ := Empty) (f := fun s => (f s).map LB.lr) Inv m (fun o => match o with | .brk s => Q s | .ret r => nomatch r) (by
    intro s hs
    rcases h s hs with ⟨s', h1, h2, h3⟩ | ⟨s', h1, h2⟩
    · exact .inl ⟨s', by rw [h1]; rfl, h2, h3⟩
    · exact .inr (.inl ⟨s', by rw [h1]; rfl, h2⟩)) s hs hm
  cases o with
  | brk s' => exact ⟨s', loop1_of ho, hq⟩
  | ret r => exact nomatch r

theorem loop_of {σ ρ : Type} {f : σ → Option (LR σ ρ)} {s : σ} {o : LO σ ρ} {k : Nat} (h : loopN f k s = some o) (hk : k ≤ 4611686018427387904) : loop f s = some o :=
  loopN_mono h (by unfold FUEL; omega)

/-- A loop that counts up to n, and leaves by its end. -/
theorem loop_upto {σ ρ : Type} {f : σ → Option (LR σ ρ)} (S : Nat → σ) (n : Nat) (b : σ) (hn : n < 4611686018427387904) (step : ∀ i, i < n → f (S i) = some (.next (S (i + 1)))) (fin : f (S n) = some (.brk b)) : loop f (S 0) = some (.brk b) := by
  have key : ∀ d i, i + d = n → loopN f (d + 1) (S i) = some (.brk b) := by
    intro d
    induction d with
    | zero => intro i hi; obtain rfl : i = n := by omega
              simp only [loopN, fin]
    | succ d ih => intro i hi; rw [loopN, step i (by omega)]; exact ih (i + 1) (by omega)
  exact loop_of (key n 0 (by omega)) (by omega)
theorem loop1_upto {σ : Type} {f : σ → Option (LB σ)} (S : Nat → σ) (n : Nat) (b : σ) (hn : n < 4611686018427387904) (step : ∀ i, i < n → f (S i) = some (.next (S (i + 1)))) (fin : f (S n) = some (.brk b)) : loop1 f (S 0) = some b :=
  loop1_of (loop_upto (ρ := Empty) (f := fun s => (f s).map LB.lr) S n b hn (fun i hi => by rw [step i hi]; rfl) (by rw [fin]; rfl))

/-- A loop that counts up to n and looks for something. -/
theorem loop_find {σ ρ : Type} {f : σ → Option (LR σ ρ)} (S : Nat → σ) (n : Nat) (bad : Nat → Bool) (r : Nat → ρ) (b : σ) (hn : n < 4611686018427387904)
    (step : ∀ i, i < n → f (S i) = some (bif bad i then .ret (r i) else .next (S (i + 1)))) (fin : f (S n) = some (.brk b)) :
    loop f (S 0) = some (match (List.range n).find? bad with | some i => .ret (r i) | none => .brk b) := by
  have key : ∀ d i, i + d = n → loopN f (d + 1) (S i) = some (match (List.range' i d).find? bad with | some i => .ret (r i) | none => .brk b) := by
    intro d
    induction d with
    | zero => intro i hi; obtain rfl : i = n := by omega
              simp only [loopN, fin]; rfl
    | succ d ih =>
      intro i hi
      rw [loopN, step i (by omega), List.range'_succ, List.find?_cons]
      cases hb : bad i with
      | true => rfl
      | false => exact ih (i + 1) (by omega)
  rw [List.range_eq_range']
  exact loop_of (key n 0 (by omega)) (by omega)
theorem loop_any {σ ρ : Type} {f : σ → Option (LR σ ρ)} (S : Nat → σ) (n : Nat) (bad : Nat → Bool) (r : ρ) (b : σ) (hn : n < 4611686018427387904)
    (step : ∀ i, i < n → f (S i) = some (bif bad i then .ret r else .next (S (i + 1)))) (fin : f (S n) = some (.brk b)) :
    loop f (S 0) = some (bif (List.range n).any bad then .ret r else .brk b) := by
  rw [loop_find S n bad (fun _ => r) b hn step fin]
  cases hf : (List.range n).find? bad with
  | none =>
    have : (List.range n).any bad = false := by
      rw [List.any_eq_false]; intro x hx; have := List.find?_eq_none.1 hf x hx; simpa using this
    rw [this]; rfl
  | some i =>
    have : (List.range n).any bad = true := List.any_eq_true.2 ⟨i, List.mem_of_find?_eq_some hf, List.find?_some hf⟩
    rw [this]; rfl

theorem w64_in {x : Int} (h : -9223372036854775808 ≤ x ∧ x ≤ 9223372036854775807) : w64 x = x := IntWalk.i64_in x h
theorem w64_succ {i : Nat} (h : i < 4611686018427387904) : w64 ((i : Int) + 1) = ((i + 1 : Nat) : Int) := by rw [w64_in (by omega)]; omega
theorem w64_pred {i : Nat} (h : i < 4611686018427387904) : w64 (((i + 1 : Nat) : Int) - 1) = (i : Int) := by rw [w64_in (by omega)]; omega
theorem chk_in {α : Type} {i : Int} {n : Nat} {k : Option α} (h : 0 ≤ i ∧ i < n) : chk i n k = k := if_pos h
theorem nz_in {α : Type} {b : Int} {k : Option α} (h : b ≠ 0) : nz b k = k := if_neg h
theorem small_in {α : Type} {n : Nat} {k : Option α} (h : n ≤ 1099511627776) : small n k = k := if_pos h
theorem dlt_nat (i n : Nat) : decide ((i : Int) < (n : Int)) = decide (i < n) := by simp
theorem beq_nat (a b : Nat) : ((a : Int) == (b : Int)) = decide (a = b) := by rw [Bool.eq_iff_iff]; simp; omega
theorem beq_nat0 (a : Nat) : ((a : Int) == 0) = decide (a = 0) := by rw [Bool.eq_iff_iff]; simp
theorem bne_nat (a b : Nat) : ((a : Int) != (b : Int)) = !decide (a = b) := by rw [bne, beq_nat]
theorem bne_nat0 (a : Nat) : ((a : Int) != 0) = !decide (a = 0) := by rw [bne, beq_nat0]
theorem any_congr {n : Nat} {p q : Nat → Bool} (h : ∀ i, i < n → p i = q i) : (List.range n).any p = (List.range n).any q := by
  rw [Bool.eq_iff_iff]
  simp only [List.any_eq_true, List.mem_range]
  constructor
  · rintro ⟨i, hi, hp⟩; exact ⟨i, hi, by rw [← h i hi]; exact hp⟩
  · rintro ⟨i, hi, hp⟩; exact ⟨i, hi, by rw [h i hi]; exact hp⟩
end Go.Sx

/- Slices of numbers that are searched. -/
namespace Go.Proofs.Ytiiljfpbcanphaa.G
open Go Go.Sx Go.Proofs
theorem gt_ix {α : Type} [Inhabited α] {a : List α} {i : Nat} (h : i < a.length) : gt a (i : Int) = a[i] := by simp [gt, List.getD, h]
theorem any_ix {α : Type} [Inhabited α] (a : List α) (p : α → Bool) : (List.range a.length).any (fun (i : Nat) => p (gt a (i : Int))) = a.any p := by
  rw [Bool.eq_iff_iff, List.any_eq_true, List.any_eq_true]
  constructor
  · rintro ⟨i, hi, h⟩
    have hi' := List.mem_range.1 hi
    exact ⟨a[i], List.getElem_mem _, by rwa [gt_ix hi'] at h⟩
  · rintro ⟨x, hx, h⟩
    obtain ⟨i, hi, rfl⟩ := List.mem_iff_getElem.1 hx
    exact ⟨i, List.mem_range.2 hi, by rw [gt_ix hi]; exact h⟩
theorem found {n : Nat} (p : Nat → Bool) (b : Int) : (((some (match (List.range n).find? p with | some i => LO.ret ((i : Nat) : Int) | none => LO.brk b) : Option (LO Int Int)).bind (ln fun _ => some (-1))).bind fun r_1 => some (decide (r_1 ≥ 0))) = some ((List.range n).any p) := by
  cases hfd : (List.range n).find? p with
  | none =>
    have : (List.range n).any p = false := by
      rw [List.any_eq_false]; intro x hx; have := List.find?_eq_none.1 hfd x hx; simpa using this
    rw [this]; rfl
  | some i =>
    have : (List.range n).any p = true := List.any_eq_true.2 ⟨i, List.mem_of_find?_eq_some hfd, List.find?_some hfd⟩
    rw [this]
    have hd : decide ((i : Int) ≥ 0) = true := by simp
    simp only [Option.bind_some, ln, hd]
theorem hasVal (a : List Int) (h : a.length < 1000000) (v : Int) : slices_Contains_int64_int64.f a v = some (a.any fun x => v == x) := by
  unfold slices_Contains_int64_int64.f slices_Index_int64_int64.f
  have hl := loop_find (f := slices_Index_int64_int64.b0 a v) (fun i => (i : Int)) a.length (fun (i : Nat) => v == gt a (i : Int)) (fun i => (i : Int)) (a.length : Int) (by omega) (fun i hi => by
    unfold slices_Index_int64_int64.b0
    simp only [dlt_nat, hi, decide_true, cond_true]
    rw [chk_in (by omega), w64_succ (by omega)]
    cases v == gt a (i : Int) <;> rfl) (by
    unfold slices_Index_int64_int64.b0
    simp)
  have hl' : loop (slices_Index_int64_int64.b0 a v) 0 = _ := hl
  rw [hl', ← any_ix a (fun x => v == x)]
  exact found _ _
end Go.Proofs.Ytiiljfpbcanphaa.G

/- The primes that are allowed, told by both. -/
namespace Go.Proofs.Ytiiljfpbcanphaa.G
open Go Go.Sx Go.Proofs
def primeB (p : Int) : Bool := ((((((p == 2) || (p == 3)) || (p == 5)) || (p == 7)) || (p == 11)) || (p == 13))
theorem specPrime (p : Int) : spec_l01Prime.f p = some (primeB p) := rfl
theorem implPrime (p : Int) : impl_isPrime.f p = some (primeB p) := by
  unfold impl_isPrime.f
  rw [hasVal _ (by simp)]
  simp only [Option.bind_some, List.any_cons, List.any_nil, Bool.or_false, primeB, Bool.or_assoc]
theorem primeB_le {p : Int} (h : primeB p = true) : 2 ≤ p ∧ p ≤ 13 := by
  unfold primeB at h
  simp only [Bool.or_eq_true, beq_iff_eq] at h
  omega
end Go.Proofs.Ytiiljfpbcanphaa.G

/- Inverses for the primes that are allowed, told by both. -/
namespace Go.Proofs.Ytiiljfpbcanphaa.G
open Go Go.Sx Go.Proofs
def ivn (p c : Nat) : Nat := ((List.range p).find? fun q => c * q % p == 1).getD 0
def primeN (p : Nat) : Bool := p == 2 || p == 3 || p == 5 || p == 7 || p == 11 || p == 13
set_option maxRecDepth 100000 in
theorem inv_tab : ∀ p : Fin 14, primeN p.val = true → ∀ c : Fin 14, 1 ≤ c.val → c.val < p.val → impl_inverse.f (c.val : Int) (p.val : Int) = some (ivn p.val c.val : Int) ∧ spec_l01Inverse.f (p.val : Int) (c.val : Int) = some (ivn p.val c.val : Int) := by decide +kernel
set_option maxRecDepth 100000 in
theorem inv_mul : ∀ p : Fin 14, primeN p.val = true → ∀ c : Fin 14, 1 ≤ c.val → c.val < p.val → ∀ d : Fin 14, 1 ≤ d.val → d.val < p.val → 1 ≤ c.val * d.val % p.val ∧ ∀ u : Fin 14, u.val < p.val → (u.val * ivn p.val c.val % p.val) * ivn p.val d.val % p.val = u.val * ivn p.val (c.val * d.val % p.val) % p.val := by decide +kernel
theorem prime_nat {p : Int} (h : primeB p = true) : ∃ q : Nat, p = (q : Int) ∧ primeN q = true ∧ 2 ≤ q ∧ q ≤ 13 := by
  have h1 := primeB_le h
  obtain ⟨q, rfl⟩ := Int.eq_ofNat_of_zero_le (show 0 ≤ p by omega)
  refine ⟨q, rfl, ?_, by omega, by omega⟩
  unfold primeB at h
  unfold primeN
  simp only [Bool.or_eq_true, beq_iff_eq] at h ⊢
  omega
theorem ivn_lt {p c : Nat} (hp : 2 ≤ p) : ivn p c < p := by
  unfold ivn
  cases h : (List.range p).find? (fun q => c * q % p == 1) with
  | none => simp only [Option.getD_none]; omega
  | some q => exact List.mem_range.1 (List.mem_of_find?_eq_some h)
theorem implInv {p c : Nat} (hp : primeN p = true) (h2 : p ≤ 13) (hc : 1 ≤ c) (hcp : c < p) : impl_inverse.f (c : Int) (p : Int) = some (ivn p c : Int) := (inv_tab ⟨p, by omega⟩ hp ⟨c, by omega⟩ hc hcp).1
theorem specInv {p c : Nat} (hp : primeN p = true) (h2 : p ≤ 13) (hc : 1 ≤ c) (hcp : c < p) : spec_l01Inverse.f (p : Int) (c : Int) = some (ivn p c : Int) := (inv_tab ⟨p, by omega⟩ hp ⟨c, by omega⟩ hc hcp).2
theorem invMul {p c d u : Nat} (hp : primeN p = true) (h2 : p ≤ 13) (hc : 1 ≤ c) (hcp : c < p) (hd : 1 ≤ d) (hdp : d < p) (hu : u < p) : 1 ≤ c * d % p ∧ (u * ivn p c % p) * ivn p d % p = u * ivn p (c * d % p) % p := by
  have := inv_mul ⟨p, by omega⟩ hp ⟨c, by omega⟩ hc hcp ⟨d, by omega⟩ hd hdp
  exact ⟨this.1, this.2 ⟨u, by omega⟩ hu⟩
theorem tmodN (a b : Nat) : Int.tmod (a : Int) (b : Int) = ((a % b : Nat) : Int) := by rw [Int.tmod_eq_emod_of_nonneg (by omega)]; rfl
theorem w64N {a : Nat} (h : a < 4611686018427387904) : w64 (a : Int) = (a : Int) := w64_in (by omega)
theorem mulN (a b : Nat) : (a : Int) * (b : Int) = ((a * b : Nat) : Int) := by simp
/-- A product of small numbers, for a modulus. -/
theorem mulmod {a b p : Nat} (ha : a ≤ 100) (hb : b ≤ 100) : Int.tmod (w64 ((a : Int) * (b : Int))) (p : Int) = ((a * b % p : Nat) : Int) := by
  have : a * b ≤ 100 * 100 := Nat.mul_le_mul ha hb
  rw [mulN, w64N (by omega), tmodN]
end Go.Proofs.Ytiiljfpbcanphaa.G

/- Rests: told by both. -/
namespace Go.Proofs.Ytiiljfpbcanphaa.G
open Go Go.Sx Go.Proofs
theorem rs_emod {p : Int} (x : Int) (hp : 2 ≤ p ∧ p ≤ 13) : Int.tmod (w64 (Int.tmod x p + p)) p = x % p := by
  have h1 := Int.tmod_lt_of_pos x (show 0 < p by omega)
  have h2 := Int.lt_tmod_of_pos x (show 0 < p by omega)
  rw [w64_in (by omega), Int.tmod_eq_emod_of_nonneg (by omega), Int.add_emod_right]
  have h3 : Int.tmod x p + p * Int.tdiv x p = x := Int.tmod_add_mul_tdiv x p
  conv => rhs; rw [← h3]
  rw [Int.add_mul_emod_self_left]
theorem specMod {p : Int} (x : Int) (hp : 2 ≤ p ∧ p ≤ 13) : spec_l01Mod.f p x = some (x % p) := by
  unfold spec_l01Mod.f
  rw [nz_in (by omega), rs_emod x hp]
theorem implRest {p : Int} (x : Int) (hp : 2 ≤ p ∧ p ≤ 13) : impl_rest.f x p = some (x % p) := by
  unfold impl_rest.f
  rw [nz_in (by omega), rs_emod x hp]
theorem emod_b {p : Int} (x : Int) (hp : 2 ≤ p ∧ p ≤ 13) : 0 ≤ x % p ∧ x % p < p := ⟨Int.emod_nonneg _ (by omega), Int.emod_lt_of_pos _ (by omega)⟩
/-- So many whole numbers. -/
def zl (n : Nat) (e : Nat → Int) : List Int := (List.range n).map e
theorem zl_length (n : Nat) (e : Nat → Int) : (zl n e).length = n := by simp [zl]
theorem zl_gt {n : Nat} (e : Nat → Int) {k : Nat} (hk : k < n) : gt (zl n e) (k : Int) = e k := by simp [gt, zl, List.getD, hk]
theorem zl_set {n : Nat} (e : Nat → Int) {k : Nat} (v : Int) (hk : k < n) : (zl n e).set k v = zl n (fun x => if x = k then v else e x) := by
  apply List.ext_getElem?
  intro q
  simp only [zl, List.getElem?_set, List.length_map, List.length_range, List.getElem?_map]
  by_cases hq : q < n
  · by_cases h : k = q
    · subst h; simp [hk]
    · have : ¬ q = k := fun e => h e.symm
      simp [hq, h, this]
  · by_cases h : k = q
    · omega
    · simp [hq, h]
theorem zl_congr {n : Nat} {e f : Nat → Int} (h : ∀ i, i < n → e i = f i) : zl n e = zl n f := by
  unfold zl
  refine List.map_congr_left fun i hi => ?_
  rw [h i (List.mem_range.1 hi)]
theorem zl_rep (n : Nat) (v : Int) : List.replicate n v = zl n (fun _ => v) := by
  apply List.ext_getElem?
  intro q
  by_cases hq : q < n <;> simp [zl, hq]
theorem zl_cons (n : Nat) (e : Nat → Int) (v : Int) : [v] ++ zl n e = zl (n + 1) (fun i => if i = 0 then v else e (i - 1)) := by
  unfold zl
  rw [List.range_succ_eq_map, List.map_cons, List.map_map]
  simp only [List.singleton_append, if_pos]
  congr 1
theorem zl_of {l : List Int} : l = zl l.length (fun i => gt l (i : Int)) := by
  apply List.ext_getElem?
  intro q
  by_cases hq : q < l.length
  · simp [zl, hq, gt, List.getD]
  · simp [zl, hq]
end Go.Proofs.Ytiiljfpbcanphaa.G

/- Rows of numbers for a prime: sums, solutions, reduced rows. -/
namespace Go.Proofs.Ytiiljfpbcanphaa.G
open Go Go.Sx Go.Proofs
def dot (U : Nat → Int) (r : List Int) : Nat → Int
  | 0 => 0
  | k + 1 => dot U r k + gt r (k : Int) * U k
def lessV (p : Int) (r o : List Int) (b : Int) : List Int := zl r.length (fun i => (gt r (i : Int) - b * gt o (i : Int)) % p)
def scaleV (p : Int) (r : List Int) (c : Int) : List Int := zl r.length (fun i => (gt r (i : Int) * c) % p)
structure Row (p : Int) (N : Nat) (r : List Int) : Prop where
  len : r.length = N
  b : ∀ i : Nat, i < N → 0 ≤ gt r (i : Int) ∧ gt r (i : Int) < p
def Sat (p : Int) (N : Nat) (U : Nat → Int) (rows : List (List Int)) : Prop := ∀ r ∈ rows, p ∣ dot U r N
theorem less_gt {p : Int} {r o : List Int} {b : Int} {q : Nat} (h : q < r.length) : gt (lessV p r o b) (q : Int) = (gt r (q : Int) - b * gt o (q : Int)) % p := zl_gt _ h
theorem scale_gt {p : Int} {r : List Int} {c : Int} {q : Nat} (h : q < r.length) : gt (scaleV p r c) (q : Int) = (gt r (q : Int) * c) % p := zl_gt _ h
theorem less_len (p : Int) (r o : List Int) (b : Int) : (lessV p r o b).length = r.length := zl_length _ _
theorem scale_len (p : Int) (r : List Int) (c : Int) : (scaleV p r c).length = r.length := zl_length _ _
theorem Row.less {p : Int} {N : Nat} {r o : List Int} {b : Int} (hp : 2 ≤ p) (h : Row p N r) : Row p N (lessV p r o b) := by
  refine ⟨by rw [less_len, h.len], fun i hi => ?_⟩
  rw [less_gt (by rw [h.len]; exact hi)]
  exact ⟨Int.emod_nonneg _ (by omega), Int.emod_lt_of_pos _ (by omega)⟩
theorem Row.scale {p : Int} {N : Nat} {r : List Int} {c : Int} (hp : 2 ≤ p) (h : Row p N r) : Row p N (scaleV p r c) := by
  refine ⟨by rw [scale_len, h.len], fun i hi => ?_⟩
  rw [scale_gt (by rw [h.len]; exact hi)]
  exact ⟨Int.emod_nonneg _ (by omega), Int.emod_lt_of_pos _ (by omega)⟩
theorem dot_less {p : Int} {U : Nat → Int} {r o : List Int} {b : Int} : ∀ k, k ≤ r.length → ∃ t, dot U (lessV p r o b) k = dot U r k - b * dot U o k + p * t
  | 0, _ => ⟨0, by simp [dot]⟩
  | k + 1, h => by
    obtain ⟨t, ht⟩ := dot_less (p := p) (U := U) (r := r) (o := o) (b := b) k (by omega)
    refine ⟨t - ((gt r (k : Int) - b * gt o (k : Int)) / p) * U k, ?_⟩
    simp only [dot]
    rw [less_gt (by omega), Int.emod_def, ht]
    generalize (gt r (k : Int) - b * gt o (k : Int)) / p = q
    grind
theorem dot_scale {p : Int} {U : Nat → Int} {r : List Int} {c : Int} : ∀ k, k ≤ r.length → ∃ t, dot U (scaleV p r c) k = c * dot U r k + p * t
  | 0, _ => ⟨0, by simp [dot]⟩
  | k + 1, h => by
    obtain ⟨t, ht⟩ := dot_scale (p := p) (U := U) (r := r) (c := c) k (by omega)
    refine ⟨t - ((gt r (k : Int) * c) / p) * U k, ?_⟩
    simp only [dot]
    rw [scale_gt (by omega), Int.emod_def, ht]
    generalize (gt r (k : Int) * c) / p = q
    grind
theorem dvd_of {p a b t : Int} (h : p ∣ a) (e : b = a + p * t) : p ∣ b := by
  obtain ⟨q, rfl⟩ := h
  exact ⟨q + t, by rw [e]; grind⟩
/-- A row taken by itself, scaled; the others less so many of it. -/
theorem sat_step {p : Int} {N : Nat} {U : Nat → Int} {rest : List (List Int)} {w : List Int} {c : Int} {g : List Int → Int} (hw : w.length = N) (hr : ∀ r ∈ rest, r.length = N) (hc : ∃ d s, c * d = 1 + p * s) :
    (Sat p N U (rest.map fun r => lessV p r (scaleV p w c) (g r)) ∧ p ∣ dot U (scaleV p w c) N) ↔ (Sat p N U rest ∧ p ∣ dot U w N) := by
  obtain ⟨t, ht⟩ := dot_scale (p := p) (U := U) (r := w) (c := c) N (by omega)
  have hpw : p ∣ dot U (scaleV p w c) N ↔ p ∣ dot U w N := by
    obtain ⟨d, s, hds⟩ := hc
    constructor
    · rintro ⟨q, hq⟩
      refine ⟨d * (q - t) - s * dot U w N, ?_⟩
      grind
    · rintro ⟨q, hq⟩
      exact ⟨c * q + t, by rw [ht, hq]; grind⟩
  constructor
  · rintro ⟨h1, h2⟩
    refine ⟨fun r hm => ?_, hpw.1 h2⟩
    obtain ⟨t', ht'⟩ := dot_less (p := p) (U := U) (r := r) (o := scaleV p w c) (b := g r) N (by rw [hr r hm]; exact Nat.le_refl _)
    obtain ⟨q, hq⟩ := h1 _ (List.mem_map_of_mem hm)
    obtain ⟨q2, hq2⟩ := h2
    exact ⟨q + g r * q2 - t', by grind⟩
  · rintro ⟨h1, h2⟩
    have h3 := hpw.2 h2
    refine ⟨fun r' hm' => ?_, h3⟩
    obtain ⟨r, hm, rfl⟩ := List.mem_map.1 hm'
    obtain ⟨t', ht'⟩ := dot_less (p := p) (U := U) (r := r) (o := scaleV p w c) (b := g r) N (by rw [hr r hm]; exact Nat.le_refl _)
    obtain ⟨q, hq⟩ := h1 r hm
    obtain ⟨q2, hq2⟩ := h3
    exact ⟨q - g r * q2 + t', by grind⟩

/-- Reduced rows, with the places of their leaders. -/
structure Red (p : Int) (N : Nat) (o : List (List Int)) (l : Nat → Nat) : Prop where
  row : ∀ i : Nat, i < o.length → Row p N (gt o (i : Int))
  lt : ∀ i, i < o.length → l i < N
  one : ∀ i : Nat, i < o.length → gt (gt o (i : Int)) (l i : Int) = 1
  zero : ∀ i q : Nat, i < o.length → q < l i → gt (gt o (i : Int)) (q : Int) = 0
  off : ∀ i j : Nat, i < o.length → j < o.length → i ≠ j → gt (gt o (j : Int)) (l i : Int) = 0
  inc : ∀ i j, i < j → j < o.length → l i < l j
theorem gtn {α : Type} [Inhabited α] {l : List α} {i : Nat} (h : i < l.length) : gt l (i : Int) = l[i] := by simp [gt, List.getD, h]
def insl (m c : Nat) (l : Nat → Nat) : Nat → Nat := fun i => if i < m then l i else if i = m then c else l (i - 1)
section
variable {p : Int} {N : Nat} {o : List (List Int)} {l : Nat → Nat} {w : List Int} {c m : Nat}
def insR (p : Int) (o : List (List Int)) (w : List Int) (c m : Nat) : List (List Int) := (o.take m).map (fun r => lessV p r w (gt r (c : Int))) ++ w :: (o.drop m).map (fun r => lessV p r w (gt r (c : Int)))
theorem insR_len (hm : m ≤ o.length) : (insR p o w c m).length = o.length + 1 := by
  unfold insR; simp; omega
theorem insR_at (hm : m ≤ o.length) {i : Nat} (hi : i < o.length + 1) : gt (insR p o w c m) (i : Int) = if i < m then lessV p (gt o (i : Int)) w (gt (gt o (i : Int)) (c : Int)) else if i = m then w else lessV p (gt o ((i - 1 : Nat) : Int)) w (gt (gt o ((i - 1 : Nat) : Int)) (c : Int)) := by
  have hl := insR_len (p := p) (w := w) (c := c) hm
  rw [gtn (by rw [hl]; exact hi)]
  unfold insR
  by_cases h1 : i < m
  · rw [if_pos h1, List.getElem_append_left (by simp; omega)]
    simp only [List.getElem_map, List.getElem_take]
    rw [gtn (l := o) (i := i) (by omega)]
  · rw [if_neg h1, List.getElem_append_right (by simp; omega)]
    by_cases h2 : i = m
    · subst h2
      rw [if_pos rfl]
      simp [Nat.min_eq_left hm]
    · rw [if_neg h2]
      have e : i - ((o.take m).map (fun r => lessV p r w (gt r (c : Int)))).length = (i - 1 - m) + 1 := by simp; omega
      simp only [e, List.getElem_cons_succ, List.getElem_map, List.getElem_drop]
      have e2 : m + (i - 1 - m) = i - 1 := by omega
      simp only [e2]
      rw [gtn (l := o) (by omega)]
/-- One more reduced row. -/
theorem Red.ins (hp : 2 ≤ p) (R : Red p N o l) (hw : Row p N w) (hc : c < N) (h1 : gt w (c : Int) = 1) (hz : ∀ q : Nat, q < c → gt w (q : Int) = 0) (hl : ∀ i, i < o.length → gt w (l i : Int) = 0) (hm : m ≤ o.length)
    (hlo : ∀ i, i < m → l i < c) (hhi : ∀ i, m ≤ i → i < o.length → c < l i) : Red p N (insR p o w c m) (insl m c l) := by
  have hlen := insR_len (p := p) (w := w) (c := c) hm
  -- of one of the old rows
  have F0 : ∀ i, i < o.length → Row p N (lessV p (gt o (i : Int)) w (gt (gt o (i : Int)) (c : Int))) := fun i hi => (R.row i hi).less hp
  have Fq : ∀ i q : Nat, i < o.length → q < N → gt (lessV p (gt o (i : Int)) w (gt (gt o (i : Int)) (c : Int))) (q : Int) = (gt (gt o (i : Int)) (q : Int) - gt (gt o (i : Int)) (c : Int) * gt w (q : Int)) % p := fun i q hi hq => less_gt (by rw [(R.row i hi).len]; exact hq)
  have Fl : ∀ i j, i < o.length → j < o.length → gt (lessV p (gt o (i : Int)) w (gt (gt o (i : Int)) (c : Int))) (l j : Int) = gt (gt o (i : Int)) (l j : Int) := by
    intro i j hi hj
    rw [Fq i _ hi (R.lt j hj), hl j hj, Int.mul_zero, Int.sub_zero]
    have := (R.row i hi).b (l j) (R.lt j hj)
    exact Int.emod_eq_of_lt this.1 this.2
  have Fc : ∀ i, i < o.length → gt (lessV p (gt o (i : Int)) w (gt (gt o (i : Int)) (c : Int))) (c : Int) = 0 := by
    intro i hi
    rw [Fq i _ hi hc, h1, Int.mul_one, Int.sub_self]; rfl
  have Fz : ∀ i q : Nat, i < o.length → q < l i → (l i < c ∨ c < l i) → gt (lessV p (gt o (i : Int)) w (gt (gt o (i : Int)) (c : Int))) (q : Int) = 0 := by
    intro i q hi hq ho
    have := R.lt i hi
    rw [Fq i _ hi (by omega), R.zero i q hi hq]
    rcases ho with ho | ho
    · rw [hz q (by omega), Int.mul_zero]; rfl
    · rw [R.zero i c hi ho, Int.zero_mul]; rfl
  have side : ∀ i, i < o.length → (l i < c ∨ c < l i) := fun i hi => by
    by_cases h : i < m
    · exact .inl (hlo i h)
    · exact .inr (hhi i (by omega) hi)
  refine ⟨fun i hi => ?_, fun i hi => ?_, fun i hi => ?_, fun i q hi hq => ?_, fun i j hi hj hne => ?_, fun i j hij hj => ?_⟩
  · rw [hlen] at hi
    rw [insR_at hm hi]
    split
    · exact F0 i (by omega)
    · split
      · exact hw
      · exact F0 (i - 1) (by omega)
  · rw [hlen] at hi
    unfold insl
    split
    · exact R.lt i (by omega)
    · split
      · exact hc
      · exact R.lt (i - 1) (by omega)
  · rw [hlen] at hi
    rw [insR_at hm hi]
    unfold insl
    by_cases a : i < m
    · rw [if_pos a, if_pos a, Fl i i (by omega) (by omega)]; exact R.one i (by omega)
    · rw [if_neg a, if_neg a]
      by_cases b : i = m
      · rw [if_pos b, if_pos b]; exact h1
      · rw [if_neg b, if_neg b, Fl (i - 1) (i - 1) (by omega) (by omega)]; exact R.one (i - 1) (by omega)
  · rw [hlen] at hi
    rw [insR_at hm hi]
    unfold insl at hq
    by_cases a : i < m
    · rw [if_pos a] at hq ⊢; exact Fz i q (by omega) hq (side i (by omega))
    · rw [if_neg a] at hq ⊢
      by_cases b : i = m
      · rw [if_pos b] at hq ⊢; exact hz q hq
      · rw [if_neg b] at hq ⊢; exact Fz (i - 1) q (by omega) hq (side (i - 1) (by omega))
  · rw [hlen] at hi hj
    rw [insR_at hm hj]
    unfold insl
    by_cases aj : j < m
    · rw [if_pos aj]
      by_cases ai : i < m
      · rw [if_pos ai, Fl j i (by omega) (by omega)]; exact R.off i j (by omega) (by omega) hne
      · rw [if_neg ai]
        by_cases bi : i = m
        · rw [if_pos bi]; exact Fc j (by omega)
        · rw [if_neg bi, Fl j (i - 1) (by omega) (by omega)]; exact R.off (i - 1) j (by omega) (by omega) (by omega)
    · rw [if_neg aj]
      by_cases bj : j = m
      · rw [if_pos bj]
        by_cases ai : i < m
        · rw [if_pos ai]; exact hl i (by omega)
        · rw [if_neg ai, if_neg (by omega)]; exact hl (i - 1) (by omega)
      · rw [if_neg bj]
        by_cases ai : i < m
        · rw [if_pos ai, Fl (j - 1) i (by omega) (by omega)]; exact R.off i (j - 1) (by omega) (by omega) (by omega)
        · rw [if_neg ai]
          by_cases bi : i = m
          · rw [if_pos bi]; exact Fc (j - 1) (by omega)
          · rw [if_neg bi, Fl (j - 1) (i - 1) (by omega) (by omega)]; exact R.off (i - 1) (j - 1) (by omega) (by omega) (by omega)
  · rw [hlen] at hj
    unfold insl
    by_cases ai : i < m
    · rw [if_pos ai]
      by_cases aj : j < m
      · rw [if_pos aj]; exact R.inc i j hij (by omega)
      · rw [if_neg aj]
        by_cases bj : j = m
        · rw [if_pos bj]; exact hlo i ai
        · rw [if_neg bj]
          have := hlo i ai
          have := hhi (j - 1) (by omega) (by omega)
          omega
    · rw [if_neg ai, if_neg (by omega : ¬ j < m), if_neg (by omega : ¬ j = m)]
      by_cases bi : i = m
      · rw [if_pos bi]; exact hhi (j - 1) (by omega) (by omega)
      · rw [if_neg bi]; exact R.inc (i - 1) (j - 1) (by omega) (by omega)
end
/-- Whose leader stands at q. -/
def own? (l : Nat → Nat) (k q : Nat) : Option Nat := (List.range k).find? fun i => l i == q
theorem own_at {p : Int} {N : Nat} {o : List (List Int)} {l : Nat → Nat} (R : Red p N o l) {i : Nat} (hi : i < o.length) : own? l o.length (l i) = some i := by
  unfold own?
  cases h : (List.range o.length).find? (fun j => l j == l i) with
  | none =>
    have := List.find?_eq_none.1 h i (List.mem_range.2 hi)
    simp at this
  | some j =>
    have h1 := List.mem_range.1 (List.mem_of_find?_eq_some h)
    have h2 : l j = l i := by simpa using List.find?_some (p := fun j => l j == l i) h
    have : j = i := by
      rcases Nat.lt_trichotomy j i with a | a | a
      · have := R.inc j i a hi; omega
      · exact a
      · have := R.inc i j a h1; omega
    rw [this]
theorem own_of {l : Nat → Nat} {k q i : Nat} (h : own? l k q = some i) : i < k ∧ l i = q := by
  unfold own? at h
  exact ⟨List.mem_range.1 (List.mem_of_find?_eq_some h), by simpa using List.find?_some (p := fun i => l i == q) h⟩
section
variable {p : Int} {n : Nat} {o : List (List Int)} {l : Nat → Nat}
/-- The solution that is told by the last numbers. -/
def sol (n : Nat) (o : List (List Int)) (l : Nat → Nat) : Nat → Int := fun q => if q = n then -1 else match own? l o.length q with
  | some i => gt (gt o (i : Int)) (n : Int)
  | none => 0
theorem sol_sat (R : Red p (n + 1) o l) (hn : ∀ i, i < o.length → l i ≠ n) : Sat p (n + 1) (sol n o l) o := by
  intro r hr
  obtain ⟨i, hi, rfl⟩ := List.getElem_of_mem hr
  rw [← gtn hi]
  have hli : l i < n := by have := R.lt i hi; have := hn i hi; omega
  have key : ∀ k, k ≤ n → dot (sol n o l) (gt o (i : Int)) k = if l i < k then gt (gt o (i : Int)) (n : Int) else 0 := by
    intro k
    induction k with
    | zero => intro _; simp [dot]
    | succ k ih =>
      intro hk
      simp only [dot]
      rw [ih (by omega)]
      have hs : sol n o l k = match own? l o.length k with | some i => gt (gt o (i : Int)) (n : Int) | none => 0 := by
        unfold sol; rw [if_neg (by omega)]
      rw [hs]
      cases hw : own? l o.length k with
      | none =>
        have : l i ≠ k := fun e => by rw [← e, own_at R hi] at hw; cases hw
        simp only [Int.mul_zero, Int.add_zero]
        by_cases a : l i < k
        · rw [if_pos a, if_pos (by omega)]
        · rw [if_neg a, if_neg (by omega)]
      | some j =>
        obtain ⟨hj, hlj⟩ := own_of hw
        by_cases hji : j = i
        · subst hji
          subst hlj
          rw [if_neg (by omega), if_pos (by omega), R.one j hi]
          simp
        · have e0 := R.off j i hj hi hji
          rw [hlj] at e0
          simp only [e0, Int.zero_mul, Int.add_zero]
          have : l i ≠ k := fun e => by
            rw [← e, own_at R hi] at hw
            exact hji (Option.some.inj hw).symm
          by_cases a : l i < k
          · rw [if_pos a, if_pos (by omega)]
          · rw [if_neg a, if_neg (by omega)]
  simp only [dot]
  rw [key n (Nat.le_refl _), if_pos hli]
  have : sol n o l n = -1 := by unfold sol; rw [if_pos rfl]
  rw [this]
  exact ⟨0, by omega⟩
theorem no_sol (hp : 2 ≤ p) (R : Red p (n + 1) o l) {i : Nat} (hi : i < o.length) (hl : l i = n) {U : Nat → Int} (hU : U n = -1) (hs : Sat p (n + 1) U o) : False := by
  have h := hs _ (by rw [gtn hi]; exact List.getElem_mem hi : gt o (i : Int) ∈ o)
  have key : ∀ k, k ≤ n → dot U (gt o (i : Int)) k = 0 := by
    intro k
    induction k with
    | zero => intro _; rfl
    | succ k ih =>
      intro hk
      simp only [dot]
      rw [ih (by omega), R.zero i k hi (by omega)]
      simp
  simp only [dot] at h
  have h1 := R.one i hi
  rw [hl] at h1
  rw [key n (Nat.le_refl _), h1, hU] at h
  obtain ⟨q, hq⟩ := h
  have : p ∣ 1 := ⟨-q, by rw [Int.mul_neg, ← hq]; rfl⟩
  have := Int.le_of_dvd (by omega) this
  omega
theorem dot_add (U W : Nat → Int) (r : List Int) : ∀ k, dot (fun q => U q + W q) r k = dot U r k + dot W r k
  | 0 => rfl
  | k + 1 => by
    simp only [dot]
    rw [dot_add U W r k]
    grind
/-- Where a place has no leader there is another solution. -/
theorem free_other (R : Red p (n + 1) o l) {c : Nat} (hc : c < n) (hf : ∀ i, i < o.length → l i ≠ c) (hn : ∀ i, i < o.length → l i ≠ n) : ∃ W : Nat → Int, W n = 0 ∧ W c = 1 ∧ ∀ r ∈ o, dot W r (n + 1) = 0 := by
  refine ⟨fun q => if q = n then 0 else if q = c then 1 else match own? l o.length q with | some i => - gt (gt o (i : Int)) (c : Int) | none => 0, by simp, by simp; omega, fun r hr => ?_⟩
  obtain ⟨i, hi, rfl⟩ := List.getElem_of_mem hr
  rw [← gtn hi]
  have hli : l i < n := by have := R.lt i hi; have := hn i hi; omega
  have hlc := hf i hi
  have key : ∀ k, k ≤ n → dot (fun q => if q = n then 0 else if q = c then 1 else match own? l o.length q with | some i => - gt (gt o (i : Int)) (c : Int) | none => 0) (gt o (i : Int)) k = (if c < k then gt (gt o (i : Int)) (c : Int) else 0) + (if l i < k then - gt (gt o (i : Int)) (c : Int) else 0) := by
    intro k
    induction k with
    | zero => intro _; simp [dot]
    | succ k ih =>
      intro hk
      simp only [dot]
      rw [ih (by omega), if_neg (by omega : ¬ k = n)]
      by_cases hkc : k = c
      · subst hkc
        rw [if_pos rfl, if_neg (by omega : ¬ k < k), if_pos (by omega : k < k + 1)]
        by_cases a : l i < k
        · rw [if_pos a, if_pos (by omega : l i < k + 1)]; omega
        · rw [if_neg a, if_neg (by omega : ¬ l i < k + 1)]; omega
      · rw [if_neg hkc]
        have ec : (if c < k + 1 then gt (gt o (i : Int)) (c : Int) else 0) = if c < k then gt (gt o (i : Int)) (c : Int) else 0 := by
          by_cases a : c < k
          · rw [if_pos a, if_pos (by omega)]
          · rw [if_neg a, if_neg (by omega)]
        rw [ec]
        cases hw : own? l o.length k with
        | none =>
          have : l i ≠ k := fun e => by rw [← e, own_at R hi] at hw; cases hw
          simp only [Int.mul_zero, Int.add_zero]
          by_cases a : l i < k
          · rw [if_pos a, if_pos (by omega : l i < k + 1)]
          · rw [if_neg a, if_neg (by omega : ¬ l i < k + 1)]
        | some j =>
          obtain ⟨hj, hlj⟩ := own_of hw
          by_cases hji : j = i
          · subst hji
            subst hlj
            rw [if_neg (by omega : ¬ l j < l j), if_pos (by omega : l j < l j + 1), R.one j hi]
            simp
          · have e0 := R.off j i hj hi hji
            rw [hlj] at e0
            simp only [e0, Int.zero_mul, Int.add_zero]
            have : l i ≠ k := fun e => by
              rw [← e, own_at R hi] at hw
              exact hji (Option.some.inj hw).symm
            by_cases a : l i < k
            · rw [if_pos a, if_pos (by omega : l i < k + 1)]
            · rw [if_neg a, if_neg (by omega : ¬ l i < k + 1)]
  simp only [dot]
  rw [key n (Nat.le_refl _), if_pos hc, if_pos hli]
  simp only [if_true, Int.mul_zero]
  omega
/-- One solution alone: as many rows as unknowns, in order. -/
theorem full (hp : 2 ≤ p) (R : Red p (n + 1) o l) {U : Nat → Int} (hU : U n = -1) (hs : Sat p (n + 1) U o) (hu : ∀ V : Nat → Int, V n = -1 → Sat p (n + 1) V o → ∀ k, k < n → p ∣ V k - U k) : o.length = n ∧ ∀ i, i < n → l i = i := by
  have hn : ∀ i, i < o.length → l i ≠ n := fun i hi e => no_sol hp R hi e hU hs
  have hall : ∀ c, c < n → ∃ i, i < o.length ∧ l i = c := by
    intro c hc
    apply Classical.byContradiction
    intro hne
    obtain ⟨W, w1, w2, w3⟩ := free_other R hc (fun i hi e => hne ⟨i, hi, e⟩) hn
    have h1 := hu (fun q => U q + W q) (by show U n + W n = -1; omega) (fun r hr => by rw [dot_add, w3 r hr, Int.add_zero]; exact hs r hr) c hc
    have h2 : U c + W c - U c = 1 := by omega
    rw [h2] at h1
    have := Int.le_of_dvd (by omega) h1
    omega
  have hge : ∀ i, i < o.length → i ≤ l i := by
    intro i
    induction i with
    | zero => intro _; exact Nat.zero_le _
    | succ i ih => intro hi; have := ih (by omega); have := R.inc i (i + 1) (by omega) hi; omega
  have hid : ∀ c, c < n → c < o.length ∧ l c = c := by
    intro c
    induction c using Nat.strongRecOn with
    | _ c ih =>
      intro hc
      obtain ⟨i, hi, e⟩ := hall c hc
      have := hge i hi
      rcases Nat.lt_or_ge i c with a | a
      · have := (ih i a (by omega)).2; omega
      · have : i = c := by omega
        subst this; exact ⟨hi, e⟩
  refine ⟨?_, fun i hi => (hid i hi).2⟩
  rcases Nat.lt_trichotomy o.length n with a | a | a
  · have := (hid o.length a).1; omega
  · exact a
  · have h1 := hge n a
    have h2 := R.lt n a
    exact absurd (by omega) (hn n a)
end
end Go.Proofs.Ytiiljfpbcanphaa.G

/- So many numbers, told by a function. -/
namespace Go.Proofs.Ytiiljfpbcanphaa.G
open Go Go.Sx Go.Proofs
/-- So many numbers. -/
def lz (n : Nat) (g : Nat → Nat) : List Int := (List.range n).map fun k => (g k : Int)
theorem lz_length (n : Nat) (g : Nat → Nat) : (lz n g).length = n := by simp [lz]
theorem lz_gt {n : Nat} (g : Nat → Nat) {k : Nat} (hk : k < n) : gt (lz n g) (k : Int) = (g k : Int) := by simp [gt, lz, List.getD, hk]
theorem lz_set {n : Nat} (g : Nat → Nat) {k v : Nat} (hk : k < n) : (lz n g).set k (v : Int) = lz n (fun x => if x = k then v else g x) := by
  apply List.ext_getElem?
  intro q
  simp only [lz, List.getElem?_set, List.length_map, List.length_range, List.getElem?_map]
  by_cases hq : q < n
  · by_cases h : k = q
    · subst h; simp [hk]
    · have : ¬ q = k := fun e => h e.symm
      simp [hq, h, this]
  · by_cases h : k = q
    · omega
    · simp [hq, h]
theorem lz_congr {n : Nat} {g h : Nat → Nat} (e : ∀ i, i < n → g i = h i) : lz n g = lz n h := by
  unfold lz
  refine List.map_congr_left fun i hi => ?_
  rw [e i (List.mem_range.1 hi)]
theorem lz_succ (n : Nat) (g : Nat → Nat) : lz (n + 1) g = lz n g ++ [(g n : Int)] := by simp [lz, List.range_succ]

end Go.Proofs.Ytiiljfpbcanphaa.G

/- Things that hang together: the pool and the leaders tell the same. -/
namespace Go.Proofs.Ytiiljfpbcanphaa.G
open Go Go.Sx Go.Proofs
/-! ### roots -/
def rt (g : Nat → Nat) (i : Nat) : Nat := if g i < i then rt g (g i) else i
termination_by i
theorem rt_step {g : Nat → Nat} {i : Nat} (h : g i < i) : rt g i = rt g (g i) := by rw [rt, if_pos h]
theorem rt_stop {g : Nat → Nat} {i : Nat} (h : ¬ g i < i) : rt g i = i := by rw [rt, if_neg h]
theorem rt_le (g : Nat → Nat) : ∀ i, rt g i ≤ i := by
  intro i
  induction i using Nat.strongRecOn with
  | _ i ih =>
    by_cases h : g i < i
    · rw [rt_step h]; have := ih (g i) h; omega
    · rw [rt_stop h]; exact Nat.le_refl _
theorem rt_root (g : Nat → Nat) : ∀ i, ¬ g (rt g i) < rt g i := by
  intro i
  induction i using Nat.strongRecOn with
  | _ i ih =>
    by_cases h : g i < i
    · rw [rt_step h]; exact ih (g i) h
    · rw [rt_stop h]; exact h
theorem rt_rt (g : Nat → Nat) (i : Nat) : rt g (rt g i) = rt g i := rt_stop (rt_root g i)
def PoolOk (n : Nat) (g : Nat → Nat) : Prop := ∀ i, i < n → g i ≤ i
theorem find_eq' {n : Nat} {g : Nat → Nat} (hg : PoolOk n g) (hn : n ≤ 1000000) {i : Nat} (hi : i < n) : impl_pool_find.f (lz n g) i = some (rt g i : Int) := by
  unfold impl_pool_find.f
  obtain ⟨o, ho, hq⟩ := loop1_run (f := impl_pool_find.b0 (lz n g)) (fun s => ∃ j : Nat, s = (j : Int) ∧ j < n ∧ rt g j = rt g i) (fun s => s.toNat) (fun o => o = (rt g i : Int)) (by
    rintro s ⟨j, rfl, hj, hr⟩
    unfold impl_pool_find.b0
    rw [lz_length, chk_in (by omega), lz_gt g hj, bne_nat]
    have h1 := hg j hj
    by_cases h : g j = j
    · right
      have h2 : rt g j = j := rt_stop (by omega)
      rw [decide_eq_true h]
      exact ⟨_, rfl, by rw [← hr, h2]⟩
    · left
      have h2 : g j < j := by omega
      rw [decide_eq_false h]
      exact ⟨_, rfl, ⟨g j, rfl, by omega, by rw [← rt_step h2]; exact hr⟩, by simp; omega⟩) (i : Int) ⟨i, rfl, hi, rfl⟩ (by simp; omega)
  rw [ho, hq]; rfl
def jn2 (g : Nat → Nat) (i k : Nat) : Nat → Nat := fun x => if x = max (rt g i) (rt g k) then min (rt g i) (rt g k) else g x
theorem rt_jn (g : Nat → Nat) (hg : ∀ i, g i ≤ i) (i k : Nat) : ∀ x, rt (jn2 g i k) x = if rt g x = max (rt g i) (rt g k) then min (rt g i) (rt g k) else rt g x := by
  have ra : rt g (rt g i) = rt g i := rt_rt g i
  have rb : rt g (rt g k) = rt g k := rt_rt g k
  have rmx : rt g (max (rt g i) (rt g k)) = max (rt g i) (rt g k) := by
    rcases Nat.le_total (rt g i) (rt g k) with h | h
    · rw [Nat.max_eq_right h]; exact rb
    · rw [Nat.max_eq_left h]; exact ra
  have gmn : ¬ g (min (rt g i) (rt g k)) < min (rt g i) (rt g k) := by
    rcases Nat.le_total (rt g i) (rt g k) with h | h
    · rw [Nat.min_eq_left h]; exact rt_root g i
    · rw [Nat.min_eq_right h]; exact rt_root g k
  have hmm : min (rt g i) (rt g k) ≤ max (rt g i) (rt g k) := by omega
  intro x
  induction x using Nat.strongRecOn with
  | _ x ih =>
    by_cases hx : x = max (rt g i) (rt g k)
    · subst hx
      rw [rmx, if_pos rfl]
      have e : jn2 g i k (max (rt g i) (rt g k)) = min (rt g i) (rt g k) := by simp [jn2]
      by_cases hlt : min (rt g i) (rt g k) < max (rt g i) (rt g k)
      · rw [rt_step (by rw [e]; exact hlt), e]
        refine rt_stop ?_
        have : jn2 g i k (min (rt g i) (rt g k)) = g (min (rt g i) (rt g k)) := by
          unfold jn2; rw [if_neg (by omega)]
        rw [this]; exact gmn
      · have : min (rt g i) (rt g k) = max (rt g i) (rt g k) := by omega
        rw [rt_stop (by rw [e]; exact hlt), this]
    · have e : jn2 g i k x = g x := by unfold jn2; rw [if_neg hx]
      by_cases hlt : g x < x
      · rw [rt_step (by rw [e]; exact hlt), e, ih (g x) hlt, rt_step hlt]
      · rw [rt_stop (by rw [e]; exact hlt), rt_stop hlt, if_neg hx]

/-! ### what hangs together -/
def conn : List (Nat × Nat) → Nat → Nat → Prop
  | [], x, y => x = y
  | (i, k) :: ps, x, y => conn ps x y ∨ (conn ps x i ∧ conn ps y k) ∨ (conn ps x k ∧ conn ps y i)
theorem conn_eqv (ps : List (Nat × Nat)) : (∀ x, conn ps x x) ∧ (∀ x y, conn ps x y → conn ps y x) ∧ (∀ x y z, conn ps x y → conn ps y z → conn ps x z) := by
  induction ps with
  | nil => exact ⟨fun _ => rfl, fun _ _ h => h.symm, fun _ _ _ h h' => h.trans h'⟩
  | cons p ps ih =>
    obtain ⟨i, k⟩ := p
    obtain ⟨r, s, t⟩ := ih
    refine ⟨fun x => .inl (r x), fun x y h => ?_, fun x y z h h' => ?_⟩
    · rcases h with h | ⟨h1, h2⟩ | ⟨h1, h2⟩
      · exact .inl (s _ _ h)
      · exact .inr (.inr ⟨h2, h1⟩)
      · exact .inr (.inl ⟨h2, h1⟩)
    · rcases h with h | ⟨h1, h2⟩ | ⟨h1, h2⟩ <;> rcases h' with h' | ⟨g1, g2⟩ | ⟨g1, g2⟩
      · exact .inl (t _ _ _ h h')
      · exact .inr (.inl ⟨t _ _ _ h g1, g2⟩)
      · exact .inr (.inr ⟨t _ _ _ h g1, g2⟩)
      · exact .inr (.inl ⟨h1, t _ _ _ (s _ _ h') h2⟩)
      · exact .inr (.inl ⟨h1, g2⟩)
      · exact .inl (t _ _ _ h1 (s _ _ g2))
      · exact .inr (.inr ⟨h1, t _ _ _ (s _ _ h') h2⟩)
      · exact .inl (t _ _ _ h1 (s _ _ g2))
      · exact .inr (.inr ⟨h1, g2⟩)
theorem conn_mem : ∀ {ps : List (Nat × Nat)} {p : Nat × Nat}, p ∈ ps → conn ps p.1 p.2
  | q :: ps, p, h => by
    rcases List.mem_cons.1 h with rfl | h
    · exact .inr (.inl ⟨(conn_eqv ps).1 _, (conn_eqv ps).1 _⟩)
    · exact .inl (conn_mem h)
theorem conn_least {ps : List (Nat × Nat)} {E : Nat → Nat → Prop} (r : ∀ x, E x x) (s : ∀ x y, E x y → E y x) (t : ∀ x y z, E x y → E y z → E x z) (hp : ∀ p ∈ ps, E p.1 p.2) : ∀ x y, conn ps x y → E x y := by
  induction ps with
  | nil => intro x y h; have : x = y := h; subst this; exact r x
  | cons p ps ih =>
    obtain ⟨i, k⟩ := p
    have ih := ih fun q hq => hp q (List.mem_cons_of_mem _ hq)
    have hik : E i k := hp (i, k) (by simp)
    intro x y h
    rcases h with h | ⟨h1, h2⟩ | ⟨h1, h2⟩
    · exact ih x y h
    · exact t _ _ _ (ih _ _ h1) (t _ _ _ hik (s _ _ (ih _ _ h2)))
    · exact t _ _ _ (ih _ _ h1) (t _ _ _ (s _ _ hik) (s _ _ (ih _ _ h2)))
theorem conn_same {ps qs : List (Nat × Nat)} (h1 : ∀ p ∈ ps, conn qs p.1 p.2) (h2 : ∀ p ∈ qs, conn ps p.1 p.2) (x y : Nat) : conn ps x y ↔ conn qs x y :=
  ⟨conn_least (conn_eqv qs).1 (conn_eqv qs).2.1 (conn_eqv qs).2.2 h1 x y, conn_least (conn_eqv ps).1 (conn_eqv ps).2.1 (conn_eqv ps).2.2 h2 x y⟩
/-- Two things have the same mark just where they hang together. -/
def Marks (n : Nat) (f : Nat → Nat) (ps : List (Nat × Nat)) : Prop := ∀ x y, x < n → y < n → (f x = f y ↔ conn ps x y)
theorem marks_join {n : Nat} {f f' : Nat → Nat} {ps : List (Nat × Nat)} (h : Marks n f ps) {i k : Nat} (hi : i < n) (hk : k < n) (hf : ∀ x y, x < n → y < n → (f' x = f' y ↔ (f x = f y ∨ (f x = f i ∧ f y = f k) ∨ (f x = f k ∧ f y = f i)))) : Marks n f' ((i, k) :: ps) := by
  intro x y hx hy
  rw [hf x y hx hy, h x y hx hy, h x i hx hi, h y k hy hk, h x k hx hk, h y i hy hi]
  rfl
structure Pool (n : Nat) (g : Nat → Nat) (ps : List (Nat × Nat)) : Prop where
  le : ∀ i, g i ≤ i
  marks : Marks n (rt g) ps
theorem Pool.join {n : Nat} {g : Nat → Nat} {ps : List (Nat × Nat)} (h : Pool n g ps) (hn : n ≤ 1000000) {i k : Nat} (hi : i < n) (hk : k < n) : ∃ g', impl_pool_join.f (lz n g) i k = some (lz n g') ∧ Pool n g' ((i, k) :: ps) := by
  refine ⟨jn2 g i k, ?_, fun x => ?_, marks_join h.marks hi hk fun x y hx hy => ?_⟩
  · unfold impl_pool_join.f
    rw [find_eq' (fun i _ => h.le i) hn hi, find_eq' (fun i _ => h.le i) hn hk]
    simp only [Option.bind_some]
    have h1 := rt_le g i
    have h2 := rt_le g k
    have e1 : (if (rt g k : Int) > (rt g i : Int) then (rt g k : Int) else (rt g i : Int)) = ((max (rt g i) (rt g k) : Nat) : Int) := by split <;> omega
    have e2 : (if (rt g k : Int) < (rt g i : Int) then (rt g k : Int) else (rt g i : Int)) = ((min (rt g i) (rt g k) : Nat) : Int) := by split <;> omega
    rw [e1, e2, lz_length, chk_in (by omega), Int.toNat_natCast, lz_set g (by omega)]
    rfl
  · unfold jn2
    have := h.le x
    split <;> omega
  · rw [rt_jn g h.le, rt_jn g h.le]
    rcases Nat.le_total (rt g i) (rt g k) with hl | hl
    · rw [Nat.max_eq_right hl, Nat.min_eq_left hl]
      split <;> split <;> omega
    · rw [Nat.max_eq_left hl, Nat.min_eq_right hl]
      split <;> split <;> omega
theorem Pool.start (n : Nat) : Pool n id [] := ⟨fun _ => Nat.le_refl _, fun x y _ _ => by
  rw [rt_stop (by simp), rt_stop (by simp)]; rfl⟩
theorem poolOf_eq (n : Nat) (hn : n ≤ 1000000) : impl_poolOf.f n = some (lz n id) := by
  unfold impl_poolOf.f
  have hl := loop1_upto (f := impl_poolOf.b0 n) (fun i => (lz i id, (i : Int))) n (lz n id, (n : Int)) (by omega) (fun i hi => by
    unfold impl_poolOf.b0 impl_pool_add.f
    simp only [dlt_nat, hi, decide_true, cond_true, lz_length]
    rw [small_in (by simp; omega), Option.bind_some, w64_succ (by omega), lz_succ]
    rfl) (by
    unfold impl_poolOf.b0
    simp)
  have hl' : loop1 (impl_poolOf.b0 n) ([], 0) = some (lz n id, (n : Int)) := hl
  rw [hl']; rfl
theorem numbers_eq (n : Nat) (hn : n ≤ 1000000) : spec_l07Numbers.f n = some (lz n id) := by
  unfold spec_l07Numbers.f
  have hl := loop1_upto (f := spec_l07Numbers.b0 n) (fun i => (lz i id, (i : Int))) n (lz n id, (n : Int)) (by omega) (fun i hi => by
    unfold spec_l07Numbers.b0
    simp only [dlt_nat, hi, decide_true, cond_true, lz_length]
    rw [small_in (by simp; omega), w64_succ (by omega), lz_succ]
    rfl) (by
    unfold spec_l07Numbers.b0
    simp)
  have hl' : loop1 (spec_l07Numbers.b0 n) ([], 0) = some (lz n id, (n : Int)) := hl
  rw [hl']; rfl
theorem Marks.start (n : Nat) : Marks n id [] := fun _ _ _ _ => Iff.rfl
theorem Marks.join {n : Nat} {f : Nat → Nat} {ps : List (Nat × Nat)} (h : Marks n f ps) (hn : n ≤ 1000000) {i k : Nat} (hi : i < n) (hk : k < n) : ∃ f', spec_l07Join.f (lz n f) i k = some (lz n f') ∧ Marks n f' ((i, k) :: ps) := by
  refine ⟨fun x => if f x = f k then f i else f x, ?_, marks_join h hi hk fun x y hx hy => ?_⟩
  · unfold spec_l07Join.f spec_l01Own.f
    rw [small_in (by rw [lz_length]; simp; omega), Option.bind_some, lz_length, chk_in (by omega), chk_in (by omega)]
    have hl := loop1_upto (f := spec_l07Join.b0 (lz n f) k i) (fun j => (lz n (fun x => if x < j then (if f x = f k then f i else f x) else f x), (j : Int))) n (lz n (fun x => if f x = f k then f i else f x), (n : Int)) (by omega) (fun j hj => by
      unfold spec_l07Join.b0
      simp only [lz_length, dlt_nat, hj, decide_true, cond_true]
      rw [chk_in (by omega), lz_gt _ hj, lz_gt _ hk, lz_gt _ hi, if_neg (Nat.lt_irrefl j), beq_nat, w64_succ (by omega), Int.toNat_natCast]
      by_cases he : f j = f k
      · rw [decide_eq_true he, cond_true, Option.bind_some, lz_set _ hj]
        congr 3
        refine lz_congr fun x hx => ?_
        by_cases hxj : x = j
        · subst hxj; simp [he]
        · have : x < j ↔ x < j + 1 := by omega
          simp [hxj, this]
      · rw [decide_eq_false he, cond_false, Option.bind_some]
        congr 3
        refine lz_congr fun x hx => ?_
        by_cases hxj : x = j
        · subst hxj; simp [he]
        · have : x < j ↔ x < j + 1 := by omega
          simp [this]) (by
      unfold spec_l07Join.b0
      simp only [lz_length, dlt_nat, Nat.lt_irrefl, decide_false, cond_false]
      congr 3
      refine lz_congr fun x hx => ?_
      simp [hx])
    have e0 : lz n (fun x => if x < 0 then (if f x = f k then f i else f x) else f x) = [] ++ lz n f := by
      rw [List.nil_append]
      exact lz_congr fun x _ => by simp
    have hl' : loop1 (spec_l07Join.b0 (lz n f) k i) ([] ++ lz n f, 0) = some (lz n (fun x => if f x = f k then f i else f x), (n : Int)) := by rw [← e0]; exact hl
    rw [hl']; rfl
  · show ((if f x = f k then f i else f x) = (if f y = f k then f i else f y)) ↔ _
    split <;> split <;> omega
/-- How many pieces. -/
def roots (n : Nat) (p : Nat → Bool) : Nat := (List.range n).countP p
theorem roots_succ (n : Nat) (p : Nat → Bool) : roots (n + 1) p = roots n p + (bif p n then 1 else 0) := by
  unfold roots
  rw [List.range_succ, List.countP_append]
  cases h : p n <;> simp [h]
theorem roots_le (n : Nat) (p : Nat → Bool) : roots n p ≤ n := by have := List.countP_le_length (p := p) (l := List.range n); simpa [roots] using this
def isRoot (g : Nat → Nat) (i : Nat) : Bool := decide (rt g i = i)
def isFirst (f : Nat → Nat) (i : Nat) : Bool := (List.range i).all fun k => decide (f k ≠ f i)
theorem distinct_eq {n : Nat} {g : Nat → Nat} (hg : ∀ i, g i ≤ i) (hn : n ≤ 1000000) : impl_pool_distinct.f (lz n g) = some (roots n (isRoot g) : Int) := by
  unfold impl_pool_distinct.f
  have hl := loop1_upto (f := impl_pool_distinct.b0 (lz n g)) (fun i => ((roots i (isRoot g) : Int), (i : Int))) n ((roots n (isRoot g) : Int), (n : Int)) (by omega) (fun i hi => by
    unfold impl_pool_distinct.b0
    have h1 := roots_le i (isRoot g)
    simp only [lz_length, dlt_nat, hi, decide_true, cond_true]
    rw [find_eq' (fun i _ => hg i) hn hi, Option.bind_some, beq_nat, w64_succ (by omega : i < _), w64_succ (by omega : roots i (isRoot g) < _), roots_succ]
    have : decide (rt g i = i) = isRoot g i := rfl
    rw [this]
    cases isRoot g i <;> rfl) (by
    unfold impl_pool_distinct.b0
    simp [lz_length])
  have hl' : loop1 (impl_pool_distinct.b0 (lz n g)) (0, 0) = some ((roots n (isRoot g) : Int), (n : Int)) := hl
  rw [hl']; rfl
theorem different_eq {n : Nat} {f : Nat → Nat} (hn : n ≤ 1000000) : spec_l07Different.f (lz n f) = some (roots n (isFirst f) : Int) := by
  unfold spec_l07Different.f
  have hl := loop1_upto (f := spec_l07Different.b1 (lz n f)) (fun i => ((roots i (isFirst f) : Int), (i : Int))) n ((roots n (isFirst f) : Int), (n : Int)) (by omega) (fun i hi => by
    unfold spec_l07Different.b1
    have h1 := roots_le i (isFirst f)
    simp only [lz_length, dlt_nat, hi, decide_true, cond_true]
    have hin := loop1_upto (f := spec_l07Different.b0 i (lz n f)) (fun k => ((List.range k).all (fun q => decide (f q ≠ f i)), (k : Int))) i ((List.range i).all (fun q => decide (f q ≠ f i)), (i : Int)) (by omega) (fun k hk => by
      unfold spec_l07Different.b0
      simp only [dlt_nat, hk, decide_true, cond_true]
      rw [lz_length, chk_in (by omega), chk_in (by omega), lz_gt _ (by omega), lz_gt _ hi, w64_succ (by omega), List.range_succ, List.all_append]
      have e : ((f k : Int) != (f i : Int)) = decide (f k ≠ f i) := by rw [bne_nat]; simp
      rw [e]
      cases (List.range k).all (fun q => decide (f q ≠ f i)) <;> simp) (by
      unfold spec_l07Different.b0
      simp)
    have hin' : loop1 (spec_l07Different.b0 i (lz n f)) (true, 0) = some (isFirst f i, (i : Int)) := hin
    rw [hin', Option.bind_some, w64_succ (by omega : i < _), w64_succ (by omega : roots i (isFirst f) < _), roots_succ]
    cases isFirst f i <;> rfl) (by
    unfold spec_l07Different.b1
    simp [lz_length])
  have hl' : loop1 (spec_l07Different.b1 (lz n f)) (0, 0) = some ((roots n (isFirst f) : Int), (n : Int)) := hl
  rw [hl']; rfl
theorem count_same {n : Nat} {g f : Nat → Nat} {ps qs : List (Nat × Nat)} (hp : Pool n g ps) (hm : Marks n f qs) (hc : ∀ x y, conn ps x y ↔ conn qs x y) : roots n (isRoot g) = roots n (isFirst f) := by
  unfold roots
  refine List.countP_congr fun i hi => ?_
  have hi' := List.mem_range.1 hi
  unfold isRoot isFirst
  simp only [decide_eq_true_eq, List.all_eq_true, List.mem_range, ne_eq]
  constructor
  · intro h k hk he
    have h1 := (hm k i (by omega) hi').1 he
    have h2 := (hp.marks k i (by omega) hi').2 ((hc k i).2 h1)
    have := rt_le g k
    omega
  · intro h
    have h1 := rt_le g i
    by_cases hr : rt g i = i
    · exact hr
    · exfalso
      have hlt : rt g i < i := by omega
      refine h (rt g i) hlt ?_
      rw [hm (rt g i) i (by omega) hi', ← hc, ← hp.marks (rt g i) i (by omega) hi']
      exact rt_rt g i
end Go.Proofs.Ytiiljfpbcanphaa.G

/- Slices of numbers that come in: how large they are, and their copies. -/
namespace Go.Proofs.Ytiiljfpbcanphaa.G
open Go Go.Sx Go.Proofs
theorem toS (a : List Int) (h : a.length ≤ 1048576) : laws_toInt64S.f a = some a := by
  unfold laws_toInt64S.f
  rw [small_in (by omega), Int.toNat_natCast]
  have hl := loop1_upto (f := laws_toInt64S.b0 a) (fun i => (a.take i ++ List.replicate (a.length - i) 0, (i : Int))) a.length (a, (a.length : Int)) (by omega) (fun i hi => by
    unfold laws_toInt64S.b0
    have e : (a.take i ++ List.replicate (a.length - i) (0 : Int)).length = a.length := by simp; omega
    simp only [dlt_nat, hi, decide_true, cond_true]
    rw [chk_in (by omega), e, chk_in (by omega), w64_succ (by omega), Int.toNat_natCast]
    have hg : gt a (i : Int) = a[i] := by simp [gt, List.getD, hi]
    have hm : (a.take i).length = i := by simp; omega
    have e2 : (a.take i ++ List.replicate (a.length - i) (0 : Int)).set i (gt a (i : Int)) = a.take (i + 1) ++ List.replicate (a.length - (i + 1)) 0 := by
      rw [hg, List.set_append_right _ _ (by omega), hm, Nat.sub_self, show a.length - i = (a.length - (i + 1)) + 1 by omega, List.replicate_succ, List.set_cons_zero, List.take_add_one, List.getElem?_eq_getElem hi]
      simp only [Option.toList_some, List.append_assoc, List.singleton_append]
    rw [e2]) (by
    unfold laws_toInt64S.b0
    simp)
  have hl' : loop1 (laws_toInt64S.b0 a) (List.replicate a.length 0, 0) = some (a, (a.length : Int)) := by simpa using hl
  rw [hl']; rfl
theorem szS (a : List Int) (l : Nat) (hl : l ≤ 1048576) (h : a.length ≤ 9223372036854775807) : (laws_szInt64S.f a l = some (-1) ∧ l < a.length) ∨ (laws_szInt64S.f a l = some ((l - a.length : Nat) : Int) ∧ a.length ≤ l) := by
  unfold laws_szInt64S.f
  rw [w64_in (by omega)]
  by_cases hc : a.length ≤ l
  · right
    have : decide (((l : Int) - (a.length : Int)) < 0) = false := by simp; omega
    rw [this]
    exact ⟨by rw [cond_false]; congr 1; omega, hc⟩
  · left
    have : decide (((l : Int) - (a.length : Int)) < 0) = true := by simp; omega
    rw [this]
    exact ⟨rfl, by omega⟩
end Go.Proofs.Ytiiljfpbcanphaa.G

/- Rows of numbers that come in: how large they are, and their copies. -/
namespace Go.Proofs.Ytiiljfpbcanphaa.G
open Go Go.Sx Go.Proofs
theorem gt_at {α : Type} [Inhabited α] {a : List α} {i : Nat} (h : i < a.length) : gt a (i : Int) = a[i] := by simp [gt, List.getD, h]
theorem toSS (a : List (List Int)) (h : a.length ≤ 1048576) (hr : ∀ r ∈ a, r.length ≤ 1048576) : laws_toInt64SS.f a = some a := by
  unfold laws_toInt64SS.f
  rw [small_in (by omega), Int.toNat_natCast]
  have hl := loop1_upto (f := laws_toInt64SS.b0 a) (fun i => (a.take i ++ List.replicate (a.length - i) [], (i : Int))) a.length (a, (a.length : Int)) (by omega) (fun i hi => by
    unfold laws_toInt64SS.b0
    have e : (a.take i ++ List.replicate (a.length - i) ([] : List Int)).length = a.length := by simp; omega
    simp only [dlt_nat, hi, decide_true, cond_true]
    rw [chk_in (by omega), gt_at hi, toS _ (hr _ (List.getElem_mem hi)), Option.bind_some, e, chk_in (by omega), w64_succ (by omega), Int.toNat_natCast]
    have hm : (a.take i).length = i := by simp; omega
    have e2 : (a.take i ++ List.replicate (a.length - i) ([] : List Int)).set i a[i] = a.take (i + 1) ++ List.replicate (a.length - (i + 1)) [] := by
      rw [List.set_append_right _ _ (by omega), hm, Nat.sub_self, show a.length - i = (a.length - (i + 1)) + 1 by omega, List.replicate_succ, List.set_cons_zero, List.take_add_one, List.getElem?_eq_getElem hi]
      simp only [Option.toList_some, List.append_assoc, List.singleton_append]
    rw [e2]) (by
    unfold laws_toInt64SS.b0
    simp)
  have hl' : loop1 (laws_toInt64SS.b0 a) (List.replicate a.length [], 0) = some (a, (a.length : Int)) := by simpa using hl
  rw [hl']; rfl
theorem szSS (a : List (List Int)) (l : Nat) (hl : l ≤ 1048576) (h : a.length ≤ 9223372036854775807) (hr : ∀ r ∈ a, r.length ≤ 9223372036854775807) :
    ∃ q, laws_szInt64SS.f a l = some q ∧ (q < 0 ∨ (0 ≤ q ∧ a.length ≤ l ∧ (∀ r ∈ a, r.length ≤ l) ∧ (a.map List.length).sum ≤ l)) := by
  unfold laws_szInt64SS.f
  rw [w64_in (by omega)]
  by_cases hc : a.length ≤ l
  · have e : decide (((l : Int) - (a.length : Int)) < 0) = false := by simp; omega
    rw [e, cond_false]
    obtain ⟨o, ho, hq⟩ := loop_run (f := laws_szInt64SS.b0 a) (fun s => ∃ (i k : Nat), s = ((k : Int), (i : Int)) ∧ i ≤ a.length ∧ k + ((a.take i).map List.length).sum ≤ l ∧ ∀ r ∈ a.take i, r.length ≤ l) (fun s => a.length - s.2.toNat)
      (fun o => match o with | .brk s => ∃ k : Nat, s.1 = (k : Int) ∧ (∀ r ∈ a, r.length ≤ l) ∧ (a.map List.length).sum ≤ l | .ret r => r = -1) (by
      rintro s ⟨i, k, rfl, hi, hk, hrs⟩
      unfold laws_szInt64SS.b0
      by_cases hlt : i < a.length
      · simp only [dlt_nat, hlt, decide_true, cond_true]
        rw [chk_in (by omega), gt_at hlt]
        rcases szS a[i] k (by omega) (hr _ (List.getElem_mem hlt)) with ⟨h1, h2⟩ | ⟨h1, h2⟩
        · rw [h1]
          exact .inr (.inr ⟨-1, rfl, rfl⟩)
        · rw [h1, Option.bind_some]
          have : decide (((k - a[i].length : Nat) : Int) < 0) = false := decide_eq_false (by omega)
          rw [this, cond_false, w64_succ (by omega)]
          have hsum : ((a.take (i + 1)).map List.length).sum = ((a.take i).map List.length).sum + a[i].length := by
            rw [List.take_add_one, List.getElem?_eq_getElem hlt, List.map_append, List.sum_append]
            simp only [Option.toList_some, List.map_cons, List.map_nil, List.sum_cons, List.sum_nil, Nat.add_zero]
          refine .inl ⟨_, rfl, ⟨i + 1, k - a[i].length, rfl, by omega, by rw [hsum]; omega, ?_⟩, by simp; omega⟩
          intro r hr'
          rw [List.take_add_one, List.getElem?_eq_getElem hlt] at hr'
          rcases List.mem_append.1 hr' with h | h
          · exact hrs r h
          · have : r = a[i] := by simpa using h
            subst this; omega
      · have hia : i = a.length := by omega
        subst hia
        simp only [dlt_nat, Nat.lt_irrefl, decide_false, cond_false]
        rw [List.take_length] at hrs hk
        exact .inr (.inl ⟨_, rfl, k, rfl, hrs, by omega⟩)) (((l : Int) - (a.length : Int)), 0) ⟨0, l - a.length, by simp; omega, by omega, by simp, by simp⟩ (by simp; omega)
    rw [ho]
    cases o with
    | brk s =>
      obtain ⟨k, hk, hrs, hsm⟩ := hq
      exact ⟨_, rfl, .inr ⟨by show 0 ≤ s.1; omega, hc, hrs, hsm⟩⟩
    | ret r => exact ⟨_, rfl, .inl (by simp only at hq; omega)⟩
  · have e : decide (((l : Int) - (a.length : Int)) < 0) = true := by simp; omega
    rw [e]
    exact ⟨_, rfl, .inl (by omega)⟩
end Go.Proofs.Ytiiljfpbcanphaa.G

/- What a surface is, told by both. -/
namespace Go.Proofs.Ytiiljfpbcanphaa.G
open Go Go.Sx Go.Proofs
theorem any_at {α : Type} [Inhabited α] (a : List α) (p : α → Bool) : (List.range a.length).any (fun (i : Nat) => p (gt a (i : Int))) = a.any p := by
  rw [Bool.eq_iff_iff, List.any_eq_true, List.any_eq_true]
  constructor
  · rintro ⟨i, hi, h⟩
    have hi' := List.mem_range.1 hi
    exact ⟨a[i], List.getElem_mem _, by rwa [gt_at hi'] at h⟩
  · rintro ⟨x, hx, h⟩
    obtain ⟨i, hi, rfl⟩ := List.mem_iff_getElem.1 hx
    exact ⟨i, List.mem_range.2 hi, by rw [gt_at hi]; exact h⟩
theorem containsInts (a : List Int) (h : a.length < 1000000) (f : Int → Option Bool) (p : Int → Bool) (hf : ∀ x ∈ a, f x = some (p x)) : slices_ContainsFunc_int64_int64.f a f = some (a.any p) := by
  unfold slices_ContainsFunc_int64_int64.f slices_IndexFunc_int64_int64.f
  have hl := loop_find (f := slices_IndexFunc_int64_int64.b0 a f) (fun i => (i : Int)) a.length (fun (i : Nat) => p (gt a (i : Int))) (fun i => (i : Int)) (a.length : Int) (by omega) (fun i hi => by
    unfold slices_IndexFunc_int64_int64.b0
    simp only [dlt_nat, hi, decide_true, cond_true]
    rw [chk_in (by omega), hf _ (by rw [gt_at hi]; exact List.getElem_mem _), Option.bind_some, w64_succ (by omega)]
    cases p (gt a (i : Int)) <;> rfl) (by
    unfold slices_IndexFunc_int64_int64.b0
    simp)
  have hl' : loop (slices_IndexFunc_int64_int64.b0 a f) 0 = _ := hl
  rw [hl', ← any_at a p]
  cases hfd : (List.range a.length).find? (fun (i : Nat) => p (gt a (i : Int))) with
  | none =>
    have : (List.range a.length).any (fun (i : Nat) => p (gt a (i : Int))) = false := by
      rw [List.any_eq_false]; intro x hx; have := List.find?_eq_none.1 hfd x hx; simpa using this
    rw [this]; rfl
  | some i =>
    have : (List.range a.length).any (fun (i : Nat) => p (gt a (i : Int))) = true := List.any_eq_true.2 ⟨i, List.mem_of_find?_eq_some hfd, List.find?_some (p := fun (i : Nat) => p (gt a (i : Int))) hfd⟩
    rw [this]
    have hd : decide ((i : Int) ≥ 0) = true := by simp
    simp only [Option.bind_some, ln, hd]
theorem containsSides (a : List (List (Int × Int))) (h : a.length < 1000000) (f : List (Int × Int) → Option Bool) (p : List (Int × Int) → Bool) (hf : ∀ x ∈ a, f x = some (p x)) : slices_ContainsFunc_impl_sided_impl_sided.f a f = some (a.any p) := by
  unfold slices_ContainsFunc_impl_sided_impl_sided.f slices_IndexFunc_impl_sided_impl_sided.f
  have hl := loop_find (f := slices_IndexFunc_impl_sided_impl_sided.b0 a f) (fun i => (i : Int)) a.length (fun (i : Nat) => p (gt a (i : Int))) (fun i => (i : Int)) (a.length : Int) (by omega) (fun i hi => by
    unfold slices_IndexFunc_impl_sided_impl_sided.b0
    simp only [dlt_nat, hi, decide_true, cond_true]
    rw [chk_in (by omega), hf _ (by rw [gt_at hi]; exact List.getElem_mem _), Option.bind_some, w64_succ (by omega)]
    cases p (gt a (i : Int)) <;> rfl) (by
    unfold slices_IndexFunc_impl_sided_impl_sided.b0
    simp)
  have hl' : loop (slices_IndexFunc_impl_sided_impl_sided.b0 a f) 0 = _ := hl
  rw [hl', ← any_at a p]
  cases hfd : (List.range a.length).find? (fun (i : Nat) => p (gt a (i : Int))) with
  | none =>
    have : (List.range a.length).any (fun (i : Nat) => p (gt a (i : Int))) = false := by
      rw [List.any_eq_false]; intro x hx; have := List.find?_eq_none.1 hfd x hx; simpa using this
    rw [this]; rfl
  | some i =>
    have : (List.range a.length).any (fun (i : Nat) => p (gt a (i : Int))) = true := List.any_eq_true.2 ⟨i, List.mem_of_find?_eq_some hfd, List.find?_some (p := fun (i : Nat) => p (gt a (i : Int))) hfd⟩
    rw [this]
    have hd : decide ((i : Int) ≥ 0) = true := by simp
    simp only [Option.bind_some, ln, hd]

/-! ### the sides of the edges -/
abbrev Side := (Int × Int) × Int
def entry (s : List (List Int)) (i q : Nat) : Int := gt (gt s (i : Int)) (q : Int)
def rowP (s : List (List Int)) (i : Nat) : Nat → List Side
  | 0 => []
  | j + 1 => rowP s i j ++ [(((i : Int), (j : Int)), entry s i j)]
def preP (s : List (List Int)) : Nat → List Side
  | 0 => []
  | i + 1 => preP s i ++ rowP s i 3
def sdl (P : List Side) (k : Nat) : List (Int × Int) := (P.filter fun p => p.2.natAbs == k).map (·.1)
def tab (m : Nat) (P : List Side) : List (List (Int × Int)) := (List.range (m + 1)).map (sdl P)
def cnt (m : Nat) (P : List Side) : List Int := (List.range (m + 1)).map fun k => ((sdl P k).length : Int)
theorem rowP_length (s : List (List Int)) (i : Nat) : ∀ j, (rowP s i j).length = j
  | 0 => rfl
  | j + 1 => by simp only [rowP, List.length_append, rowP_length s i j]; rfl
theorem preP_length (s : List (List Int)) : ∀ i, (preP s i).length = 3 * i
  | 0 => rfl
  | i + 1 => by simp only [preP, List.length_append, preP_length s i, rowP_length]; omega
theorem sdl_le (P : List Side) (k : Nat) : (sdl P k).length ≤ P.length := by
  unfold sdl; rw [List.length_map]; exact List.length_filter_le _ _
theorem sdl_add (P : List Side) (a : Int × Int) (x : Int) (k : Nat) : sdl (P ++ [(a, x)]) k = if x.natAbs = k then sdl P k ++ [a] else sdl P k := by
  unfold sdl
  rw [List.filter_append, List.map_append]
  by_cases h : x.natAbs = k
  · rw [if_pos h]
    simp [List.filter, h]
  · rw [if_neg h]
    have : (x.natAbs == k) = false := by simpa using h
    simp [List.filter, this]
theorem tab_length (m : Nat) (P : List Side) : (tab m P).length = m + 1 := by simp [tab]
theorem cnt_length (m : Nat) (P : List Side) : (cnt m P).length = m + 1 := by simp [cnt]
theorem tab_gt {m k : Nat} (P : List Side) (h : k ≤ m) : gt (tab m P) (k : Int) = sdl P k := by
  have : k < m + 1 := by omega
  simp [gt, tab, List.getD, this]
theorem cnt_gt {m k : Nat} (P : List Side) (h : k ≤ m) : gt (cnt m P) (k : Int) = ((sdl P k).length : Int) := by
  have : k < m + 1 := by omega
  simp [gt, cnt, List.getD, this]
theorem tab_add {m : Nat} (P : List Side) (a : Int × Int) (x : Int) : (tab m P).set x.natAbs (sdl P x.natAbs ++ [a]) = tab m (P ++ [(a, x)]) := by
  apply List.ext_getElem?
  intro q
  simp only [tab, List.getElem?_set, List.length_map, List.length_range, List.getElem?_map]
  by_cases hq : q < m + 1
  · by_cases hx : x.natAbs = q
    · subst hx; simp [hq, sdl_add]
    · simp [hq, hx, sdl_add]
  · by_cases hx : x.natAbs = q
    · subst hx; simp [hq]
    · simp [hq, hx]
theorem cnt_add {m : Nat} (P : List Side) (a : Int × Int) (x : Int) : (cnt m P).set x.natAbs (((sdl P x.natAbs).length + 1 : Nat) : Int) = cnt m (P ++ [(a, x)]) := by
  apply List.ext_getElem?
  intro q
  simp only [cnt, List.getElem?_set, List.length_map, List.length_range, List.getElem?_map]
  by_cases hq : q < m + 1
  · by_cases hx : x.natAbs = q
    · subst hx; simp [hq, sdl_add]
    · simp [hq, hx, sdl_add]
  · by_cases hx : x.natAbs = q
    · subst hx; simp [hq]
    · simp [hq, hx]
def entB (m : Nat) (x : Int) : Bool := decide (x ≠ 0) && decide (-(m : Int) ≤ x) && decide (x ≤ (m : Int))
def rowB (m : Nat) (t : List Int) : Bool := decide (t.length = 3) && t.all (entB m)
theorem size_abs {m : Nat} (hm : m ≤ 100) {x : Int} (h : entB m x = true) : (if (w64 (0 - x)) > x then (w64 (0 - x)) else x) = (x.natAbs : Int) := by
  unfold entB at h
  simp only [Bool.and_eq_true, decide_eq_true_eq] at h
  rw [w64_in (by omega)]
  split <;> omega
theorem abs_le {m : Nat} {x : Int} (h : entB m x = true) : x.natAbs ≤ m := by
  unfold entB at h
  simp only [Bool.and_eq_true, decide_eq_true_eq] at h
  omega
def ed (n : Nat) : Nat := n * 3 / 2
theorem edges_eq {n : Nat} (h : n ≤ 100) : w64 (Int.tdiv (w64 ((n : Int) * 3)) 2) = (ed n : Int) := by
  have e1 : w64 ((n : Int) * 3) = (n : Int) * 3 := w64_in (by omega)
  rw [e1, Int.tdiv_eq_ediv_of_nonneg (by omega), w64_in (by omega)]
  unfold ed; omega
theorem row_entry {m : Nat} {s : List (List Int)} {i : Nat} (h : rowB m (gt s (i : Int)) = true) {q : Nat} (hq : q < 3) : entB m (entry s i q) = true ∧ (gt s (i : Int)).length = 3 := by
  unfold rowB at h
  simp only [Bool.and_eq_true, decide_eq_true_eq, List.all_eq_true] at h
  refine ⟨h.2 _ ?_, h.1⟩
  unfold entry
  have e : gt (gt s (i : Int)) (q : Int) = (gt s (i : Int))[q]'(by omega) := gt_at (by omega)
  rw [e]
  exact List.getElem_mem _
/-- The program's list of sides, where all rows are good. -/
theorem sides_eq {s : List (List Int)} (hn : s.length ≤ 100) (hr : ∀ i, i < s.length → rowB (ed s.length) (gt s (i : Int)) = true) : impl_sidesOfEdges.f s = some (tab (ed s.length) (preP s s.length)) := by
  have hm : ed s.length ≤ 150 := by unfold ed; omega
  have hm2 : ed s.length ≤ 100 ∨ True := .inr trivial
  unfold impl_sidesOfEdges.f impl_edgesOf.f
  rw [Option.bind_some, edges_eq hn, w64_succ (by omega), show decide ((0 : Int) ≤ ((ed s.length + 1 : Nat) : Int)) = true by simp; omega]
  simp only [grd, cond_true, Int.toNat_natCast]
  rw [small_in (by omega)]
  have ho := loop1_upto (f := impl_sidesOfEdges.b1 s) (fun i => (tab (ed s.length) (preP s i), (i : Int))) s.length (tab (ed s.length) (preP s s.length), (s.length : Int)) (by omega) (fun i hi => by
    unfold impl_sidesOfEdges.b1
    simp only [dlt_nat, hi, decide_true, cond_true]
    rw [chk_in (by omega)]
    have h3 := (row_entry (hr i hi) (q := 0) (by omega)).2
    have hin := loop1_upto (f := impl_sidesOfEdges.b0 s i) (fun j => (tab (ed s.length) (preP s i ++ rowP s i j), (j : Int))) 3 (tab (ed s.length) (preP s i ++ rowP s i 3), 3) (by omega) (fun j hj => by
      unfold impl_sidesOfEdges.b0
      have he := (row_entry (hr i hi) hj).1
      have hle := abs_le he
      simp only [h3]
      rw [show (((3 : Nat) : Int)) = ((3 : Nat) : Int) from rfl]
      simp only [dlt_nat, hj, decide_true, cond_true]
      rw [chk_in (by omega)]
      have hsz : impl_size.f (gt (gt s (i : Int)) (j : Int)) = some ((entry s i j).natAbs : Int) := by
        unfold impl_size.f
        have : entB (ed s.length) (gt (gt s (i : Int)) (j : Int)) = true := he
        have h2 : (if (w64 (0 - gt (gt s (i : Int)) (j : Int))) > gt (gt s (i : Int)) (j : Int) then (w64 (0 - gt (gt s (i : Int)) (j : Int))) else gt (gt s (i : Int)) (j : Int)) = ((entry s i j).natAbs : Int) := by
          unfold entB at this
          simp only [Bool.and_eq_true, decide_eq_true_eq] at this
          rw [w64_in (by omega)]
          unfold entry
          split <;> omega
        rw [h2]
      rw [hsz, Option.bind_some, tab_length, chk_in (by omega), tab_gt _ hle]
      have hlen : (sdl (preP s i ++ rowP s i j) (entry s i j).natAbs).length + 1 ≤ 1099511627776 := by
        have h1 := sdl_le (preP s i ++ rowP s i j) (entry s i j).natAbs
        rw [List.length_append, preP_length, rowP_length] at h1
        omega
      rw [small_in (by simpa using hlen), Int.toNat_natCast, tab_add, w64_succ (by omega)]
      simp only [rowP, List.append_assoc]) (by
      unfold impl_sidesOfEdges.b0
      simp [h3])
    have hin' : loop1 (impl_sidesOfEdges.b0 s i) (tab (ed s.length) (preP s i), 0) = some (tab (ed s.length) (preP s i ++ rowP s i 3), 3) := by simpa [rowP] using hin
    rw [hin']
    simp only [Option.bind_some, w64_succ (by omega : i < 4611686018427387904)]
    rfl) (by
    unfold impl_sidesOfEdges.b1
    simp)
  have e : List.replicate (ed s.length + 1) ([] : List (Int × Int)) = tab (ed s.length) (preP s 0) := by
    apply List.ext_getElem?
    intro q
    by_cases hq : q < ed s.length + 1 <;> simp [tab, preP, sdl, hq]
  rw [e]
  have ho' : loop1 (impl_sidesOfEdges.b1 s) (tab (ed s.length) (preP s 0), 0) = some (tab (ed s.length) (preP s s.length), (s.length : Int)) := ho
  rw [ho']; rfl
def badRows (s : List (List Int)) : Bool := s.any fun t => !rowB (ed s.length) t
def badEdges (s : List (List Int)) : Bool := (List.range (ed s.length)).any fun k => decide ((sdl (preP s s.length) (k + 1)).length ≠ 2)
/-- What both tell. -/
def surfB (s : List (List Int)) : Bool := decide (2 ≤ s.length) && decide (s.length ≤ 12) && decide (s.length % 2 = 0) && !badRows s && !badEdges s
theorem good_rows {s : List (List Int)} (h : badRows s = false) : ∀ i, i < s.length → rowB (ed s.length) (gt s (i : Int)) = true := by
  intro i hi
  unfold badRows at h
  rw [List.any_eq_false] at h
  have := h (gt s (i : Int)) (by rw [gt_at hi]; exact List.getElem_mem _)
  simpa using this
theorem is1_eq {s : List (List Int)} (hn : s.length ≤ 100) (x : Int) : impl_IsSurface_1.f x s = some (!entB (ed s.length) x) := by
  have hm : ed s.length ≤ 150 := by unfold ed; omega
  unfold impl_IsSurface_1.f impl_edgesOf.f impl_in.f
  rw [edges_eq hn]
  simp only [Option.bind_some]
  rw [w64_in (by omega)]
  unfold entB
  by_cases h0 : x = 0
  · subst h0; simp
  · have : (x == 0) = false := by simpa using h0
    rw [this, cond_false]
    congr 2
    have : decide (x ≠ 0) = true := by simpa using h0
    rw [this, Bool.true_and]
    congr 1
    · congr 1
      apply propext
      constructor <;> intro h <;> omega
theorem drop_tab (m : Nat) (P : List Side) : ((tab m P).drop 1).take ((tab m P).length - 1) = (List.range m).map fun k => sdl P (k + 1) := by
  rw [List.take_of_length_le (by simp)]
  apply List.ext_getElem?
  intro q
  simp only [tab, List.getElem?_drop, List.getElem?_map]
  by_cases hq : q < m
  · rw [List.getElem?_range hq, List.getElem?_range (by omega)]
    simp [Nat.add_comm]
  · rw [List.getElem?_eq_none (by simp; omega), List.getElem?_eq_none (by simp; omega)]
    rfl
theorem implSurf {s : List (List Int)} (hn : s.length ≤ 1048576) : impl_IsSurface.f s = some (surfB s) := by
  unfold impl_IsSurface.f impl_in.f
  rw [Option.bind_some]
  by_cases h : 2 ≤ s.length ∧ s.length ≤ 12 ∧ s.length % 2 = 0
  · obtain ⟨h1, h2, h3⟩ := h
    have e1 : (decide ((s.length : Int) ≥ 2) && decide ((s.length : Int) ≤ 12)) = true := by simp; omega
    have e2 : (Int.tmod (s.length : Int) 2 != 0) = false := by rw [Int.tmod_eq_emod_of_nonneg (by omega)]; simp; omega
    rw [e1, e2]
    simp only [Bool.not_true, Bool.or_false, cond_false]
    have hm : ed s.length ≤ 18 := by unfold ed; omega
    have hl := loop_any (f := impl_IsSurface.b0 s) (fun i => (i : Int)) s.length (fun i => !rowB (ed s.length) (gt s (i : Int))) false (s.length : Int) (by omega) (fun i hi => by
      unfold impl_IsSurface.b0
      simp only [dlt_nat, hi, decide_true, cond_true]
      rw [chk_in (by omega), w64_succ (by omega)]
      unfold rowB
      by_cases h3 : (gt s (i : Int)).length = 3
      · have e3 : (((gt s (i : Int)).length : Int) != 3) = false := by rw [h3]; rfl
        rw [e3, cond_false, containsInts _ (by omega) _ (fun x => !entB (ed s.length) x) (fun x _ => is1_eq (by omega) x)]
        simp only [Option.bind_some, h3, decide_true, Bool.true_and]
        have : (gt s (i : Int)).any (fun x => !entB (ed s.length) x) = !(gt s (i : Int)).all (entB (ed s.length)) := by rw [List.all_eq_not_any_not, Bool.not_not]
        rw [this]
        cases (gt s (i : Int)).all (entB (ed s.length)) <;> rfl
      · have e3 : (((gt s (i : Int)).length : Int) != 3) = true := by simp; omega
        rw [e3, cond_true, Option.bind_some, cond_true]
        have : decide ((gt s (i : Int)).length = 3) = false := by simpa using h3
        rw [this]; rfl) (by
      unfold impl_IsSurface.b0
      simp)
    have hl' : loop (impl_IsSurface.b0 s) 0 = some (bif badRows s then .ret false else .brk (s.length : Int)) := by
      have := any_at s (fun t => !rowB (ed s.length) t)
      unfold badRows
      rw [← this]; exact hl
    rw [hl']
    unfold surfB
    have f1 : decide (2 ≤ s.length) = true := decide_eq_true h1
    have f2 : decide (s.length ≤ 12) = true := decide_eq_true h2
    have f3 : decide (s.length % 2 = 0) = true := decide_eq_true h3
    rw [f1, f2, f3]
    cases hb : badRows s with
    | true => rfl
    | false =>
      simp only [cond_false, Option.bind_some, ln]
      rw [sides_eq (by omega) (good_rows hb), Option.bind_some]
      have e4 : (decide (0 ≤ 1) && decide (1 ≤ ((tab (ed s.length) (preP s s.length)).length : Int)) && decide (((tab (ed s.length) (preP s s.length)).length : Int) ≤ ((tab (ed s.length) (preP s s.length)).length : Int))) = true := by
        rw [tab_length]; simp; omega
      rw [e4]
      simp only [grd, cond_true]
      rw [drop_tab, containsSides _ (by simp; omega) _ (fun l => decide (l.length ≠ 2)) (fun l _ => by
        unfold impl_IsSurface_2.f
        congr 1
        rw [Bool.eq_iff_iff]; simp; omega)]
      simp only [Option.bind_some, Bool.true_and, Bool.not_false]
      rw [List.any_map]
      rfl
  · have e : (!(decide ((s.length : Int) ≥ 2) && decide ((s.length : Int) ≤ 12)) || (Int.tmod (s.length : Int) 2 != 0)) = true := by
      rw [Int.tmod_eq_emod_of_nonneg (by omega)]
      by_cases h1 : 2 ≤ s.length
      · by_cases h2 : s.length ≤ 12
        · have : ¬ s.length % 2 = 0 := fun h3 => h ⟨h1, h2, h3⟩
          simp; omega
        · simp; omega
      · simp; omega
    rw [e, cond_true]
    unfold surfB
    have : (decide (2 ≤ s.length) && decide (s.length ≤ 12) && decide (s.length % 2 = 0)) = false := by
      rw [Bool.eq_false_iff]
      intro hc
      simp only [Bool.and_eq_true, decide_eq_true_eq] at hc
      exact h ⟨hc.1.1, hc.1.2, hc.2⟩
    rw [this]; rfl
theorem specSurf {s : List (List Int)} (hn : s.length ≤ 1048576) : spec_l07Is.f s = some (surfB s) := by
  unfold spec_l07Is.f
  by_cases h : 2 ≤ s.length ∧ s.length ≤ 12 ∧ s.length % 2 = 0
  · obtain ⟨h1, h2, h3⟩ := h
    have e1 : (((decide ((s.length : Int) < 2)) || (decide ((s.length : Int) > 12))) || ((Int.tmod (s.length : Int) 2) != 0)) = false := by
      rw [Int.tmod_eq_emod_of_nonneg (by omega)]; simp; omega
    have hm : ed s.length ≤ 18 := by unfold ed; omega
    rw [e1, cond_false, edges_eq (by omega), w64_succ (by omega), show decide ((0 : Int) ≤ ((ed s.length + 1 : Nat) : Int)) = true by simp; omega]
    simp only [grd, cond_true, Int.toNat_natCast]
    rw [small_in (by omega)]
    have hl := loop_any (f := spec_l07Is.b1 s) (fun i => (cnt (ed s.length) (preP s i), (i : Int))) s.length (fun i => !rowB (ed s.length) (gt s (i : Int))) false (cnt (ed s.length) (preP s s.length), (s.length : Int)) (by omega) (fun i hi => by
      unfold spec_l07Is.b1
      simp only [dlt_nat, hi, decide_true, cond_true]
      rw [chk_in (by omega), w64_succ (by omega)]
      by_cases h3 : (gt s (i : Int)).length = 3
      · have e3 : (((gt s (i : Int)).length : Int) != 3) = false := by rw [h3]; rfl
        rw [e3, cond_false]
        have hin := loop_any (f := spec_l07Is.b0 s i) (fun j => (cnt (ed s.length) (preP s i ++ rowP s i j), (j : Int))) 3 (fun j => !entB (ed s.length) (entry s i j)) (.ret false) (cnt (ed s.length) (preP s i ++ rowP s i 3), 3) (by omega) (fun j hj => by
          unfold spec_l07Is.b0
          have hj' : decide ((j : Int) < 3) = true := by simp; omega
          simp only [hj', cond_true]
          rw [chk_in (by omega), edges_eq (by omega)]
          unfold spec_l01In.f
          rw [Option.bind_some, w64_in (x := 0 - (ed s.length : Int)) (by omega)]
          have eb : (!(decide (gt (gt s (i : Int)) (j : Int) ≥ 0 - (ed s.length : Int)) && decide (gt (gt s (i : Int)) (j : Int) ≤ (ed s.length : Int))) || (gt (gt s (i : Int)) (j : Int) == 0)) = !entB (ed s.length) (entry s i j) := by
            unfold entB entry
            rw [Bool.eq_iff_iff]
            simp only [Bool.or_eq_true, Bool.not_eq_true', Bool.and_eq_false_iff, decide_eq_false_iff_not, beq_iff_eq, ne_eq]
            omega
          rw [eb]
          cases hb : entB (ed s.length) (entry s i j) with
          | false => rfl
          | true =>
            simp only [Bool.not_true, cond_false]
            have hle := abs_le hb
            have hsz := size_abs (m := ed s.length) (by omega) hb
            unfold entry at hsz
            rw [hsz]
            have hen : ((gt (gt s (i : Int)) (j : Int)).natAbs) = (entry s i j).natAbs := rfl
            rw [hen, cnt_length, chk_in (by omega), cnt_gt _ hle, Int.toNat_natCast, w64_succ (by
              have h1 := sdl_le (preP s i ++ rowP s i j) (entry s i j).natAbs
              rw [List.length_append, preP_length, rowP_length] at h1
              omega), cnt_add (a := ((i : Int), (j : Int))), w64_succ (by omega)]
            simp only [rowP, List.append_assoc]) (by
          unfold spec_l07Is.b0
          rfl)
        have hin' : loop (spec_l07Is.b0 s i) (cnt (ed s.length) (preP s i), 0) = some (bif (List.range 3).any (fun j => !entB (ed s.length) (entry s i j)) then .ret (.ret false) else .brk (cnt (ed s.length) (preP s i ++ rowP s i 3), 3)) := by simpa [rowP] using hin
        rw [hin']
        have ea : (List.range 3).any (fun j => !entB (ed s.length) (entry s i j)) = !rowB (ed s.length) (gt s (i : Int)) := by
          have := any_at (gt s (i : Int)) (fun x => !entB (ed s.length) x)
          rw [h3] at this
          unfold entry
          rw [this]
          unfold rowB
          rw [h3, List.all_eq_not_any_not]
          simp
        rw [ea]
        cases rowB (ed s.length) (gt s (i : Int)) <;> rfl
      · have e3 : (((gt s (i : Int)).length : Int) != 3) = true := by simp; omega
        rw [e3, cond_true]
        have : rowB (ed s.length) (gt s (i : Int)) = false := by
          unfold rowB
          have : decide ((gt s (i : Int)).length = 3) = false := by simpa using h3
          rw [this]; rfl
        rw [this]; rfl) (by
      unfold spec_l07Is.b1
      simp)
    have e0 : List.replicate (ed s.length + 1) (0 : Int) = cnt (ed s.length) (preP s 0) := by
      apply List.ext_getElem?
      intro q
      by_cases hq : q < ed s.length + 1 <;> simp [cnt, preP, sdl, hq]
    rw [e0]
    have hl' : loop (spec_l07Is.b1 s) (cnt (ed s.length) (preP s 0), 0) = some (bif badRows s then .ret false else .brk (cnt (ed s.length) (preP s s.length), (s.length : Int))) := by
      have := any_at s (fun t => !rowB (ed s.length) t)
      unfold badRows
      rw [← this]; exact hl
    rw [hl']
    unfold surfB
    have f1 : decide (2 ≤ s.length) = true := decide_eq_true h1
    have f2 : decide (s.length ≤ 12) = true := decide_eq_true h2
    have f3 : decide (s.length % 2 = 0) = true := decide_eq_true h3
    rw [f1, f2, f3]
    cases hb : badRows s with
    | true => rfl
    | false =>
      simp only [cond_false, Option.bind_some, ln]
      have hk := loop_any (f := spec_l07Is.b2 s (cnt (ed s.length) (preP s s.length))) (fun k => ((k + 1 : Nat) : Int)) (ed s.length) (fun k => decide ((sdl (preP s s.length) (k + 1)).length ≠ 2)) false ((ed s.length + 1 : Nat) : Int) (by omega) (fun k hk => by
        unfold spec_l07Is.b2
        rw [edges_eq (by omega)]
        have hd : decide (((k + 1 : Nat) : Int) ≤ (ed s.length : Int)) = true := by simp; omega
        rw [hd, cond_true, cnt_length, chk_in (by omega), cnt_gt _ (by omega), w64_succ (by omega)]
        have : ((((sdl (preP s s.length) (k + 1)).length : Nat) : Int) != 2) = decide ((sdl (preP s s.length) (k + 1)).length ≠ 2) := by
          rw [Bool.eq_iff_iff]; simp; omega
        rw [this]
        cases decide ((sdl (preP s s.length) (k + 1)).length ≠ 2) <;> rfl) (by
        unfold spec_l07Is.b2
        rw [edges_eq (by omega)]
        have hd : decide (((ed s.length + 1 : Nat) : Int) ≤ (ed s.length : Int)) = false := by simp; omega
        rw [hd]; rfl)
      have hk' : loop (spec_l07Is.b2 s (cnt (ed s.length) (preP s s.length))) 1 = some (bif badEdges s then .ret false else .brk ((ed s.length + 1 : Nat) : Int)) := hk
      rw [hk']
      cases badEdges s <;> rfl
  · have e : (((decide ((s.length : Int) < 2)) || (decide ((s.length : Int) > 12))) || ((Int.tmod (s.length : Int) 2) != 0)) = true := by
      rw [Int.tmod_eq_emod_of_nonneg (by omega)]
      by_cases h1 : 2 ≤ s.length
      · by_cases h2 : s.length ≤ 12
        · have : ¬ s.length % 2 = 0 := fun h3 => h ⟨h1, h2, h3⟩
          simp; omega
        · simp; omega
      · simp; omega
    rw [e, cond_true]
    unfold surfB
    have : (decide (2 ≤ s.length) && decide (s.length ≤ 12) && decide (s.length % 2 = 0)) = false := by
      rw [Bool.eq_false_iff]
      intro hc
      simp only [Bool.and_eq_true, decide_eq_true_eq] at hc
      exact h ⟨hc.1.1, hc.1.2, hc.2⟩
    rw [this]; rfl
end Go.Proofs.Ytiiljfpbcanphaa.G

/- Surfaces that are oriented, told by both. -/
namespace Go.Proofs.Ytiiljfpbcanphaa.G
open Go Go.Sx Go.Proofs
def fl (P : List Side) (k : Nat) : List Side := P.filter fun p => p.2.natAbs == k
theorem sdl_fl (P : List Side) (k : Nat) : sdl P k = (fl P k).map (·.1) := rfl
def sn (x : Int) : Int := if x > 0 then 1 else -1
def sg (P : List Side) (k : Nat) : Int := ((fl P k).map fun p => sn p.2).sum
def sgs (m : Nat) (P : List Side) : List Int := (List.range (m + 1)).map (sg P)
theorem fl_add (P : List Side) (a : Int × Int) (x : Int) (k : Nat) : fl (P ++ [(a, x)]) k = if x.natAbs = k then fl P k ++ [(a, x)] else fl P k := by
  unfold fl
  rw [List.filter_append]
  by_cases h : x.natAbs = k
  · rw [if_pos h]; simp [List.filter, h]
  · rw [if_neg h]
    have : (x.natAbs == k) = false := by simpa using h
    simp [List.filter, this]
theorem sg_add (P : List Side) (a : Int × Int) (x : Int) (k : Nat) : sg (P ++ [(a, x)]) k = if x.natAbs = k then sg P k + sn x else sg P k := by
  unfold sg
  rw [fl_add]
  by_cases h : x.natAbs = k
  · rw [if_pos h, if_pos h]; simp
  · rw [if_neg h, if_neg h]
theorem sum_le : ∀ l : List Side, -(l.length : Int) ≤ (l.map fun p => sn p.2).sum ∧ (l.map fun p => sn p.2).sum ≤ l.length
  | [] => by simp
  | p :: l => by
    have := sum_le l
    simp only [List.map_cons, List.sum_cons, List.length_cons]
    have h : sn p.2 = 1 ∨ sn p.2 = -1 := by unfold sn; split <;> simp
    rcases h with h | h <;> rw [h] <;> omega
theorem sg_le (P : List Side) (k : Nat) : -(P.length : Int) ≤ sg P k ∧ sg P k ≤ P.length := by
  have h1 := sum_le (fl P k)
  have h2 : (fl P k).length ≤ P.length := List.length_filter_le _ _
  unfold sg; omega
theorem sgs_length (m : Nat) (P : List Side) : (sgs m P).length = m + 1 := by simp [sgs]
theorem sgs_gt {m k : Nat} (P : List Side) (h : k ≤ m) : gt (sgs m P) (k : Int) = sg P k := by
  have : k < m + 1 := by omega
  simp [gt, sgs, List.getD, this]
theorem sgs_add {m : Nat} (P : List Side) (a : Int × Int) (x : Int) : (sgs m P).set x.natAbs (sg P x.natAbs + sn x) = sgs m (P ++ [(a, x)]) := by
  apply List.ext_getElem?
  intro q
  simp only [sgs, List.getElem?_set, List.length_map, List.length_range, List.getElem?_map]
  by_cases hq : q < m + 1
  · by_cases hx : x.natAbs = q
    · subst hx; simp [hq, sg_add]
    · simp [hq, hx, sg_add]
  · by_cases hx : x.natAbs = q
    · subst hx; simp [hq]
    · simp [hq, hx]
theorem mem_rowP {s : List (List Int)} {i : Nat} : ∀ {j} {p : Side}, p ∈ rowP s i j → ∃ q : Nat, q < j ∧ p = (((i : Int), (q : Int)), entry s i q)
  | 0, _, h => by cases h
  | j + 1, p, h => by
    rcases List.mem_append.1 h with h | h
    · obtain ⟨q, hq, e⟩ := mem_rowP h; exact ⟨q, by omega, e⟩
    · exact ⟨j, by omega, by simpa using h⟩
theorem mem_preP {s : List (List Int)} : ∀ {n} {p : Side}, p ∈ preP s n → ∃ i q : Nat, i < n ∧ q < 3 ∧ p = (((i : Int), (q : Int)), entry s i q)
  | 0, _, h => by cases h
  | n + 1, p, h => by
    rcases List.mem_append.1 h with h | h
    · obtain ⟨i, q, hi, hq, e⟩ := mem_preP h; exact ⟨i, q, by omega, hq, e⟩
    · obtain ⟨q, hq, e⟩ := mem_rowP h; exact ⟨n, q, by omega, hq, e⟩
structure Surf (s : List (List Int)) : Prop where
  two : 2 ≤ s.length
  most : s.length ≤ 12
  even : s.length % 2 = 0
  row : ∀ i, i < s.length → rowB (ed s.length) (gt s (i : Int)) = true
  edge : ∀ k, k < ed s.length → (sdl (preP s s.length) (k + 1)).length = 2
theorem surf_of {s : List (List Int)} (h : surfB s = true) : Surf s := by
  unfold surfB at h
  simp only [Bool.and_eq_true, decide_eq_true_eq, Bool.not_eq_true'] at h
  refine ⟨h.1.1.1.1, h.1.1.1.2, h.1.1.2, good_rows h.1.2, fun k hk => ?_⟩
  have := h.2
  unfold badEdges at this
  rw [List.any_eq_false] at this
  have := this k (List.mem_range.2 hk)
  simpa using this
theorem Surf.edge2 {s : List (List Int)} (h : Surf s) {k : Nat} (hk : k < ed s.length) : ∃ p q, fl (preP s s.length) (k + 1) = [p, q] ∧ p ∈ preP s s.length ∧ q ∈ preP s s.length ∧ p.2.natAbs = k + 1 ∧ q.2.natAbs = k + 1 := by
  have h1 := h.edge k hk
  rw [sdl_fl, List.length_map] at h1
  match hf : fl (preP s s.length) (k + 1), h1 with
  | [p, q], _ =>
    have hp : p ∈ fl (preP s s.length) (k + 1) := by rw [hf]; simp
    have hq : q ∈ fl (preP s s.length) (k + 1) := by rw [hf]; simp
    unfold fl at hp hq
    rw [List.mem_filter] at hp hq
    exact ⟨p, q, rfl, hp.1, hq.1, by simpa using hp.2, by simpa using hq.2⟩
/-- One edge is passed twice in the same direction. -/
def sameE (s : List (List Int)) (k : Nat) : Bool := decide (sg (preP s s.length) (k + 1) ≠ 0)
def orB (s : List (List Int)) : Bool := !(List.range (ed s.length)).any (sameE s)
theorem at_side {s : List (List Int)} (h : Surf s) {p : Side} (hp : p ∈ preP s s.length) {α : Type} (k : Int → Option α) : chk p.1.1 s.length (chk p.1.2 ((gt s p.1.1).length) (k (gt (gt s p.1.1) p.1.2))) = k p.2 := by
  obtain ⟨i, q, hi, hq, rfl⟩ := mem_preP hp
  have h3 := (row_entry (h.row i hi) (q := 0) (by omega)).2
  rw [chk_in (by simp only; omega), chk_in (by simp only; omega)]
  rfl
theorem oriented1 {s : List (List Int)} (h : Surf s) {k : Nat} (hk : k < ed s.length) : impl_oriented_1.f (sdl (preP s s.length) (k + 1)) s = some (sameE s k) := by
  obtain ⟨p, q, hf, hp, hq, ap, aq⟩ := h.edge2 hk
  unfold impl_oriented_1.f
  have e : sdl (preP s s.length) (k + 1) = [p.1, q.1] := by rw [sdl_fl, hf]; rfl
  rw [e]
  have g0 : gt [p.1, q.1] 0 = p.1 := rfl
  have g1 : gt [p.1, q.1] 1 = q.1 := rfl
  rw [chk_in (by simp), g0, g1]
  have := at_side h hp (fun x => chk 1 [p.1, q.1].length (chk q.1.1 s.length (chk q.1.2 ((gt s q.1.1).length) (some (x == (gt (gt s q.1.1) q.1.2))))))
  rw [this, chk_in (by simp)]
  have := at_side h hq (fun y => some (p.2 == y))
  rw [this]
  congr 1
  unfold sameE sg
  rw [hf]
  simp only [List.map_cons, List.map_nil, List.sum_cons, List.sum_nil]
  rw [Bool.eq_iff_iff, beq_iff_eq, decide_eq_true_iff]
  unfold sn
  split <;> split <;> omega
theorem implOr {s : List (List Int)} (h : Surf s) : impl_oriented.f s = some (orB s) := by
  have h2 := h.most
  have hm : ed s.length ≤ 18 := by unfold ed; omega
  unfold impl_oriented.f
  rw [sides_eq (by omega) h.row, Option.bind_some]
  have e4 : (decide (0 ≤ 1) && decide (1 ≤ ((tab (ed s.length) (preP s s.length)).length : Int)) && decide (((tab (ed s.length) (preP s s.length)).length : Int) ≤ ((tab (ed s.length) (preP s s.length)).length : Int))) = true := by
    rw [tab_length]; simp; omega
  rw [e4]
  simp only [grd, cond_true]
  have hc := containsSides ((List.range (ed s.length)).map fun k => sdl (preP s s.length) (k + 1)) (by simp; omega) (fun x0_ => impl_oriented_1.f x0_ s) (fun l => (impl_oriented_1.f l s).getD false) (fun l hl => by
    obtain ⟨k, hk, rfl⟩ := List.mem_map.1 hl
    rw [oriented1 h (List.mem_range.1 hk)]; rfl)
  rw [drop_tab, hc]
  simp only [Option.bind_some]
  congr 2
  rw [List.any_map]
  refine any_congr fun k hk => ?_
  show (impl_oriented_1.f (sdl (preP s s.length) (k + 1)) s).getD false = _
  rw [oriented1 h hk]; rfl
theorem specOr {s : List (List Int)} (h : Surf s) : spec_l07Oriented.f s = some (orB s) := by
  have h2 := h.most
  have hm : ed s.length ≤ 18 := by unfold ed; omega
  unfold spec_l07Oriented.f
  rw [edges_eq (by omega), w64_succ (by omega), show decide ((0 : Int) ≤ ((ed s.length + 1 : Nat) : Int)) = true by simp; omega]
  simp only [grd, cond_true, Int.toNat_natCast]
  rw [small_in (by omega)]
  have hl := loop1_upto (f := spec_l07Oriented.b1 s) (fun i => (sgs (ed s.length) (preP s i), (i : Int))) s.length (sgs (ed s.length) (preP s s.length), (s.length : Int)) (by omega) (fun i hi => by
    unfold spec_l07Oriented.b1
    simp only [dlt_nat, hi, decide_true, cond_true]
    have h3 := (row_entry (h.row i hi) (q := 0) (by omega)).2
    have hin := loop1_upto (f := spec_l07Oriented.b0 i s) (fun j => (sgs (ed s.length) (preP s i ++ rowP s i j), (j : Int))) 3 (sgs (ed s.length) (preP s i ++ rowP s i 3), 3) (by omega) (fun j hj => by
      unfold spec_l07Oriented.b0
      have hj' : decide ((j : Int) < 3) = true := by simp; omega
      have he := (row_entry (h.row i hi) hj).1
      have hle := abs_le he
      have hsg := sg_le (preP s i ++ rowP s i j) (entry s i j).natAbs
      rw [List.length_append, preP_length, rowP_length] at hsg
      have hen : gt (gt s (i : Int)) (j : Int) = entry s i j := rfl
      simp only [hj', cond_true]
      rw [chk_in (by omega), chk_in (by omega), hen]
      have hne : entry s i j ≠ 0 := by
        unfold entB at he
        simp only [Bool.and_eq_true, decide_eq_true_eq] at he
        exact he.1.1
      by_cases hpos : entry s i j > 0
      · have ea : entry s i j = ((entry s i j).natAbs : Int) := by omega
        have hs : sn (entry s i j) = 1 := by unfold sn; rw [if_pos hpos]
        have := sgs_add (m := ed s.length) (preP s i ++ rowP s i j) ((i : Int), (j : Int)) (entry s i j)
        rw [hs] at this
        have e1 : gt (sgs (ed s.length) (preP s i ++ rowP s i j)) (entry s i j) = sg (preP s i ++ rowP s i j) (entry s i j).natAbs := by
          conv => lhs; rw [ea]
          exact sgs_gt _ hle
        have e2 : (entry s i j).toNat = (entry s i j).natAbs := by omega
        rw [decide_eq_true hpos, cond_true, sgs_length, chk_in (by omega), e1, e2, w64_in (x := sg (preP s i ++ rowP s i j) (entry s i j).natAbs + 1) (by omega), this, Option.bind_some, w64_succ (by omega)]
        simp only [rowP, List.append_assoc]
      · have ea : w64 (0 - entry s i j) = ((entry s i j).natAbs : Int) := by rw [w64_in (by omega)]; omega
        have hs : sn (entry s i j) = -1 := by unfold sn; rw [if_neg hpos]
        have := sgs_add (m := ed s.length) (preP s i ++ rowP s i j) ((i : Int), (j : Int)) (entry s i j)
        rw [hs] at this
        rw [decide_eq_false hpos, cond_false, ea, sgs_length, chk_in (by omega), sgs_gt _ hle, Int.toNat_natCast, w64_in (x := sg (preP s i ++ rowP s i j) (entry s i j).natAbs - 1) (by omega)]
        have e3 : sg (preP s i ++ rowP s i j) (entry s i j).natAbs - 1 = sg (preP s i ++ rowP s i j) (entry s i j).natAbs + -1 := by omega
        rw [e3, this, Option.bind_some, w64_succ (by omega)]
        simp only [rowP, List.append_assoc]) (by
      unfold spec_l07Oriented.b0
      rfl)
    have hin' : loop1 (spec_l07Oriented.b0 i s) (sgs (ed s.length) (preP s i), 0) = some (sgs (ed s.length) (preP s i ++ rowP s i 3), 3) := by simpa [rowP] using hin
    rw [hin']
    simp only [Option.bind_some, w64_succ (by omega : i < 4611686018427387904)]
    rfl) (by
    unfold spec_l07Oriented.b1
    simp)
  have e0 : List.replicate (ed s.length + 1) (0 : Int) = sgs (ed s.length) (preP s 0) := by
    apply List.ext_getElem?
    intro q
    by_cases hq : q < ed s.length + 1 <;> simp [sgs, preP, sg, fl, hq]
  rw [e0]
  have hl' : loop1 (spec_l07Oriented.b1 s) (sgs (ed s.length) (preP s 0), 0) = some (sgs (ed s.length) (preP s s.length), (s.length : Int)) := hl
  rw [hl', Option.bind_some]
  have hk := loop_any (f := spec_l07Oriented.b2 (sgs (ed s.length) (preP s s.length))) (fun k => (k : Int)) (ed s.length + 1) (fun k => decide (sg (preP s s.length) k ≠ 0)) false ((ed s.length + 1 : Nat) : Int) (by omega) (fun k hk => by
    unfold spec_l07Oriented.b2
    simp only [sgs_length, dlt_nat, hk, decide_true, cond_true]
    rw [chk_in (by omega), sgs_gt _ (by omega), w64_succ (by omega)]
    have : (sg (preP s s.length) k != 0) = decide (sg (preP s s.length) k ≠ 0) := by rw [Bool.eq_iff_iff]; simp
    rw [this]
    cases decide (sg (preP s s.length) k ≠ 0) <;> rfl) (by
    unfold spec_l07Oriented.b2
    simp [sgs_length])
  have hk' : loop (spec_l07Oriented.b2 (sgs (ed s.length) (preP s s.length))) 0 = _ := hk
  rw [hk']
  have hz : sg (preP s s.length) 0 = 0 := by
    unfold sg
    have : fl (preP s s.length) 0 = [] := by
      unfold fl
      rw [List.filter_eq_nil_iff]
      intro p hp hc
      obtain ⟨i, q, hi, hq, rfl⟩ := mem_preP hp
      have he := (row_entry (h.row i hi) hq).1
      unfold entB at he
      simp only [Bool.and_eq_true, decide_eq_true_eq] at he
      simp at hc
      exact he.1.1 hc
    rw [this]; rfl
  have e : (List.range (ed s.length + 1)).any (fun k => decide (sg (preP s s.length) k ≠ 0)) = (List.range (ed s.length)).any (sameE s) := by
    rw [List.range_succ_eq_map, List.any_cons, List.any_map, hz]
    rfl
  rw [e]
  unfold orB
  cases (List.range (ed s.length)).any (sameE s) <;> rfl
end Go.Proofs.Ytiiljfpbcanphaa.G

/- The vertices of a surface, counted by both. -/
namespace Go.Proofs.Ytiiljfpbcanphaa.G
open Go Go.Sx Go.Proofs
/-- The end, and the beginning, of a side, as things. -/
def endN (x : Int) : Nat := if x > 0 then 2 * x.natAbs - 1 else 2 * x.natAbs - 2
def begN (x : Int) : Nat := if x > 0 then 2 * x.natAbs - 2 else 2 * x.natAbs - 1
theorem ends_eq {m : Nat} (hm : m ≤ 100) {x : Int} (h : entB m x = true) : impl_ends.f x = some (((begN x : Nat) : Int), ((endN x : Nat) : Int)) := by
  unfold impl_ends.f impl_size.f
  rw [size_abs hm h]
  have hle := abs_le h
  unfold entB at h
  simp only [Bool.and_eq_true, decide_eq_true_eq] at h
  have h1 : 1 ≤ x.natAbs := by omega
  simp only [Option.bind_some]
  rw [w64_in (x := (x.natAbs : Int) - 1) (by omega), w64_in (x := 2 * ((x.natAbs : Int) - 1)) (by omega), w64_in (x := 2 * ((x.natAbs : Int) - 1) + 1) (by omega)]
  unfold begN endN
  by_cases hp : x > 0
  · rw [decide_eq_true hp, cond_true, if_pos hp, if_pos hp]
    congr 2 <;> omega
  · rw [decide_eq_false hp, cond_false, if_neg hp, if_neg hp]
    congr 2 <;> omega
theorem end_eq {m : Nat} (hm : m ≤ 100) {x : Int} (h : entB m x = true) : spec_l07End.f x true = some ((endN x : Nat) : Int) ∧ spec_l07End.f x false = some ((begN x : Nat) : Int) := by
  unfold spec_l07End.f
  have hle := abs_le h
  unfold entB at h
  simp only [Bool.and_eq_true, decide_eq_true_eq] at h
  unfold begN endN
  by_cases hp : x > 0
  · rw [decide_eq_false (by omega)]
    simp only [cond_false, Option.bind_some, cond_true]
    rw [w64_in (x := 2 * x) (by omega), w64_in (x := 2 * x - 1) (by omega), w64_in (x := 2 * x - 2) (by omega), if_pos hp, if_pos hp]
    constructor <;> congr 1 <;> omega
  · rw [decide_eq_true (by omega)]
    simp only [cond_true, Option.bind_some, Bool.not_true, Bool.not_false, cond_false]
    rw [w64_in (x := 0 - x) (by omega), w64_in (x := 2 * (0 - x)) (by omega), w64_in (x := 2 * (0 - x) - 1) (by omega), w64_in (x := 2 * (0 - x) - 2) (by omega), if_neg hp, if_neg hp]
    constructor <;> congr 1 <;> omega
theorem end_lt {n m : Nat} (hm : 2 * m = n) {x : Int} (h : entB m x = true) : endN x < n ∧ begN x < n := by
  have hle := abs_le h
  unfold entB at h
  simp only [Bool.and_eq_true, decide_eq_true_eq] at h
  unfold endN begN
  split <;> omega
/-- The pairs that are joined: all of the first i triangles, and j more. -/
def vrow (s : List (List Int)) (i : Nat) : Nat → List (Nat × Nat) → List (Nat × Nat)
  | 0, ps => ps
  | j + 1, ps => (endN (entry s i j), begN (entry s i ((j + 1) % 3))) :: vrow s i j ps
def vall (s : List (List Int)) : Nat → List (Nat × Nat)
  | 0 => []
  | i + 1 => vrow s i 3 (vall s i)
/-- A loop that goes on with something that is there. -/
theorem loop1_ex {σ : Type} {f : σ → Option (LB σ)} (J : Nat → σ → Prop) (Q : σ → Prop) (n : Nat) (hn : n < 1000000) (s : σ) (h0 : J 0 s) (step : ∀ i s, i < n → J i s → ∃ s', f s = some (.next s') ∧ J (i + 1) s') (fin : ∀ s, J n s → ∃ s', f s = some (.brk s') ∧ Q s') : ∃ o, loop1 f s = some o ∧ Q o := by
  have key : ∀ d i s, i + d = n → J i s → ∃ o, loopN (ρ := Empty) (fun s => (f s).map LB.lr) (d + 1) s = some (.brk o) ∧ Q o := by
    intro d
    induction d with
    | zero =>
      intro i s hi hj
      obtain rfl : i = n := by omega
      obtain ⟨s', h1, h2⟩ := fin s hj
      exact ⟨s', by simp only [loopN, h1]; rfl, h2⟩
    | succ d ih =>
      intro i s hi hj
      obtain ⟨s', h1, h2⟩ := step i s (by omega) hj
      obtain ⟨o, ho, hq⟩ := ih (i + 1) s' (by omega) h2
      exact ⟨o, by rw [loopN, h1]; exact ho, hq⟩
  obtain ⟨o, ho, hq⟩ := key n 0 s (by omega) h0
  exact ⟨o, loop1_of (loop_of ho (by omega)), hq⟩
theorem ed2 {n : Nat} (h : n % 2 = 0) : 2 * ed n = 3 * n := by unfold ed; omega
theorem next3 {j : Nat} (hj : j < 3) : Int.tmod (w64 ((j : Int) + 1)) 3 = (((j + 1) % 3 : Nat) : Int) := by
  rw [w64_in (by omega), Int.tmod_eq_emod_of_nonneg (by omega)]; omega
theorem implVert {s : List (List Int)} (h : Surf s) : ∃ g, impl_vertices.f s = some (roots (3 * s.length) (isRoot g) : Int) ∧ Pool (3 * s.length) g (vall s s.length) := by
  have h2 := h.most
  have h3 := h.two
  have he := ed2 h.even
  have hm : ed s.length ≤ 18 := by unfold ed; omega
  unfold impl_vertices.f impl_edgesOf.f
  rw [Option.bind_some, edges_eq (by omega), w64_in (x := 2 * (ed s.length : Int)) (by omega), show (2 * (ed s.length : Int)) = ((3 * s.length : Nat) : Int) by omega, poolOf_eq _ (by omega), Option.bind_some]
  obtain ⟨o, ho, g, hg, hp⟩ := loop1_ex (f := impl_vertices.b1 s) (fun i st => ∃ g, st = (lz (3 * s.length) g, (i : Int)) ∧ Pool (3 * s.length) g (vall s i)) (fun o => ∃ g, o.1 = lz (3 * s.length) g ∧ Pool (3 * s.length) g (vall s s.length)) s.length (by omega) (lz (3 * s.length) id, 0) ⟨id, rfl, Pool.start _⟩
    (by
      rintro i st hi ⟨g, rfl, hp⟩
      unfold impl_vertices.b1
      have hl := (row_entry (h.row i hi) (q := 0) (by omega)).2
      simp only [dlt_nat, hi, decide_true, cond_true]
      rw [chk_in (by omega)]
      obtain ⟨o, ho, g', rfl, hp'⟩ := loop1_ex (f := impl_vertices.b0 s i) (fun j st => ∃ g, st = (lz (3 * s.length) g, (j : Int)) ∧ Pool (3 * s.length) g (vrow s i j (vall s i))) (fun o => ∃ g, o = (lz (3 * s.length) g, 3) ∧ Pool (3 * s.length) g (vrow s i 3 (vall s i))) 3 (by omega) (lz (3 * s.length) g, 0) ⟨g, rfl, hp⟩
        (by
          rintro j st hj ⟨g, rfl, hp⟩
          unfold impl_vertices.b0
          have hj' : decide ((j : Int) < 3) = true := by simp; omega
          have e1 := (row_entry (h.row i hi) hj).1
          have e2 := (row_entry (h.row i hi) (q := (j + 1) % 3) (by omega)).1
          have en1 : gt (gt s (i : Int)) (j : Int) = entry s i j := rfl
          have en2 : gt (gt s (i : Int)) (((j + 1) % 3 : Nat) : Int) = entry s i ((j + 1) % 3) := rfl
          simp only [hl]
          rw [show ((((3 : Nat)) : Int)) = 3 from rfl, hj', cond_true, chk_in (by omega), en1, ends_eq (by omega) e1]
          simp only [Option.bind_some]
          rw [next3 hj, chk_in (by omega), en2, ends_eq (by omega) e2]
          simp only [Option.bind_some]
          obtain ⟨g', hg', hp'⟩ := hp.join (by omega) (i := endN (entry s i j)) (k := begN (entry s i ((j + 1) % 3))) (end_lt he e1).1 (end_lt he e2).2
          rw [hg', Option.bind_some, w64_succ (by omega)]
          exact ⟨_, rfl, g', rfl, hp'⟩)
        (by
          rintro st ⟨g, rfl, hp⟩
          unfold impl_vertices.b0
          simp only [hl]
          exact ⟨_, rfl, g, rfl, hp⟩)
      rw [ho]
      simp only [Option.bind_some]
      rw [w64_succ (by omega)]
      exact ⟨_, rfl, g', rfl, hp'⟩)
    (by
      rintro st ⟨g, rfl, hp⟩
      unfold impl_vertices.b1
      simp only [dlt_nat, Nat.lt_irrefl, decide_false, cond_false]
      exact ⟨_, rfl, g, rfl, hp⟩)
  refine ⟨g, ?_, hp⟩
  rw [ho]
  simp only [Option.bind_some]
  obtain ⟨o1, o2⟩ := o
  simp only at hg
  subst hg
  show (impl_pool_distinct.f (lz (3 * s.length) g)).bind _ = _
  rw [distinct_eq hp.le (by omega)]
  rfl
theorem specVert {s : List (List Int)} (h : Surf s) : ∃ f, spec_l07Vertices.f s = some (roots (3 * s.length) (isFirst f) : Int) ∧ Marks (3 * s.length) f (vall s s.length) := by
  have h2 := h.most
  have h3 := h.two
  have he := ed2 h.even
  have hm : ed s.length ≤ 18 := by unfold ed; omega
  unfold spec_l07Vertices.f
  rw [w64_in (x := (s.length : Int) * 3) (by omega), show ((s.length : Int) * 3) = ((3 * s.length : Nat) : Int) by omega, numbers_eq _ (by omega), Option.bind_some]
  obtain ⟨o, ho, g, hg, hp⟩ := loop1_ex (f := spec_l07Vertices.b1 s) (fun i st => ∃ g, st = (lz (3 * s.length) g, (i : Int)) ∧ Marks (3 * s.length) g (vall s i)) (fun o => ∃ g, o.1 = lz (3 * s.length) g ∧ Marks (3 * s.length) g (vall s s.length)) s.length (by omega) (lz (3 * s.length) id, 0) ⟨id, rfl, Marks.start _⟩
    (by
      rintro i st hi ⟨g, rfl, hp⟩
      unfold spec_l07Vertices.b1
      have hl := (row_entry (h.row i hi) (q := 0) (by omega)).2
      simp only [dlt_nat, hi, decide_true, cond_true]
      obtain ⟨o, ho, g', rfl, hp'⟩ := loop1_ex (f := spec_l07Vertices.b0 i s) (fun j st => ∃ g, st = (lz (3 * s.length) g, (j : Int)) ∧ Marks (3 * s.length) g (vrow s i j (vall s i))) (fun o => ∃ g, o = (lz (3 * s.length) g, 3) ∧ Marks (3 * s.length) g (vrow s i 3 (vall s i))) 3 (by omega) (lz (3 * s.length) g, 0) ⟨g, rfl, hp⟩
        (by
          rintro j st hj ⟨g, rfl, hp⟩
          unfold spec_l07Vertices.b0
          have hj' : decide ((j : Int) < 3) = true := by simp; omega
          have e1 := (row_entry (h.row i hi) hj).1
          have e2 := (row_entry (h.row i hi) (q := (j + 1) % 3) (by omega)).1
          have en1 : gt (gt s (i : Int)) (j : Int) = entry s i j := rfl
          have en2 : gt (gt s (i : Int)) (((j + 1) % 3 : Nat) : Int) = entry s i ((j + 1) % 3) := rfl
          simp only [hj', cond_true]
          rw [chk_in (by omega), chk_in (by omega), en1, (end_eq (by omega) e1).1, Option.bind_some, next3 hj, chk_in (by omega), en2, (end_eq (by omega) e2).2, Option.bind_some]
          obtain ⟨g', hg', hp'⟩ := hp.join (by omega) (i := endN (entry s i j)) (k := begN (entry s i ((j + 1) % 3))) (end_lt he e1).1 (end_lt he e2).2
          rw [hg', Option.bind_some, w64_succ (by omega)]
          exact ⟨_, rfl, g', rfl, hp'⟩)
        (by
          rintro st ⟨g, rfl, hp⟩
          unfold spec_l07Vertices.b0
          exact ⟨_, rfl, g, rfl, hp⟩)
      rw [ho]
      simp only [Option.bind_some]
      rw [w64_succ (by omega)]
      exact ⟨_, rfl, g', rfl, hp'⟩)
    (by
      rintro st ⟨g, rfl, hp⟩
      unfold spec_l07Vertices.b1
      simp only [dlt_nat, Nat.lt_irrefl, decide_false, cond_false]
      exact ⟨_, rfl, g, rfl, hp⟩)
  refine ⟨g, ?_, hp⟩
  rw [ho]
  simp only [Option.bind_some]
  obtain ⟨o1, o2⟩ := o
  simp only at hg
  subst hg
  show (spec_l07Different.f (lz (3 * s.length) g)).bind _ = _
  rw [different_eq (by omega)]
  rfl
theorem vert_same {s : List (List Int)} (h : Surf s) : ∃ v : Nat, v ≤ 36 ∧ impl_vertices.f s = some (v : Int) ∧ spec_l07Vertices.f s = some (v : Int) := by
  obtain ⟨g, h1, h2⟩ := implVert h
  obtain ⟨f, h3, h4⟩ := specVert h
  have h5 := h.most
  have h6 := roots_le (3 * s.length) (isRoot g)
  refine ⟨_, by omega, h1, ?_⟩
  rw [h3, count_same h2 h4 (fun _ _ => Iff.rfl)]
end Go.Proofs.Ytiiljfpbcanphaa.G

/- Rows less others, scaled rows, leaders: told by both. -/
namespace Go.Proofs.Ytiiljfpbcanphaa.G
open Go Go.Sx Go.Proofs
theorem zl_push (n : Nat) (e : Nat → Int) : zl n e ++ [e n] = zl (n + 1) e := by
  unfold zl; rw [List.range_succ, List.map_append]; rfl
theorem mul13 {x y : Int} (hx : 0 ≤ x ∧ x ≤ 13) (hy : 0 ≤ y ∧ y ≤ 13) : 0 ≤ x * y ∧ x * y ≤ 169 := by
  have h1 : 0 ≤ x * y := Int.mul_nonneg hx.1 hy.1
  have h2 : x * y ≤ 13 * 13 := Int.mul_le_mul hx.2 hy.2 hy.1 (by omega)
  omega
theorem less_e {x y b : Int} (hx : 0 ≤ x ∧ x ≤ 13) (hy : 0 ≤ y ∧ y ≤ 13) (hb : 0 ≤ b ∧ b ≤ 13) : w64 (x - w64 (b * y)) = x - b * y := by
  have := mul13 hb hy
  rw [w64_in (x := b * y) (by omega), w64_in (by omega)]
section
variable {p : Int} {r o : List Int} {b : Int}
theorem implLess (hp : 2 ≤ p ∧ p ≤ 13) (hl : r.length ≤ 1000) (hlo : r.length ≤ o.length) (hr : ∀ i : Nat, i < r.length → 0 ≤ gt r (i : Int) ∧ gt r (i : Int) ≤ 13) (ho : ∀ i : Nat, i < r.length → 0 ≤ gt o (i : Int) ∧ gt o (i : Int) ≤ 13) (hb : 0 ≤ b ∧ b ≤ 13) :
    impl_lessTimes.f r o b p = some (lessV p r o b) := by
  unfold impl_lessTimes.f
  have h := loop1_upto (f := impl_lessTimes.b0 r o b p) (fun i => (zl i (fun i => (gt r (i : Int) - b * gt o (i : Int)) % p), (i : Int))) r.length (lessV p r o b, (r.length : Int)) (by omega) (fun i hi => by
    unfold impl_lessTimes.b0
    simp only [dlt_nat, hi, decide_true, cond_true]
    rw [chk_in (by omega), chk_in (by omega), less_e (hr i hi) (ho i hi) hb, implRest _ hp]
    simp only [Option.bind_some]
    rw [small_in (by rw [zl_length]; simp; omega), zl_push i (fun i => (gt r (i : Int) - b * gt o (i : Int)) % p), w64_succ (by omega)]) (by
    unfold impl_lessTimes.b0
    simp [lessV])
  have h' : loop1 (impl_lessTimes.b0 r o b p) (([] : List Int), 0) = _ := h
  rw [h']; rfl
theorem specLess (hp : 2 ≤ p ∧ p ≤ 13) (hl : r.length ≤ 1000) (hlo : r.length ≤ o.length) (hr : ∀ i : Nat, i < r.length → 0 ≤ gt r (i : Int) ∧ gt r (i : Int) ≤ 13) (ho : ∀ i : Nat, i < r.length → 0 ≤ gt o (i : Int) ∧ gt o (i : Int) ≤ 13) (hb : 0 ≤ b ∧ b ≤ 13) :
    spec_l01Less.f p r o b = some (lessV p r o b) := by
  unfold spec_l01Less.f
  have h := loop1_upto (f := spec_l01Less.b0 r o p b) (fun i => (zl i (fun i => (gt r (i : Int) - b * gt o (i : Int)) % p), (i : Int))) r.length (lessV p r o b, (r.length : Int)) (by omega) (fun i hi => by
    unfold spec_l01Less.b0
    simp only [dlt_nat, hi, decide_true, cond_true]
    rw [chk_in (by omega), chk_in (by omega), less_e (hr i hi) (ho i hi) hb, specMod _ hp]
    simp only [Option.bind_some]
    rw [small_in (by rw [zl_length]; simp; omega), zl_push i (fun i => (gt r (i : Int) - b * gt o (i : Int)) % p), w64_succ (by omega)]) (by
    unfold spec_l01Less.b0
    simp [lessV])
  have h' : loop1 (spec_l01Less.b0 r o p b) (([] : List Int), 0) = _ := h
  rw [h']; rfl
theorem implScale (hp : 2 ≤ p ∧ p ≤ 13) (hl : r.length ≤ 1000) (hr : ∀ i : Nat, i < r.length → 0 ≤ gt r (i : Int) ∧ gt r (i : Int) ≤ 13) (hb : 0 ≤ b ∧ b ≤ 13) :
    impl_scaled.f r b p = some (scaleV p r b) := by
  unfold impl_scaled.f
  have h := loop1_upto (f := impl_scaled.b0 r p b) (fun i => (zl i (fun i => (gt r (i : Int) * b) % p), (i : Int))) r.length (scaleV p r b, (r.length : Int)) (by omega) (fun i hi => by
    unfold impl_scaled.b0
    have := mul13 (hr i hi) hb
    simp only [dlt_nat, hi, decide_true, cond_true]
    rw [chk_in (by omega), nz_in (by omega), w64_in (x := gt r (i : Int) * b) (by omega), Int.tmod_eq_emod_of_nonneg (by omega), small_in (by rw [zl_length]; simp; omega), zl_push i (fun i => (gt r (i : Int) * b) % p), w64_succ (by omega)]) (by
    unfold impl_scaled.b0
    simp [scaleV])
  have h' : loop1 (impl_scaled.b0 r p b) (([] : List Int), 0) = _ := h
  rw [h']; rfl
end
/-- The place of the first number other than 0, or -1. -/
def ld (r : List Int) : Int := match (List.range r.length).find? (fun i : Nat => gt r (i : Int) != 0) with
  | some i => (i : Int)
  | none => -1
theorem implLead (r : List Int) (hl : r.length ≤ 1000) : impl_leader.f r = some (ld r) := by
  unfold impl_leader.f slices_IndexFunc_int64_int64.f
  have h := loop_find (f := slices_IndexFunc_int64_int64.b0 r G.impl_leader_1.f) (fun i => (i : Int)) r.length (fun i => gt r (i : Int) != 0) (fun i => (i : Int)) (r.length : Int) (by omega) (fun i hi => by
    unfold slices_IndexFunc_int64_int64.b0 impl_leader_1.f
    simp only [dlt_nat, hi, decide_true, cond_true]
    rw [chk_in (by omega), Option.bind_some, w64_succ (by omega)]
    cases gt r (i : Int) != 0 <;> rfl) (by
    unfold slices_IndexFunc_int64_int64.b0
    simp)
  have h' : loop (slices_IndexFunc_int64_int64.b0 r G.impl_leader_1.f) 0 = _ := h
  rw [h']
  unfold ld
  cases (List.range r.length).find? (fun i : Nat => gt r (i : Int) != 0) <;> rfl
theorem specLead (r : List Int) (hl : r.length ≤ 1000) : spec_l01Lead.f r = some (ld r) := by
  unfold spec_l01Lead.f
  have h := loop_find (f := spec_l01Lead.b0 r) (fun i => (i : Int)) r.length (fun i => gt r (i : Int) != 0) (fun i => (i : Int)) (r.length : Int) (by omega) (fun i hi => by
    unfold spec_l01Lead.b0
    simp only [dlt_nat, hi, decide_true, cond_true]
    rw [chk_in (by omega), w64_succ (by omega)]
    cases gt r (i : Int) != 0 <;> rfl) (by
    unfold spec_l01Lead.b0
    simp)
  have h' : loop (spec_l01Lead.b0 r) 0 = _ := h
  rw [h']
  unfold ld
  cases (List.range r.length).find? (fun i : Nat => gt r (i : Int) != 0) <;> rfl
theorem ld_at {r : List Int} {c : Nat} (hc : c < r.length) (h1 : gt r (c : Int) ≠ 0) (hz : ∀ q : Nat, q < c → gt r (q : Int) = 0) : ld r = (c : Int) := by
  unfold ld
  cases h : (List.range r.length).find? (fun i : Nat => gt r (i : Int) != 0) with
  | none =>
    have := List.find?_eq_none.1 h c (List.mem_range.2 hc)
    simp at this; exact absurd this h1
  | some i =>
    have a2 := List.find?_some (p := fun i : Nat => gt r (i : Int) != 0) h
    have a3 : gt r (i : Int) ≠ 0 := by simpa using a2
    rcases Nat.lt_trichotomy i c with a | a | a
    · exact absurd (hz i a) a3
    · rw [a]
    · obtain ⟨_, us, bs, hsp, hno⟩ := List.find?_eq_some_iff_append.1 h
      have hcm : c ∈ us := by
        have : c ∈ us ++ i :: bs := by rw [← hsp]; exact List.mem_range.2 hc
        rcases List.mem_append.1 this with h | h
        · exact h
        · exfalso
          have hpw : (us ++ i :: bs).Pairwise (· < ·) := by rw [← hsp]; exact List.pairwise_lt_range
          have := (List.pairwise_append.1 hpw).2.1
          rcases List.mem_cons.1 h with h | h
          · omega
          · have := (List.pairwise_cons.1 this).1 c h; omega
      have := hno c hcm
      simp at this; exact absurd this h1
theorem ld_none {r : List Int} (h : ld r < 0) : ∀ q : Nat, q < r.length → gt r (q : Int) = 0 := by
  unfold ld at h
  cases hf : (List.range r.length).find? (fun i : Nat => gt r (i : Int) != 0) with
  | none =>
    intro q hq
    have := List.find?_eq_none.1 hf q (List.mem_range.2 hq)
    simpa using this
  | some i => rw [hf] at h; simp at h; omega
theorem ld_some {r : List Int} (h : ¬ ld r < 0) : ∃ c : Nat, ld r = (c : Int) ∧ c < r.length ∧ gt r (c : Int) ≠ 0 ∧ ∀ q : Nat, q < c → gt r (q : Int) = 0 := by
  unfold ld at h ⊢
  cases hf : (List.range r.length).find? (fun i : Nat => gt r (i : Int) != 0) with
  | none => rw [hf] at h; simp at h
  | some i =>
    obtain ⟨a2, us, bs, hsp, hno⟩ := List.find?_eq_some_iff_append.1 hf
    refine ⟨i, rfl, List.mem_range.1 (List.mem_of_find?_eq_some hf), by simpa using a2, fun q hq => ?_⟩
    have hil := List.mem_range.1 (List.mem_of_find?_eq_some hf)
    have hqm : q ∈ us := by
      have : q ∈ us ++ i :: bs := by rw [← hsp]; exact List.mem_range.2 (by omega)
      rcases List.mem_append.1 this with h | h
      · exact h
      · exfalso
        have hpw : (us ++ i :: bs).Pairwise (· < ·) := by rw [← hsp]; exact List.pairwise_lt_range
        have := (List.pairwise_append.1 hpw).2.1
        rcases List.mem_cons.1 h with h | h
        · omega
        · have := (List.pairwise_cons.1 this).1 q h; omega
    have := hno q hqm
    simpa using this
theorem red_ld {p : Int} {N : Nat} {o : List (List Int)} {l : Nat → Nat} (R : Red p N o l) {i : Nat} (hi : i < o.length) : ld (gt o (i : Int)) = (l i : Int) :=
  ld_at (by rw [(R.row i hi).len]; exact R.lt i hi) (by rw [R.one i hi]; decide) (fun q hq => R.zero i q hi hq)
set_option maxRecDepth 100000 in
theorem inv_one : ∀ p : Fin 14, primeN p.val = true → ∀ c : Fin 14, 1 ≤ c.val → c.val < p.val → c.val * ivn p.val c.val % p.val = 1 := by decide +kernel
theorem invOne {p c : Nat} (hp : primeN p = true) (h2 : p ≤ 13) (hc : 1 ≤ c) (hcp : c < p) : c * ivn p c % p = 1 := inv_one ⟨p, by omega⟩ hp ⟨c, by omega⟩ hc hcp
/-- Lists turned from the front. -/
def mid {α : Type} (F : α → α) (l : List α) (i : Nat) : List α := (l.take i).map F ++ l.drop i
section
variable {α : Type} [Inhabited α] {F : α → α} {l : List α}
omit [Inhabited α] in theorem mid_0 : mid F l 0 = l := by simp [mid]
omit [Inhabited α] in theorem mid_all : mid F l l.length = l.map F := by simp [mid]
omit [Inhabited α] in theorem mid_len {i : Nat} : (mid F l i).length = l.length := by simp [mid]; omega
theorem mid_gt {i : Nat} (h : i < l.length) : gt (mid F l i) (i : Int) = gt l (i : Int) := by
  rw [gtn (by rw [mid_len]; exact h), gtn h]
  unfold mid
  rw [List.getElem_append_right (by simp; omega)]
  simp [Nat.min_eq_left (Nat.le_of_lt h)]
theorem mid_set {i : Nat} (h : i < l.length) : (mid F l i).set i (F (gt l (i : Int))) = mid F l (i + 1) := by
  unfold mid
  have e : ((l.take i).map F).length = i := by simp; omega
  have e3 : l.take (i + 1) = l.take i ++ [l[i]] := by rw [List.take_add_one, List.getElem?_eq_getElem h]; rfl
  rw [List.set_append_right _ _ (by omega), e, Nat.sub_self, gtn h, ← List.getElem_cons_drop (h := h), List.set_cons_zero, e3, List.map_append, List.append_assoc]
  rfl
end
end Go.Proofs.Ytiiljfpbcanphaa.G

/- What reduce makes: reduced rows with the same solutions. -/
namespace Go.Proofs.Ytiiljfpbcanphaa.G
open Go Go.Sx Go.Proofs
theorem idxRows (s : List (List Int)) (f : List Int → Option Bool) (g : List Int → Bool) (hl : s.length ≤ 1000) (hf : ∀ r ∈ s, f r = some (g r)) :
    slices_IndexFunc_int64_int64_197.f s f = some (match (List.range s.length).find? (fun i : Nat => g (gt s (i : Int))) with | some i => (i : Int) | none => -1) := by
  unfold slices_IndexFunc_int64_int64_197.f
  have h := loop_find (f := slices_IndexFunc_int64_int64_197.b0 s f) (fun i => (i : Int)) s.length (fun i => g (gt s (i : Int))) (fun i => (i : Int)) (s.length : Int) (by omega) (fun i hi => by
    unfold slices_IndexFunc_int64_int64_197.b0
    simp only [dlt_nat, hi, decide_true, cond_true]
    rw [chk_in (by omega), hf _ (by rw [gtn hi]; exact List.getElem_mem _), Option.bind_some, w64_succ (by omega)]
    cases g (gt s (i : Int)) <;> rfl) (by
    unfold slices_IndexFunc_int64_int64_197.b0
    simp)
  have h' : loop (slices_IndexFunc_int64_int64_197.b0 s f) 0 = _ := h
  rw [h']
  cases (List.range s.length).find? (fun i : Nat => g (gt s (i : Int))) <;> rfl
def RInv (p : Int) (N : Nat) (rows : List (List Int)) (c : Nat) (out left : List (List Int)) : Prop :=
  ∃ l, Red p N out l ∧ (∀ i, i < out.length → l i < c) ∧ (∀ r ∈ left, Row p N r ∧ ∀ q : Nat, q < c → gt r (q : Int) = 0) ∧ (∀ U, (Sat p N U out ∧ Sat p N U left) ↔ Sat p N U rows) ∧ out.length + left.length ≤ rows.length
theorem sat_erase {p : Int} {N : Nat} {U : Nat → Int} {left : List (List Int)} {k : Nat} (hk : k < left.length) : Sat p N U left ↔ (Sat p N U (left.eraseIdx k) ∧ p ∣ dot U (gt left (k : Int)) N) := by
  have e : left = left.take k ++ left[k] :: left.drop (k + 1) := by rw [List.getElem_cons_drop, List.take_append_drop]
  rw [List.eraseIdx_eq_take_drop_succ, gtn hk]
  unfold Sat
  constructor
  · intro h
    exact ⟨fun r hr => h r (by
      rcases List.mem_append.1 hr with a | a
      · exact List.mem_of_mem_take a
      · exact List.mem_of_mem_drop a), h _ (List.getElem_mem hk)⟩
  · rintro ⟨h1, h2⟩ r hr
    rw [e] at hr
    rcases List.mem_append.1 hr with a | a
    · exact h1 r (List.mem_append.2 (.inl a))
    · rcases List.mem_cons.1 a with rfl | a
      · exact h2
      · exact h1 r (List.mem_append.2 (.inr a))
theorem sat_app {p : Int} {N : Nat} {U : Nat → Int} {a b : List (List Int)} : Sat p N U (a ++ b) ↔ (Sat p N U a ∧ Sat p N U b) := by
  unfold Sat
  exact ⟨fun h => ⟨fun r hr => h r (List.mem_append.2 (.inl hr)), fun r hr => h r (List.mem_append.2 (.inr hr))⟩, fun ⟨h1, h2⟩ r hr => (List.mem_append.1 hr).elim (h1 r) (h2 r)⟩
theorem sat_one {p : Int} {N : Nat} {U : Nat → Int} {r : List Int} : Sat p N U [r] ↔ p ∣ dot U r N := by
  unfold Sat; simp
section
variable {p N : Nat} (hp : primeN p = true) (h2 : 2 ≤ p ∧ p ≤ 13) (hN : N ≤ 100) {rows : List (List Int)} (hrl : rows.length ≤ 1000)
include hp h2 hN hrl
omit hp hN hrl in
theorem row13 {r : List Int} (h : Row (p : Int) N r) : ∀ i : Nat, i < r.length → 0 ≤ gt r (i : Int) ∧ gt r (i : Int) ≤ 13 := by
  intro i hi
  have := h.b i (by rw [← h.len]; exact hi)
  omega
theorem redStep {c : Nat} (hc : c < N) {out left : List (List Int)} (hi : RInv (p : Int) N rows c out left) (h0 : (gt rows 0).length = N) :
    ∃ out' left', impl_reduce.b2 rows p (out, left, (c : Int)) = some (.next (out', left', ((c + 1 : Nat) : Int))) ∧ RInv (p : Int) N rows (c + 1) out' left' := by
  obtain ⟨l, R, hlc, hleft, hsat, hlen⟩ := hi
  have hp2 : (2 : Int) ≤ (p : Int) ∧ (p : Int) ≤ 13 := by omega
  have hmem : ∀ k : Nat, k < left.length → gt left (k : Int) ∈ left := fun k hk => by rw [gtn hk]; exact List.getElem_mem hk
  unfold impl_reduce.b2
  have hcl : decide ((c : Int) < ((gt rows 0).length : Int)) = true := by rw [h0]; exact decide_eq_true (by omega)
  simp only [hcl, cond_true]
  rw [idxRows left _ (fun r => gt r (c : Int) != 0) (by omega) (fun r hr => by
    unfold impl_reduce_1.f
    rw [chk_in (by rw [(hleft r hr).1.len]; omega)])]
  simp only [Option.bind_some]
  cases hf : (List.range left.length).find? (fun i : Nat => gt (gt left (i : Int)) (c : Int) != 0) with
  | none =>
    refine ⟨out, left, ?_, l, R, fun i hi => by have := hlc i hi; omega, fun r hr => ⟨(hleft r hr).1, fun q hq => ?_⟩, hsat, hlen⟩
    · simp only [show decide ((-1 : Int) < 0) = true from rfl, cond_true, Option.bind_some, jn]
      rw [w64_succ (by omega)]
    · by_cases a : q < c
      · exact (hleft r hr).2 q a
      · have : q = c := by omega
        subst this
        obtain ⟨k, hk, rfl⟩ := List.getElem_of_mem hr
        have := List.find?_eq_none.1 hf k (List.mem_range.2 hk)
        rw [← gtn hk]
        simpa using this
  | some k =>
    have hk := List.mem_range.1 (List.mem_of_find?_eq_some hf)
    have hne : gt (gt left (k : Int)) (c : Int) ≠ 0 := by simpa using List.find?_some (p := fun i : Nat => gt (gt left (i : Int)) (c : Int) != 0) hf
    have hw := (hleft _ (hmem k hk)).1
    have hwb := hw.b c hc
    obtain ⟨a, ha⟩ := Int.eq_ofNat_of_zero_le hwb.1
    have ha1 : 1 ≤ a ∧ a < p := by omega
    have hiv := ivn_lt (p := p) (c := a) h2.1
    have hone := invOne hp h2.2 ha1.1 ha1.2
    have hkd : decide ((k : Int) < 0) = false := decide_eq_false (by omega)
    simp only [hkd, cond_false]
    rw [chk_in (by omega), chk_in (by rw [hw.len]; omega), ha, implInv hp h2.2 ha1.1 ha1.2]
    simp only [Option.bind_some]
    rw [implScale hp2 (by rw [hw.len]; omega) (row13 h2 hw) (by omega)]
    simp only [Option.bind_some, Int.toNat_natCast]
    -- the pivot
    generalize hpv : scaleV (p : Int) (gt left (k : Int)) (ivn p a : Int) = pv
    have hpr : Row (p : Int) N pv := by rw [← hpv]; exact hw.scale (by omega)
    have hpq : ∀ q : Nat, q < N → gt pv (q : Int) = (gt (gt left (k : Int)) (q : Int) * (ivn p a : Int)) % (p : Int) := fun q hq => by rw [← hpv]; exact scale_gt (by rw [hw.len]; exact hq)
    have hp1 : gt pv (c : Int) = 1 := by
      rw [hpq c hc, ha]
      exact_mod_cast hone
    have hpz : ∀ q : Nat, q < c → gt pv (q : Int) = 0 := by
      intro q hq
      rw [hpq q (by omega), (hleft _ (hmem k hk)).2 q hq, Int.zero_mul]; rfl
    have hpl : pv.length = N := hpr.len
    -- the rows that are left
    have hle : (left.eraseIdx k).length = left.length - 1 := by rw [List.length_eraseIdx, if_pos hk]
    have hlr : ∀ r ∈ left.eraseIdx k, r ∈ left := fun r hr => List.mem_of_mem_eraseIdx hr
    have m1 := loop1_upto (f := impl_reduce.b0 left (k : Int) (c : Int) pv (p : Int)) (fun i => (mid (fun r => lessV (p : Int) r pv (gt r (c : Int))) (left.eraseIdx k) i, (i : Int))) (left.eraseIdx k).length ((left.eraseIdx k).map (fun r => lessV (p : Int) r pv (gt r (c : Int))), ((left.eraseIdx k).length : Int)) (by omega) (fun i hi => by
      unfold impl_reduce.b0
      have hmi := hlr _ (by rw [gtn hi]; exact List.getElem_mem hi : gt (left.eraseIdx k) (i : Int) ∈ left.eraseIdx k)
      have hri := (hleft _ hmi).1
      have hbi := hri.b c hc
      simp only [Int.toNat_natCast, dlt_nat, hi, decide_true, cond_true]
      rw [chk_in (by rw [mid_len]; omega), mid_gt hi, chk_in (by rw [hri.len]; omega), implLess hp2 (by rw [hri.len]; omega) (by rw [hri.len, hpl]; exact Nat.le_refl _) (row13 h2 hri) (fun q hq => by rw [hri.len] at hq; have := hpr.b q hq; omega) (by omega)]
      simp only [Option.bind_some]
      rw [mid_set (F := fun r => lessV (p : Int) r pv (gt r (c : Int))) hi, w64_succ (by omega)]) (by
      unfold impl_reduce.b0
      simp [mid_all])
    have m1' : loop1 (impl_reduce.b0 left (k : Int) (c : Int) pv (p : Int)) (left.eraseIdx k, 0) = _ := m1
    rw [m1']
    simp only [Option.bind_some]
    have m2 := loop1_upto (f := impl_reduce.b1 out (c : Int) pv (p : Int)) (fun i => (mid (fun r => lessV (p : Int) r pv (gt r (c : Int))) out i, (i : Int))) out.length (out.map (fun r => lessV (p : Int) r pv (gt r (c : Int))), (out.length : Int)) (by omega) (fun i hi => by
      unfold impl_reduce.b1
      have hri := R.row i hi
      have hbi := hri.b c hc
      simp only [Int.toNat_natCast, dlt_nat, hi, decide_true, cond_true]
      rw [chk_in (by rw [mid_len]; omega), mid_gt hi, chk_in (by rw [hri.len]; omega), implLess hp2 (by rw [hri.len]; omega) (by rw [hri.len, hpl]; exact Nat.le_refl _) (row13 h2 hri) (fun q hq => by rw [hri.len] at hq; have := hpr.b q hq; omega) (by omega)]
      simp only [Option.bind_some]
      rw [mid_set (F := fun r => lessV (p : Int) r pv (gt r (c : Int))) hi, w64_succ (by omega)]) (by
      unfold impl_reduce.b1
      simp [mid_all])
    have m2' : loop1 (impl_reduce.b1 out (c : Int) pv (p : Int)) (out, 0) = _ := m2
    rw [m2']
    simp only [Option.bind_some]
    rw [small_in (by rw [List.length_map]; omega)]
    have hins : insR (p : Int) out pv c out.length = out.map (fun r => lessV (p : Int) r pv (gt r (c : Int))) ++ [pv] := by
      unfold insR; simp
    refine ⟨_, _, by simp only [Option.bind_some, jn]; rw [w64_succ (by omega)], insl out.length c l, ?_, ?_, ?_, ?_, ?_⟩
    · rw [← hins]
      exact R.ins (by omega) hpr hc hp1 hpz (fun i hi => hpz _ (hlc i hi)) (Nat.le_refl _) hlc (fun i h1 h2 => by omega)
    · intro i hi
      simp only [List.length_append, List.length_map, List.length_singleton] at hi
      unfold insl
      split
      · have := hlc i ‹_›; omega
      · rw [if_pos (by omega)]; omega
    · intro r' hr'
      obtain ⟨r, hr, rfl⟩ := List.mem_map.1 hr'
      obtain ⟨hr1, hr2⟩ := hleft r (hlr r hr)
      refine ⟨hr1.less (by omega), fun q hq => ?_⟩
      rw [less_gt (by rw [hr1.len]; omega)]
      by_cases hqc : q < c
      · rw [hr2 q hqc, hpz q hqc, Int.mul_zero]; rfl
      · have : q = c := by omega
        subst this
        rw [hp1, Int.mul_one, Int.sub_self]; rfl
    · intro U
      rw [← hsat U, sat_erase hk, sat_app, sat_one]
      have hs := sat_step (p := (p : Int)) (N := N) (U := U) (rest := out ++ left.eraseIdx k) (w := gt left (k : Int)) (c := (ivn p a : Int)) (g := fun r => gt r (c : Int)) hw.len (fun r hr => by
        rcases List.mem_append.1 hr with h | h
        · obtain ⟨i, hi, rfl⟩ := List.getElem_of_mem h
          rw [← gtn hi]; exact (R.row i hi).len
        · exact (hleft r (hlr r h)).1.len) ⟨(a : Int), ((a * ivn p a / p : Nat) : Int), by
          have hd := Nat.div_add_mod (a * ivn p a) p
          rw [hone] at hd
          have : ((ivn p a : Nat) : Int) * (a : Int) = ((a * ivn p a : Nat) : Int) := by rw [Int.natCast_mul, Int.mul_comm]
          rw [this, ← hd, Int.natCast_add, Int.natCast_mul]
          simp only [Int.natCast_one]
          have e : (p * (a * ivn p a / p) + 1) / p = a * ivn p a / p := by rw [hd]
          rw [e]
          omega⟩
      rw [hpv, List.map_append, sat_app, sat_app] at hs
      constructor
      · rintro ⟨⟨a1, a2⟩, a3⟩
        obtain ⟨⟨b1, b2⟩, b3⟩ := hs.1 ⟨⟨a1, a3⟩, a2⟩
        exact ⟨b1, b2, b3⟩
      · rintro ⟨b1, b2, b3⟩
        obtain ⟨⟨a1, a3⟩, a2⟩ := hs.2 ⟨⟨b1, b2⟩, b3⟩
        exact ⟨⟨a1, a2⟩, a3⟩
    · simp only [List.length_append, List.length_map, List.length_singleton, hle]
      omega
theorem implReduce (h1 : 1 ≤ rows.length) (hr : ∀ r ∈ rows, Row (p : Int) N r) : ∃ o l, impl_reduce.f rows p = some o ∧ Red (p : Int) N o l ∧ (∀ U, Sat (p : Int) N U o ↔ Sat (p : Int) N U rows) ∧ o.length ≤ rows.length := by
  unfold impl_reduce.f
  have h0 : (gt rows 0).length = N := by
    have : gt rows ((0 : Nat) : Int) ∈ rows := by rw [gtn (i := 0) (by omega)]; exact List.getElem_mem _
    exact (hr _ this).len
  have hz : ((rows.length : Int) == 0) = false := by rw [beq_nat0]; exact decide_eq_false (by omega)
  rw [hz, cond_false, small_in (by omega), chk_in (i := 0) (n := rows.length) (by omega)]
  obtain ⟨⟨o, lf, x⟩, e, l, hR, hs, hl⟩ := loop1_ex (f := impl_reduce.b2 rows p) (fun c s => s.2.2 = (c : Int) ∧ RInv (p : Int) N rows c s.1 s.2.1) (fun s => ∃ l, Red (p : Int) N s.1 l ∧ (∀ U, Sat (p : Int) N U s.1 ↔ Sat (p : Int) N U rows) ∧ s.1.length ≤ rows.length) N (by omega) ([], rows, 0)
    ⟨rfl, fun _ => 0, ⟨fun i h => by simp at h, fun i h => by simp at h, fun i h => by simp at h, fun i q h => by simp at h, fun i j h => by simp at h, fun i j _ h => by simp at h⟩, fun i h => by simp at h, fun r hr' => ⟨hr r hr', fun q hq => by omega⟩, fun U => ⟨fun h => h.2, fun h => ⟨fun r hr => by simp at hr, h⟩⟩, by simp⟩
    (by
      rintro c ⟨o, lf, x⟩ hc ⟨rfl, hI⟩
      obtain ⟨o', lf', e, hI'⟩ := redStep hp h2 hN hrl hc hI h0
      exact ⟨_, e, rfl, hI'⟩)
    (by
      rintro ⟨o, lf, x⟩ ⟨rfl, l, R, hlc, hleft, hsat, hlen⟩
      refine ⟨_, by unfold impl_reduce.b2; simp only [h0, Int.lt_irrefl, decide_false, cond_false], l, R, fun U => ?_, by simp only at hlen ⊢; omega⟩
      rw [← hsat U]
      refine ⟨fun h => ⟨h, fun r hr => ?_⟩, fun h => h.1⟩
      have : ∀ k, k ≤ N → dot U r k = 0 := by
        intro k
        induction k with
        | zero => intro _; rfl
        | succ k ih =>
          intro hk
          simp only [dot]
          rw [ih (by omega), (hleft r hr).2 k (by omega)]
          simp
      rw [this N (Nat.le_refl _)]
      exact ⟨0, by simp⟩)
  rw [e]
  exact ⟨o, l, rfl, hR, hs, hl⟩
end
end Go.Proofs.Ytiiljfpbcanphaa.G

/- What the reference's echelon makes: reduced rows with the same solutions. -/
namespace Go.Proofs.Ytiiljfpbcanphaa.G
open Go Go.Sx Go.Proofs
theorem between {l : Nat → Nat} {c : Nat} : ∀ k, (∀ i j, i < j → j < k → l i < l j) → (∀ i, i < k → l i ≠ c) → ∃ m, m ≤ k ∧ (∀ i, i < m → l i < c) ∧ ∀ i, m ≤ i → i < k → c < l i
  | 0, _, _ => ⟨0, Nat.le_refl _, fun i h => by omega, fun i _ h => by omega⟩
  | k + 1, hi, hn => by
    obtain ⟨m, h1, h2, h3⟩ := between (l := l) (c := c) k (fun i j a b => hi i j a (by omega)) (fun i h => hn i (by omega))
    by_cases hm : m = k
    · subst hm
      by_cases hc : l m < c
      · exact ⟨m + 1, Nat.le_refl _, fun i hi' => by
          by_cases a : i = m
          · rw [a]; exact hc
          · exact h2 i (by omega), fun i a b => by omega⟩
      · exact ⟨m, by omega, h2, fun i a b => by
          have : i = m := by omega
          rw [this]; have := hn m (by omega); omega⟩
    · exact ⟨m, by omega, h2, fun i a b => by
        by_cases e : i = k
        · rw [e]; have := h3 m (Nat.le_refl _) (by omega); have := hi m k (by omega) (by omega); omega
        · exact h3 i a (by omega)⟩
theorem map_zl (l : List Int) (f : Int → Int) : l.map f = zl l.length (fun i => f (gt l (i : Int))) := by
  apply List.ext_getElem?
  intro q
  by_cases hq : q < l.length
  · simp [zl, hq, gt, List.getD]
  · simp [zl, hq]
section
variable {p N : Nat} (hp : primeN p = true) (h2 : 2 ≤ p ∧ p ≤ 13) (hN : N ≤ 100) {o : List (List Int)} {l : Nat → Nat}
include h2 hN
theorem ownLoop (R : Red (p : Int) N o l) (hol : o.length ≤ 1000) {row : List Int} (hr : Row (p : Int) N row) :
    ∃ own : List Int, loop1 (spec_l01Echelon.b0 o p) (row, 0) = some (own, (o.length : Int)) ∧ Row (p : Int) N own ∧ (∀ j, j < o.length → gt own (l j : Int) = 0) ∧ ∀ U, Sat (p : Int) N U o → ((p : Int) ∣ dot U own N ↔ (p : Int) ∣ dot U row N) := by
  have hp2 : (2 : Int) ≤ (p : Int) ∧ (p : Int) ≤ 13 := by omega
  obtain ⟨⟨own, x⟩, e, rfl, q1, q2, q3⟩ := loop1_ex (f := spec_l01Echelon.b0 o p) (fun k s => s.2 = (k : Int) ∧ Row (p : Int) N s.1 ∧ (∀ j, j < k → gt s.1 (l j : Int) = 0) ∧ ∀ U, Sat (p : Int) N U o → ((p : Int) ∣ dot U s.1 N ↔ (p : Int) ∣ dot U row N))
    (fun s => s.2 = (o.length : Int) ∧ Row (p : Int) N s.1 ∧ (∀ j, j < o.length → gt s.1 (l j : Int) = 0) ∧ ∀ U, Sat (p : Int) N U o → ((p : Int) ∣ dot U s.1 N ↔ (p : Int) ∣ dot U row N)) o.length (by omega) (row, 0) ⟨rfl, hr, fun j h => by omega, fun U _ => Iff.rfl⟩
    (by
      rintro k ⟨own, x⟩ hk ⟨rfl, hw, hz, hs⟩
      simp only at hw hz hs
      have hok := R.row k hk
      have hlt := R.lt k hk
      have hb := hw.b (l k) hlt
      refine ⟨(lessV (p : Int) own (gt o (k : Int)) (gt own (l k : Int)), ((k + 1 : Nat) : Int)), ?_, rfl, hw.less (by omega), fun j hj => ?_, fun U hU => ?_⟩
      · unfold spec_l01Echelon.b0
        simp only [dlt_nat, hk, decide_true, cond_true]
        rw [chk_in (by omega), specLead _ (by rw [hok.len]; omega), red_ld R hk]
        simp only [Option.bind_some]
        rw [chk_in (by rw [hw.len]; omega), specLess hp2 (by rw [hw.len]; omega) (by rw [hw.len, hok.len]; exact Nat.le_refl _) (row13 h2 hw) (fun q hq => by rw [hw.len] at hq; have := hok.b q hq; omega) (by omega)]
        simp only [Option.bind_some]
        rw [w64_succ (by omega)]
      · simp only
        by_cases a : j = k
        · subst a
          rw [less_gt (by rw [hw.len]; exact hlt), R.one j hk, Int.mul_one, Int.sub_self]; rfl
        · have hjl := R.lt j (by omega)
          rw [less_gt (by rw [hw.len]; exact hjl), hz j (by omega), R.off j k (by omega) hk a, Int.mul_zero]; rfl
      · simp only
        rw [← hs U hU]
        obtain ⟨t, ht⟩ := dot_less (p := (p : Int)) (U := U) (r := own) (o := gt o (k : Int)) (b := gt own (l k : Int)) N (by rw [hw.len]; exact Nat.le_refl _)
        obtain ⟨q, hq⟩ := hU _ (by rw [gtn hk]; exact List.getElem_mem hk : gt o (k : Int) ∈ o)
        constructor
        · rintro ⟨v, hv⟩; exact ⟨v + gt own (l k : Int) * q - t, by grind⟩
        · rintro ⟨v, hv⟩; exact ⟨v - gt own (l k : Int) * q + t, by grind⟩)
    (by
      rintro ⟨own, x⟩ ⟨rfl, h⟩
      exact ⟨_, by unfold spec_l01Echelon.b0; simp only [Int.lt_irrefl, decide_false, cond_false], rfl, h⟩)
  exact ⟨own, e, q1, q2, q3⟩
end
/-- The rows as they are put together. -/
def nx (F : List Int → List Int) (o : List (List Int)) (w : List Int) (m k : Nat) : List (List Int) := if k ≤ m then (o.take k).map F else (o.take m).map F ++ w :: ((o.take k).drop m).map F
section
variable {F : List Int → List Int} {o : List (List Int)} {w : List Int} {m k : Nat}
theorem take_s (hk : k < o.length) : o.take (k + 1) = o.take k ++ [gt o (k : Int)] := by
  rw [List.take_add_one, List.getElem?_eq_getElem hk, gtn hk]; rfl
theorem nx_lo (hk : k < o.length) (h : k < m) : nx F o w m k ++ [F (gt o (k : Int))] = nx F o w m (k + 1) := by
  unfold nx
  rw [if_pos (by omega), if_pos (by omega), take_s hk, List.map_append]; rfl
theorem nx_at (hk : k < o.length) (h : k = m) : (nx F o w m k ++ [w]) ++ [F (gt o (k : Int))] = nx F o w m (k + 1) := by
  subst h
  unfold nx
  rw [if_pos (Nat.le_refl _), if_neg (by omega), take_s hk, List.drop_append_of_le_length (by simp; omega)]
  have : (o.take k).drop k = [] := by rw [List.drop_eq_nil_iff]; simp; omega
  rw [this]
  simp
theorem nx_hi (hk : k < o.length) (h : m < k) : nx F o w m k ++ [F (gt o (k : Int))] = nx F o w m (k + 1) := by
  unfold nx
  rw [if_neg (by omega), if_neg (by omega), take_s hk, List.drop_append_of_le_length (by simp; omega)]
  simp
theorem nx_len : (nx F o w m k).length ≤ o.length + 1 + o.length := by
  unfold nx
  split <;> simp <;> omega
end
section
variable {p N : Nat} (hp : primeN p = true) (h2 : 2 ≤ p ∧ p ≤ 13) (hN : N ≤ 100) {o : List (List Int)} {l : Nat → Nat}
include hp h2 hN
theorem echStep (R : Red (p : Int) N o l) (hol : o.length ≤ 1000) {rows : List (List Int)} {i : Nat} (hi : i < rows.length) (hil : rows.length ≤ 1000) (hr : Row (p : Int) N (gt rows (i : Int))) :
    ∃ o' l', spec_l01Echelon.b3 rows p (o, (i : Int)) = some (.next (o', ((i + 1 : Nat) : Int))) ∧ Red (p : Int) N o' l' ∧ (∀ U, Sat (p : Int) N U o' ↔ (Sat (p : Int) N U o ∧ (p : Int) ∣ dot U (gt rows (i : Int)) N)) ∧ o'.length ≤ o.length + 1 := by
  have hp2 : (2 : Int) ≤ (p : Int) ∧ (p : Int) ≤ 13 := by omega
  obtain ⟨own, e1, hw, hz, hs⟩ := ownLoop h2 hN R hol hr
  unfold spec_l01Echelon.b3
  simp only [dlt_nat, hi, decide_true, cond_true]
  have eo : spec_l01Own.f (gt rows (i : Int)) = some (gt rows (i : Int)) := by
    unfold spec_l01Own.f
    rw [small_in (by simp; rw [hr.len]; omega)]; rfl
  rw [chk_in (by omega), eo]
  simp only [Option.bind_some]
  rw [e1]
  simp only [Option.bind_some]
  rw [specLead own (by rw [hw.len]; omega)]
  simp only [Option.bind_some]
  by_cases hl : ld own < 0
  · rw [decide_eq_true hl]
    refine ⟨o, l, by simp only [cond_true, Option.bind_some, jn]; rw [w64_succ (by omega)], R, fun U => ?_, by omega⟩
    have hzero := ld_none hl
    have : ∀ k, k ≤ N → dot U own k = 0 := by
      intro k
      induction k with
      | zero => intro _; rfl
      | succ k ih =>
        intro hk
        simp only [dot]
        rw [ih (by omega), hzero k (by rw [hw.len]; omega)]
        simp
    constructor
    · intro h
      refine ⟨h, (hs U h).1 ?_⟩
      rw [this N (Nat.le_refl _)]; exact ⟨0, by simp⟩
    · exact fun h => h.1
  · rw [decide_eq_false hl]
    obtain ⟨c, hc, hcN, hne, hcz⟩ := ld_some hl
    rw [hw.len] at hcN
    have hwb := hw.b c hcN
    obtain ⟨a, ha⟩ := Int.eq_ofNat_of_zero_le hwb.1
    have ha1 : 1 ≤ a ∧ a < p := by omega
    have hiv := ivn_lt (p := p) (c := a) h2.1
    have hone := invOne hp h2.2 ha1.1 ha1.2
    rw [hc, cond_false, chk_in (by rw [hw.len]; omega), ha, specInv hp h2.2 ha1.1 ha1.2]
    simp only [Option.bind_some]
    have m1 := loop1_upto (f := spec_l01Echelon.b1 p (ivn p a : Int)) (fun i => (mid (fun x => (x * (ivn p a : Int)) % (p : Int)) own i, (i : Int))) own.length (own.map (fun x => (x * (ivn p a : Int)) % (p : Int)), (own.length : Int)) (by rw [hw.len]; omega) (fun i hi => by
      unfold spec_l01Echelon.b1
      have hbi := row13 h2 hw i hi
      have := mul13 hbi (y := (ivn p a : Int)) (by omega)
      simp only [Int.toNat_natCast, mid_len, dlt_nat, hi, decide_true, cond_true]
      rw [chk_in (by omega), nz_in (by omega), mid_gt hi, w64_in (x := gt own (i : Int) * _) (by omega), Int.tmod_eq_emod_of_nonneg (by omega), mid_set (F := fun x => (x * (ivn p a : Int)) % (p : Int)) hi, w64_succ (by rw [hw.len] at hi; omega)]) (by
      unfold spec_l01Echelon.b1
      simp [mid_all])
    rw [mid_0] at m1
    have m1' : loop1 (spec_l01Echelon.b1 p (ivn p a : Int)) (own, 0) = _ := m1
    rw [m1', map_zl]
    simp only [Option.bind_some]
    have hsc : zl own.length (fun i => (gt own (i : Int) * (ivn p a : Int)) % (p : Int)) = scaleV (p : Int) own (ivn p a : Int) := rfl
    rw [hsc]
    have hpr : Row (p : Int) N (scaleV (p : Int) own (ivn p a : Int)) := hw.scale (by omega)
    have hpq : ∀ q : Nat, q < N → gt (scaleV (p : Int) own (ivn p a : Int)) (q : Int) = (gt own (q : Int) * (ivn p a : Int)) % (p : Int) := fun q hq => scale_gt (by rw [hw.len]; exact hq)
    have hsat := fun U => sat_step (p := (p : Int)) (N := N) (U := U) (rest := o) (w := own) (c := (ivn p a : Int)) (g := fun r => gt r (c : Int)) hw.len (fun r hr => by
        obtain ⟨i, hi, rfl⟩ := List.getElem_of_mem hr
        rw [← gtn hi]; exact (R.row i hi).len) ⟨(a : Int), ((a * ivn p a / p : Nat) : Int), by
          have hd := Nat.div_add_mod (a * ivn p a) p
          rw [hone] at hd
          have : ((ivn p a : Nat) : Int) * (a : Int) = ((a * ivn p a : Nat) : Int) := by rw [Int.natCast_mul, Int.mul_comm]
          rw [this, ← hd, Int.natCast_add, Int.natCast_mul]
          simp only [Int.natCast_one]
          have e : (p * (a * ivn p a / p) + 1) / p = a * ivn p a / p := by rw [hd]
          rw [e]
          omega⟩
    generalize scaleV (p : Int) own (ivn p a : Int) = pv at hpr hpq hsat ⊢
    have hp1 : gt pv (c : Int) = 1 := by
      rw [hpq c hcN, ha]
      exact_mod_cast hone
    have hpz : ∀ q : Nat, q < c → gt pv (q : Int) = 0 := by
      intro q hq
      rw [hpq q (by omega), hcz q hq, Int.zero_mul]; rfl
    have hpl : ∀ j, j < o.length → gt pv (l j : Int) = 0 := by
      intro j hj
      rw [hpq _ (R.lt j hj), hz j hj, Int.zero_mul]; rfl
    obtain ⟨m, hm1, hm2, hm3⟩ := between (l := l) (c := c) o.length (fun i j h1 h2 => R.inc i j h1 h2) (fun j hj e => by
      have := hz j hj
      rw [e] at this; exact hne this)
    have hpvl : pv.length = N := hpr.len
    have m2 := loop1_upto (f := spec_l01Echelon.b2 o (c : Int) pv p) (fun k => (nx (fun r => lessV (p : Int) r pv (gt r (c : Int))) o pv m k, !decide (k ≤ m), (k : Int))) o.length (nx (fun r => lessV (p : Int) r pv (gt r (c : Int))) o pv m o.length, !decide (o.length ≤ m), (o.length : Int)) (by omega) (fun k hk => by
      unfold spec_l01Echelon.b2
      have hok := R.row k hk
      have hbk := hok.b c hcN
      have hnl := nx_len (F := fun r => lessV (p : Int) r pv (gt r (c : Int))) (o := o) (w := pv) (m := m) (k := k)
      have hless := specLess (p := (p : Int)) (r := gt o (k : Int)) (o := pv) (b := gt (gt o (k : Int)) (c : Int)) hp2 (by rw [hok.len]; omega) (by rw [hok.len, hpvl]; exact Nat.le_refl _) (row13 h2 hok) (fun q hq => by rw [hok.len] at hq; have := hpr.b q hq; omega) (by omega)
      simp only [dlt_nat, hk, decide_true, cond_true]
      rcases Nat.lt_trichotomy k m with h | h | h
      · have e1 : (!decide (k ≤ m)) = false := by simp; omega
        have e2 : (!decide (k + 1 ≤ m)) = false := by simp; omega
        rw [e1, e2]
        simp only [Bool.not_false, cond_true]
        rw [chk_in (by omega), specLead _ (by rw [hok.len]; omega), red_ld R hk]
        have hd : decide ((l k : Int) > (c : Int)) = false := decide_eq_false (by have := hm2 k h; omega)
        simp only [Option.bind_some, hd, cond_false]
        rw [chk_in (by omega), chk_in (by rw [hok.len]; omega), hless]
        simp only [Option.bind_some]
        rw [small_in (by omega), w64_succ (by omega), ← nx_lo hk h]
      · have e1 : (!decide (k ≤ m)) = false := by simp; omega
        have e2 : (!decide (k + 1 ≤ m)) = true := by simp; omega
        rw [e1, e2]
        simp only [Bool.not_false, cond_true]
        rw [chk_in (by omega), specLead _ (by rw [hok.len]; omega), red_ld R hk]
        have hd : decide ((l k : Int) > (c : Int)) = true := decide_eq_true (by have := hm3 k (by omega) hk; omega)
        simp only [Option.bind_some, hd, cond_true]
        rw [small_in (by omega)]
        simp only [Option.bind_some]
        rw [chk_in (by omega), chk_in (by rw [hok.len]; omega), hless]
        simp only [Option.bind_some]
        rw [small_in (by rw [List.length_append]; simp; omega), w64_succ (by omega), ← nx_at hk h]
      · have e1 : (!decide (k ≤ m)) = true := by simp; omega
        have e2 : (!decide (k + 1 ≤ m)) = true := by simp; omega
        rw [e1, e2]
        simp only [Bool.not_true, cond_false, Option.bind_some]
        rw [chk_in (by omega), chk_in (by rw [hok.len]; omega), hless]
        simp only [Option.bind_some]
        rw [small_in (by omega), w64_succ (by omega), ← nx_hi hk h]) (by
      unfold spec_l01Echelon.b2
      simp)
    have n0 : nx (fun r => lessV (p : Int) r pv (gt r (c : Int))) o pv m 0 = [] := by
      unfold nx; rw [if_pos (Nat.zero_le _)]; rfl
    simp only [n0, Nat.zero_le, decide_true, Bool.not_true] at m2
    have m2' : loop1 (spec_l01Echelon.b2 o (c : Int) pv p) (([] : List (List Int)), false, 0) = _ := m2
    rw [m2']
    simp only [Option.bind_some]
    have hfin : (bif (!(!decide (o.length ≤ m))) then small ((nx (fun r => lessV (p : Int) r pv (gt r (c : Int))) o pv m o.length).length + 1) (some ((nx (fun r => lessV (p : Int) r pv (gt r (c : Int))) o pv m o.length) ++ [pv])) else some (nx (fun r => lessV (p : Int) r pv (gt r (c : Int))) o pv m o.length)) = some (insR (p : Int) o pv c m) := by
      have hnl := nx_len (F := fun r => lessV (p : Int) r pv (gt r (c : Int))) (o := o) (w := pv) (m := m) (k := o.length)
      by_cases h : o.length ≤ m
      · have : m = o.length := by omega
        subst this
        rw [small_in (by omega)]
        simp only [Nat.le_refl, decide_true, Bool.not_true, Bool.not_false, cond_true]
        unfold nx insR
        rw [if_pos (Nat.le_refl _)]
        simp
      · rw [decide_eq_false h]
        simp only [Bool.not_false, Bool.not_true, cond_false]
        unfold nx insR
        rw [if_neg h, List.take_length]
    rw [hfin]
    refine ⟨_, _, by simp only [Option.bind_some, jn]; rw [w64_succ (by omega)], R.ins (by omega) hpr hcN hp1 hpz hpl hm1 hm2 hm3, fun U => ?_, by rw [insR_len hm1]; exact Nat.le_refl _⟩
    have e3 : Sat (p : Int) N U (insR (p : Int) o pv c m) ↔ (Sat (p : Int) N U (o.map fun r => lessV (p : Int) r pv (gt r (c : Int))) ∧ (p : Int) ∣ dot U pv N) := by
      have e4 : o.map (fun r => lessV (p : Int) r pv (gt r (c : Int))) = (o.take m).map (fun r => lessV (p : Int) r pv (gt r (c : Int))) ++ (o.drop m).map (fun r => lessV (p : Int) r pv (gt r (c : Int))) := by
        rw [← List.map_append, List.take_append_drop]
      have e5 : insR (p : Int) o pv c m = (o.take m).map (fun r => lessV (p : Int) r pv (gt r (c : Int))) ++ ([pv] ++ (o.drop m).map (fun r => lessV (p : Int) r pv (gt r (c : Int)))) := rfl
      rw [e4, e5, sat_app, sat_app, sat_app, sat_one]
      constructor
      · rintro ⟨a1, a2, a3⟩; exact ⟨⟨a1, a3⟩, a2⟩
      · rintro ⟨⟨a1, a3⟩, a2⟩; exact ⟨a1, a2, a3⟩
    rw [e3, hsat U]
    constructor
    · rintro ⟨a1, a2⟩; exact ⟨a1, (hs U a1).1 a2⟩
    · rintro ⟨a1, a2⟩; exact ⟨a1, (hs U a1).2 a2⟩
theorem specEchelon {rows : List (List Int)} (hrl : rows.length ≤ 1000) (hr : ∀ r ∈ rows, Row (p : Int) N r) : ∃ o l, spec_l01Echelon.f p rows = some o ∧ Red (p : Int) N o l ∧ (∀ U, Sat (p : Int) N U o ↔ Sat (p : Int) N U rows) ∧ o.length ≤ rows.length := by
  unfold spec_l01Echelon.f
  obtain ⟨⟨o, x⟩, e, l, hR, hs, hl⟩ := loop1_ex (f := spec_l01Echelon.b3 rows p) (fun i s => s.2 = (i : Int) ∧ ∃ l, Red (p : Int) N s.1 l ∧ (∀ U, Sat (p : Int) N U s.1 ↔ Sat (p : Int) N U (rows.take i)) ∧ s.1.length ≤ i) (fun s => ∃ l, Red (p : Int) N s.1 l ∧ (∀ U, Sat (p : Int) N U s.1 ↔ Sat (p : Int) N U rows) ∧ s.1.length ≤ rows.length) rows.length (by omega) ([], 0)
    ⟨rfl, fun _ => 0, ⟨fun i h => by simp at h, fun i h => by simp at h, fun i h => by simp at h, fun i q h => by simp at h, fun i j h => by simp at h, fun i j _ h => by simp at h⟩, fun U => by simp [Sat], by simp⟩
    (by
      rintro i ⟨o, x⟩ hi ⟨rfl, l, hR, hs, hl⟩
      simp only at hR hs hl
      obtain ⟨o', l', e, hR', hs', hl'⟩ := echStep hp h2 hN hR (by omega) hi hrl (hr _ (by rw [gtn hi]; exact List.getElem_mem hi))
      refine ⟨_, e, rfl, l', hR', fun U => ?_, by simp only; omega⟩
      rw [hs' U, hs U, take_s hi, sat_app, sat_one])
    (by
      rintro ⟨o, x⟩ ⟨rfl, l, hR, hs, hl⟩
      refine ⟨_, by unfold spec_l01Echelon.b3; simp only [Int.lt_irrefl, decide_false, cond_false], l, hR, fun U => ?_, hl⟩
      have := hs U
      rwa [List.take_length] at this)
  rw [e]
  exact ⟨o, l, rfl, hR, hs, hl⟩
end
end Go.Proofs.Ytiiljfpbcanphaa.G

/- Equations solved by both. -/
namespace Go.Proofs.Ytiiljfpbcanphaa.G
open Go Go.Sx Go.Proofs
section
variable {p n : Nat} (hp : primeN p = true) (h2 : 2 ≤ p ∧ p ≤ 13) (hn : n ≤ 6) {rows : List (List Int)} (h1 : 1 ≤ rows.length) (hrl : rows.length ≤ 1000) (hr : ∀ r ∈ rows, Row (p : Int) (n + 1) r)
include hp h2 hn h1 hrl hr
theorem implSolve : ∃ v ok, impl_solve.f rows n p = some (v, ok) ∧ v.length ≤ 6 ∧ (ok = true ↔ ∃ U : Nat → Int, U n = -1 ∧ Sat (p : Int) (n + 1) U rows) := by
  obtain ⟨o, l, e, R, hs, hl⟩ := implReduce (N := n + 1) hp h2 (by omega) hrl h1 hr
  unfold impl_solve.f
  have hg : ∀ k : Option (List Int × Bool), grd (decide ((0 : Int) ≤ (n : Int))) k = k := fun k => by
    rw [decide_eq_true (by omega)]; rfl
  rw [hg, small_in (by simp; omega), e]
  simp only [Option.bind_some, Int.toNat_natCast]
  obtain ⟨q, hq, hQ⟩ := loop_run (f := impl_solve.b0 o n) (fun s => s.1.length = n ∧ ∃ i : Nat, s.2 = (i : Int) ∧ i ≤ o.length ∧ ∀ j, j < i → l j ≠ n) (fun s => o.length - s.2.toNat)
    (fun q => match q with | .brk s => s.1.length = n ∧ ∀ j, j < o.length → l j ≠ n | .ret r => r = ([], false) ∧ ∃ j, j < o.length ∧ l j = n) (by
      rintro ⟨out, x⟩ ⟨h, i, rfl, hi, hj⟩
      simp only at h hi
      unfold impl_solve.b0
      by_cases hlt : i < o.length
      · simp only [dlt_nat, hlt, decide_true, cond_true]
        have hro := R.row i hlt
        rw [chk_in (by omega), implLead _ (by rw [hro.len]; omega), red_ld R hlt]
        simp only [Option.bind_some]
        by_cases hln : l i = n
        · refine .inr (.inr ⟨([], false), ?_, rfl, i, hlt, hln⟩)
          have : ((l i : Int) == (n : Int)) = true := by rw [hln]; simp
          rw [this]; rfl
        · have hbf : ((l i : Int) == (n : Int)) = false := by rw [beq_nat]; exact decide_eq_false hln
          have hll := R.lt i hlt
          rw [hbf, cond_false, chk_in (by rw [hro.len]; omega), chk_in (by omega), w64_succ (by omega)]
          refine .inl ⟨_, rfl, ⟨by simp only [List.length_set]; exact h, i + 1, rfl, by omega, fun j hj' => ?_⟩, by simp only; omega⟩
          by_cases a : j = i
          · rw [a]; exact hln
          · exact hj j (by omega)
      · have : i = o.length := by omega
        subst this
        exact .inr (.inl ⟨(out, (o.length : Int)), by simp only [Int.lt_irrefl, decide_false, cond_false], h, hj⟩)) (List.replicate n 0, 0) ⟨by simp, 0, rfl, Nat.zero_le _, fun j h => by omega⟩ (by simp; omega)
  rw [hq]
  cases q with
  | brk s =>
    obtain ⟨q1, q2⟩ := hQ
    refine ⟨s.1, true, rfl, by omega, ⟨fun _ => ⟨sol n o l, by unfold sol; rw [if_pos rfl], (hs _).1 (sol_sat R q2)⟩, fun _ => rfl⟩⟩
  | ret r =>
    obtain ⟨rfl, j, hj, hlj⟩ := hQ
    refine ⟨[], false, rfl, by simp, ⟨nofun, ?_⟩⟩
    rintro ⟨U, hU, hS⟩
    exact (no_sol (by omega) R hj hlj hU ((hs U).2 hS)).elim
theorem specSolve : ∃ v ok o l, spec_l01Solve.f p rows = some (v, ok) ∧ Red (p : Int) (n + 1) o l ∧ (∀ U, Sat (p : Int) (n + 1) U o ↔ Sat (p : Int) (n + 1) U rows) ∧ (ok = true ↔ (o.length = n ∧ ∀ i, i < n → l i = i)) ∧ (ok = true → v = zl n (fun i => gt (gt o (i : Int)) (n : Int))) := by
  obtain ⟨o, l, e, R, hs, hl⟩ := specEchelon (N := n + 1) hp h2 (by omega) hrl hr
  unfold spec_l01Solve.f
  have hz : ((rows.length : Int) == 0) = false := by rw [beq_nat0]; exact decide_eq_false (by omega)
  have h0 : (gt rows 0).length = n + 1 := by
    have : gt rows ((0 : Nat) : Int) ∈ rows := by rw [gtn (i := 0) (by omega)]; exact List.getElem_mem _
    exact (hr _ this).len
  have hw : w64 (((gt rows 0).length : Int) - 1) = (n : Int) := by rw [h0, w64_in (by omega)]; omega
  rw [hz, cond_false, chk_in (i := 0) (n := rows.length) (by omega), e]
  simp only [Option.bind_some, hw]
  by_cases hlen : o.length = n
  · have hb : ((o.length : Int) != (n : Int)) = false := by rw [hlen]; simp
    rw [hb, cond_false]
    obtain ⟨q, hq, hQ⟩ := loop_run (f := spec_l01Solve.b0 rows o) (fun s => ∃ i : Nat, s.2 = (i : Int) ∧ i ≤ n ∧ s.1 = zl i (fun i => gt (gt o (i : Int)) (n : Int)) ∧ ∀ j, j < i → l j = j) (fun s => n - s.2.toNat)
      (fun q => match q with | .brk s => s.1 = zl n (fun i => gt (gt o (i : Int)) (n : Int)) ∧ ∀ j, j < n → l j = j | .ret r => r = ([], false) ∧ ∃ j, j < n ∧ l j ≠ j) (by
        rintro ⟨out, x⟩ ⟨i, rfl, hi, rfl, hj⟩
        unfold spec_l01Solve.b0
        simp only [hw]
        by_cases hlt : i < n
        · simp only [dlt_nat, hlt, decide_true, cond_true]
          have hro := R.row i (by omega)
          rw [chk_in (by omega), specLead _ (by rw [hro.len]; omega), red_ld R (by omega)]
          simp only [Option.bind_some]
          by_cases hln : l i = i
          · have hbf : ((l i : Int) != (i : Int)) = false := by rw [hln]; simp
            rw [hbf, cond_false, chk_in (by rw [hro.len]; omega), small_in (by rw [zl_length]; simp; omega), zl_push i (fun i => gt (gt o (i : Int)) (n : Int)), w64_succ (by omega)]
            refine .inl ⟨_, rfl, ⟨i + 1, rfl, by omega, rfl, fun j hj' => ?_⟩, by simp only; omega⟩
            by_cases a : j = i
            · rw [a]; exact hln
            · exact hj j (by omega)
          · refine .inr (.inr ⟨([], false), ?_, rfl, i, hlt, hln⟩)
            have : ((l i : Int) != (i : Int)) = true := by rw [bne_nat, decide_eq_false hln]; rfl
            rw [this]; rfl
        · have e : i = n := by omega
          refine .inr (.inl ⟨(zl n (fun i => gt (gt o (i : Int)) (n : Int)), (n : Int)), ?_, rfl, fun j hj' => hj j (by omega)⟩)
          rw [e]
          simp only [Int.lt_irrefl, decide_false, cond_false]) ([], 0) ⟨0, rfl, Nat.zero_le _, rfl, fun j h => by omega⟩ (by simp; omega)
    rw [hq]
    cases q with
    | brk s =>
      obtain ⟨q1, q2⟩ := hQ
      exact ⟨s.1, true, o, l, rfl, R, hs, ⟨fun _ => ⟨hlen, q2⟩, fun _ => rfl⟩, fun _ => q1⟩
    | ret r =>
      obtain ⟨rfl, j, hj, hlj⟩ := hQ
      exact ⟨[], false, o, l, rfl, R, hs, ⟨nofun, fun h => absurd (h.2 j hj) hlj⟩, nofun⟩
  · have hb : ((o.length : Int) != (n : Int)) = true := by rw [bne_nat, decide_eq_false hlen]; rfl
    rw [hb, cond_true]
    exact ⟨[], false, o, l, rfl, R, hs, ⟨nofun, fun h => absurd h.1 hlen⟩, nofun⟩
end
end Go.Proofs.Ytiiljfpbcanphaa.G

/- Products of vectors by a table of bytes: told by both. -/
namespace Go.Proofs.Ytiiljfpbcanphaa.G
open Go Go.Sx Go.Proofs
def sm (f : Nat → Int) : Nat → Int
  | 0 => 0
  | k + 1 => sm f k + f k
theorem sm_congr {f g : Nat → Int} : ∀ k, (∀ i, i < k → f i = g i) → sm f k = sm g k
  | 0, _ => rfl
  | k + 1, h => by simp only [sm]; rw [sm_congr k (fun i hi => h i (by omega)), h k (by omega)]
theorem sm_b {f : Nat → Int} {B : Int} : ∀ k : Nat, (∀ i, i < k → 0 ≤ f i ∧ f i ≤ B) → 0 ≤ sm f k ∧ sm f k ≤ k * B
  | 0, _ => by simp [sm]
  | k + 1, h => by
    have h1 := sm_b k (fun i hi => h i (by omega))
    have h2 := h k (by omega)
    simp only [sm]
    rw [Int.natCast_add, Int.natCast_one, Int.add_mul, Int.one_mul]
    omega
theorem sm_zero {f : Nat → Int} : ∀ k, (∀ i, i < k → f i = 0) → sm f k = 0
  | 0, _ => rfl
  | k + 1, h => by simp only [sm]; rw [sm_zero k (fun i hi => h i (by omega)), h k (by omega)]; rfl
theorem sm_pick {f : Nat → Int} {m : Nat} : ∀ k, m < k → (∀ i, i < k → i ≠ m → f i = 0) → sm f k = f m
  | 0, h, _ => by omega
  | k + 1, h, hz => by
    simp only [sm]
    by_cases a : m = k
    · subst a
      rw [sm_zero m (fun i hi => hz i (by omega) (by omega))]; omega
    · rw [sm_pick k (by omega) (fun i hi => hz i (by omega)), hz k (by omega) (by omega)]; omega
/-- A number of a vector, of a table. -/
def vn (u : Nat → UInt8) (i : Nat) : Int := ((u i).toNat : Int)
def tn (T : Nat → UInt8) (i j k : Nat) : Int := ((T (i * 36 + j * 6 + k)).toNat : Int)
theorem vn_b (u : Nat → UInt8) (i : Nat) : 0 ≤ vn u i ∧ vn u i ≤ 255 := by
  have := (u i).toNat_lt
  unfold vn; omega
theorem tn_b (T : Nat → UInt8) (i j k : Nat) : 0 ≤ tn T i j k ∧ tn T i j k ≤ 255 := by
  have := (T (i * 36 + j * 6 + k)).toNat_lt
  unfold tn; omega
theorem mulB {x y A B : Int} (hx : 0 ≤ x ∧ x ≤ A) (hy : 0 ≤ y ∧ y ≤ B) : 0 ≤ x * y ∧ x * y ≤ A * B :=
  ⟨Int.mul_nonneg hx.1 hy.1, Int.mul_le_mul hx.2 hy.2 hy.1 (by omega)⟩
def trm (T u v : Nat → UInt8) (k i j : Nat) : Int := vn u i * vn v j * tn T i j k
theorem trm_b (T u v : Nat → UInt8) (k i j : Nat) : 0 ≤ trm T u v k i j ∧ trm T u v k i j ≤ 16581375 := mulB (mulB (vn_b u i) (vn_b v j)) (tn_b T i j k)
def rowS (T u v : Nat → UInt8) (n k i : Nat) : Int := sm (trm T u v k i) n
def prd (T u v : Nat → UInt8) (n k : Nat) : Int := sm (rowS T u v n k) n
theorem rowS_b (T u v : Nat → UInt8) {n : Nat} (hn : n ≤ 6) (k i j : Nat) (hj : j ≤ n) : 0 ≤ sm (trm T u v k i) j ∧ sm (trm T u v k i) j ≤ 99488250 := by
  have := sm_b (f := trm T u v k i) (B := 16581375) j (fun i _ => trm_b T u v k _ i)
  have : (j : Int) * 16581375 ≤ 6 * 16581375 := Int.mul_le_mul_of_nonneg_right (by omega) (by omega)
  omega
theorem prd_b (T u v : Nat → UInt8) {n : Nat} (hn : n ≤ 6) (k i : Nat) (hi : i ≤ n) : 0 ≤ sm (rowS T u v n k) i ∧ sm (rowS T u v n k) i ≤ 596929500 := by
  have := sm_b (f := rowS T u v n k) (B := 99488250) i (fun i _ => rowS_b T u v hn k i n (Nat.le_refl _))
  have : (i : Int) * 99488250 ≤ 6 * 99488250 := Int.mul_le_mul_of_nonneg_right (by omega) (by omega)
  omega
/-- The product. -/
def tmF (p : Int) (n : Nat) (T u v : Nat → UInt8) : Nat → UInt8 := fun k => if k < n then UInt8.ofInt (prd T u v n k % p) else 0
theorem prodw (T u v : Nat → UInt8) (i j k : Nat) : w64 ((w64 (((u i).toNat : Int) * ((v j).toNat : Int))) * ((T (i * 36 + j * 6 + k)).toNat : Int)) = trm T u v k i j := by
  have h1 := mulB (vn_b u i) (vn_b v j)
  have h2 := trm_b T u v k i j
  have e1 : ((u i).toNat : Int) * ((v j).toNat : Int) = vn u i * vn v j := rfl
  rw [e1, w64_in (x := vn u i * vn v j) (by omega)]
  exact w64_in (by show _ ≤ trm T u v k i j ∧ trm T u v k i j ≤ _; omega)
section
variable {p : Int} {n : Nat} (hp : 2 ≤ p ∧ p ≤ 13) (hn : n ≤ 6) (T F u v : Nat → UInt8)
include hp hn
theorem specTimes : spec_l01Times.f p n T F u v = some (tmF p n T u v) := by
  unfold spec_l01Times.f
  obtain ⟨⟨o, x⟩, e, ho⟩ := loop1_ex (f := spec_l01Times.b2 n u v T p) (fun k s => s.2 = (k : Int) ∧ s.1 = fun q => if q < k then UInt8.ofInt (prd T u v n q % p) else 0) (fun s => s.1 = tmF p n T u v) n (by omega) ((fun _ => (0 : UInt8)), 0) ⟨rfl, by funext q; rw [if_neg (by omega)]⟩
    (by
      rintro k ⟨o, x⟩ hk ⟨rfl, rfl⟩
      refine ⟨(upd (fun q => if q < k then UInt8.ofInt (prd T u v n q % p) else 0) k (UInt8.ofInt (prd T u v n k % p)), ((k + 1 : Nat) : Int)), ?_, rfl, ?_⟩
      · unfold spec_l01Times.b2
        simp only [dlt_nat, hk, decide_true, cond_true]
        have h1 := loop1_upto (f := spec_l01Times.b1 n k u v T) (fun i => (sm (rowS T u v n k) i, (i : Int))) n (prd T u v n k, (n : Int)) (by omega) (fun i hi => by
          unfold spec_l01Times.b1
          simp only [dlt_nat, hi, decide_true, cond_true]
          have hb1 := prd_b T u v hn k i (by omega)
          have h0 := loop1_upto (f := spec_l01Times.b0 n i k u v T) (fun j => (sm (rowS T u v n k) i + sm (trm T u v k i) j, (j : Int))) n (sm (rowS T u v n k) i + sm (trm T u v k i) n, (n : Int)) (by omega) (fun j hj => by
            unfold spec_l01Times.b0
            simp only [dlt_nat, hj, decide_true, cond_true]
            have hb2 := rowS_b T u v hn k i j (by omega)
            have hb3 := trm_b T u v k i j
            rw [chk_in (by omega), chk_in (by omega), chk_in (by omega)]
            simp only [Int.toNat_natCast]
            rw [prodw, w64_in (by omega), w64_succ (by omega), Int.add_assoc]; rfl) (by
            unfold spec_l01Times.b0
            simp)
          have h0' : loop1 (spec_l01Times.b0 n i k u v T) (sm (rowS T u v n k) i, 0) = some (sm (rowS T u v n k) i + sm (trm T u v k i) n, (n : Int)) := by
            have : sm (rowS T u v n k) i + sm (trm T u v k i) 0 = sm (rowS T u v n k) i := by simp [sm]
            rw [← h0, this]; rfl
          rw [h0', Option.bind_some, w64_succ (by omega)]; rfl) (by
          unfold spec_l01Times.b1
          simp [prd])
        have h1' : loop1 (spec_l01Times.b1 n k u v T) (0, 0) = _ := h1
        have hb := prd_b T u v hn k n (Nat.le_refl _)
        rw [h1', Option.bind_some]
        simp only
        rw [nz_in (by omega), chk_in (by omega), w64_succ (by omega), Int.tmod_eq_emod_of_nonneg (by exact hb.1)]
        rfl
      · funext q
        simp only [upd]
        by_cases a : q = k
        · rw [if_pos a, if_pos (by omega), a]
        · rw [if_neg a]
          by_cases b : q < k
          · rw [if_pos b, if_pos (by omega)]
          · rw [if_neg b, if_neg (by omega)])
    (by
      rintro ⟨o, x⟩ ⟨rfl, rfl⟩
      exact ⟨(tmF p n T u v, (n : Int)), by unfold spec_l01Times.b2; simp only [Int.lt_irrefl, decide_false, cond_false]; rfl, rfl⟩)
  rw [e]
  exact congrArg some ho
omit hp in
/-- A step of the program's: a product's part put on. -/
theorem implPart {i j : Nat} (hi : i < n) (hj : j < n) {y : Nat → Int} (hy : ∀ q, 0 ≤ y q ∧ y q ≤ 1000000000) : ∃ y' : Nat → Int, (bif ((w64 (((u i).toNat : Int) * ((v j).toNat : Int))) == 0) then some (.inl y) else (G.impl_Algebra_n.f p n T F).bind (fun r_3 => (loop1 (impl_Algebra_times.b0 r_3 u i v j T) (y, 0)).bind (fun p => match p with | (y4, x9) => some (.inl y4))) : Option ((Nat → Int) ⊕ LB ((Nat → Int) × Int))) = some (.inl y') ∧ ∀ q, y' q = if q < n then y q + trm T u v q i j else y q := by
  have h1 := mulB (vn_b u i) (vn_b v j)
  have e1 : w64 (((u i).toNat : Int) * ((v j).toNat : Int)) = vn u i * vn v j := w64_in (by show _ ≤ vn u i * vn v j ∧ vn u i * vn v j ≤ _; omega)
  by_cases h0 : vn u i * vn v j = 0
  · refine ⟨y, ?_, fun q => ?_⟩
    · rw [e1, h0]; rfl
    · unfold trm
      rw [h0, Int.zero_mul, Int.add_zero]
      split <;> rfl
  · have hb : (w64 (((u i).toNat : Int) * ((v j).toNat : Int)) == 0) = false := by rw [e1]; simpa using h0
    rw [hb, cond_false]
    unfold impl_Algebra_n.f
    rw [Option.bind_some]
    obtain ⟨⟨y', x⟩, e, ho⟩ := loop1_ex (f := impl_Algebra_times.b0 n u i v j T) (fun k s => s.2 = (k : Int) ∧ ∀ q, s.1 q = if q < k then y q + trm T u v q i j else y q) (fun s => ∀ q, s.1 q = if q < n then y q + trm T u v q i j else y q) n (by omega) (y, 0) ⟨rfl, fun q => by rw [if_neg (by omega)]⟩
      (by
        rintro k ⟨y', x⟩ hk ⟨rfl, hy'⟩
        simp only at hy'
        have hb3 := trm_b T u v k i j
        have hyk := hy k
        have e2 : y' k = y k := by rw [hy' k, if_neg (by omega)]
        refine ⟨(upd y' k (y k + trm T u v k i j), ((k + 1 : Nat) : Int)), ?_, rfl, fun q => ?_⟩
        · unfold impl_Algebra_times.b0
          simp only [dlt_nat, hk, decide_true, cond_true, Int.toNat_natCast]
          rw [chk_in (by omega), prodw, e2, w64_in (x := y k + trm T u v k i j) (by omega), w64_succ (by omega)]
        · simp only [upd]
          by_cases a : q = k
          · subst a; rw [if_pos rfl, if_pos (by omega)]
          · rw [if_neg a, hy' q]
            by_cases b : q < k
            · rw [if_pos b, if_pos (by omega)]
            · rw [if_neg b, if_neg (by omega)])
      (by
        rintro ⟨y', x⟩ ⟨rfl, hy'⟩
        exact ⟨_, by unfold impl_Algebra_times.b0; simp only [Int.lt_irrefl, decide_false, cond_false], hy'⟩)
    rw [e]
    exact ⟨y', rfl, ho⟩
theorem implTimes : impl_Algebra_times.f p n T F u v = some (tmF p n T u v) := by
  unfold impl_Algebra_times.f
  have en : impl_Algebra_n.f p n T F = some (n : Int) := rfl
  rw [en, Option.bind_some]
  obtain ⟨⟨y, x⟩, e, hy⟩ := loop1_ex (f := impl_Algebra_times.b2 n p n T F u v) (fun i s => s.2 = (i : Int) ∧ ∀ q, s.1 q = if q < n then sm (rowS T u v n q) i else 0) (fun s => ∀ q, s.1 q = if q < n then prd T u v n q else 0) n (by omega) ((fun _ => (0 : Int)), 0) ⟨rfl, fun q => by simp [sm]⟩
    (by
      rintro i ⟨y, x⟩ hi ⟨rfl, hy⟩
      simp only at hy
      obtain ⟨⟨y2, x2⟩, e2, hy2⟩ := loop1_ex (f := impl_Algebra_times.b1 n i u v p n T F) (fun j s => s.2 = (j : Int) ∧ ∀ q, s.1 q = if q < n then y q + sm (trm T u v q i) j else y q) (fun s => ∀ q, s.1 q = if q < n then y q + sm (trm T u v q i) n else y q) n (by omega) (y, 0) ⟨rfl, fun q => by simp [sm]⟩
        (by
          rintro j ⟨y2, x2⟩ hj ⟨rfl, hy2⟩
          simp only at hy2
          obtain ⟨y3, e3, hy3⟩ := implPart hn T F u v hi hj (y := y2) (fun q => by
            rw [hy2 q, hy q]
            have b1 := prd_b T u v hn q i (by omega)
            have b2 := rowS_b T u v hn q i j (by omega)
            split <;> omega)
          refine ⟨(y3, ((j + 1 : Nat) : Int)), ?_, rfl, fun q => ?_⟩
          · unfold impl_Algebra_times.b1
            simp only [dlt_nat, hj, decide_true, cond_true]
            rw [chk_in (by omega), chk_in (by omega)]
            simp only [Int.toNat_natCast]
            rw [e3]
            simp only [Option.bind_some, jn]
            rw [w64_succ (by omega)]
          · simp only
            rw [hy3 q, hy2 q]
            split
            · simp only [sm]; omega
            · rfl)
        (by
          rintro ⟨y2, x2⟩ ⟨rfl, hy2⟩
          exact ⟨_, by unfold impl_Algebra_times.b1; simp only [Int.lt_irrefl, decide_false, cond_false], hy2⟩)
      refine ⟨(y2, ((i + 1 : Nat) : Int)), ?_, rfl, fun q => ?_⟩
      · unfold impl_Algebra_times.b2
        simp only [dlt_nat, hi, decide_true, cond_true]
        rw [en, Option.bind_some, e2]
        simp only [Option.bind_some]
        rw [w64_succ (by omega)]
      · simp only
        have := hy2 q
        simp only at this
        rw [this, hy q]
        split
        · simp only [sm]; rfl
        · rfl)
    (by
      rintro ⟨y, x⟩ ⟨rfl, hy⟩
      exact ⟨_, by unfold impl_Algebra_times.b2; simp only [Int.lt_irrefl, decide_false, cond_false], hy⟩)
  rw [e]
  simp only [Option.bind_some]
  obtain ⟨⟨o, x3⟩, e3, ho⟩ := loop1_ex (f := impl_Algebra_times.b3 p y) (fun k s => s.2 = (k : Int) ∧ ∀ q, s.1 q = if q < k then UInt8.ofInt (y q % p) else 0) (fun s => s.1 = tmF p n T u v) 6 (by omega) ((fun _ => (0 : UInt8)), 0) ⟨rfl, fun q => by simp⟩
    (by
      rintro k ⟨o, x3⟩ hk ⟨rfl, ho⟩
      simp only at ho
      refine ⟨(upd o k (UInt8.ofInt (y k % p)), ((k + 1 : Nat) : Int)), ?_, rfl, fun q => ?_⟩
      · unfold impl_Algebra_times.b3
        have h6 : decide ((k : Int) < 6) = true := decide_eq_true (by omega)
        simp only [h6, cond_true]
        have hyk : 0 ≤ y k := by
          have := hy k
          simp only at this
          rw [this]
          have := prd_b T u v hn k n (Nat.le_refl _)
          split
          · exact this.1
          · exact Int.le_refl _
        rw [chk_in (by omega), nz_in (by omega), w64_succ (by omega)]
        simp only [Int.toNat_natCast]
        rw [Int.tmod_eq_emod_of_nonneg hyk]
      · simp only [upd]
        by_cases a : q = k
        · subst a; rw [if_pos rfl, if_pos (by omega)]
        · rw [if_neg a, ho q]
          by_cases b : q < k
          · rw [if_pos b, if_pos (by omega)]
          · rw [if_neg b, if_neg (by omega)])
    (by
      rintro ⟨o, x3⟩ ⟨rfl, ho⟩
      refine ⟨_, by unfold impl_Algebra_times.b3; rfl, ?_⟩
      funext q
      simp only at ho ⊢
      rw [ho q]
      unfold tmF
      have := hy q
      simp only at this
      rw [this]
      by_cases a : q < n
      · rw [if_pos a, if_pos (by omega), if_pos a]
      · rw [if_neg a, if_neg a]
        split
        · rfl
        · rfl)
  rw [e3]
  exact congrArg some ho
end
end Go.Proofs.Ytiiljfpbcanphaa.G

/- Units of tables: the equations of both, and what solves them. -/
namespace Go.Proofs.Ytiiljfpbcanphaa.G
open Go Go.Sx Go.Proofs
def bs (m : Nat) : Nat → UInt8 := upd (fun _ => (0 : UInt8)) m 1
def dl (m k : Nat) : Int := if k = m then 1 else 0
theorem vn_bs (m k : Nat) : vn (bs m) k = dl m k := by
  unfold vn bs upd dl
  split <;> rfl
theorem implBasis {i : Nat} (h : i < 6) : impl_basis.f (i : Int) = some (bs i) := by
  unfold impl_basis.f
  rw [chk_in (by omega)]; rfl
theorem specBasis {i : Nat} (h : i < 6) : spec_l01Basis.f (i : Int) = some (bs i) := by
  unfold spec_l01Basis.f
  rw [chk_in (by omega)]; rfl
theorem ofInt_nat {x : Int} (h : 0 ≤ x ∧ x ≤ 255) : ((UInt8.ofInt x).toNat : Int) = x := by
  have h1 := conv_i64_u8 x
  rw [IntKind.wrap_u8] at h1
  have h2 : x % 256 = ((UInt8.ofInt x).toNat : Int) := by
    have := h1
    unfold u8v at this
    injection this
  omega
def rng {α : Type} (N : Nat) (h : Nat → α) : List α := (List.range N).map h
section
variable {α : Type} [Inhabited α]
omit [Inhabited α] in
theorem rng_len (N : Nat) (h : Nat → α) : (rng N h).length = N := by simp [rng]
theorem rng_gt {N : Nat} (h : Nat → α) {x : Nat} (hx : x < N) : gt (rng N h) (x : Int) = h x := by simp [gt, rng, List.getD, hx]
omit [Inhabited α] in
theorem rng_push (N : Nat) (h : Nat → α) : rng N h ++ [h N] = rng (N + 1) h := by unfold rng; rw [List.range_succ, List.map_append]; rfl
omit [Inhabited α] in
theorem rng_set {N : Nat} (h : Nat → α) {x : Nat} (v : α) (_hx : x < N) : (rng N h).set x v = rng N (fun r => if r = x then v else h r) := by
  apply List.ext_getElem?
  intro q
  simp only [rng, List.getElem?_set, List.length_map, List.length_range, List.getElem?_map]
  by_cases hq : q < N
  · by_cases e : x = q
    · subst e; simp [hq]
    · have : ¬ q = x := fun h => e h.symm
      simp [hq, e, this]
  · by_cases e : x = q
    · omega
    · simp [hq, e]
omit [Inhabited α] in
theorem rng_congr {N : Nat} {h h' : Nat → α} (e : ∀ r, r < N → h r = h' r) : rng N h = rng N h' := by
  unfold rng
  exact List.map_congr_left fun i hi => e i (List.mem_range.1 hi)
end
theorem div_at {n x k : Nat} (hk : k < n) : (x * n + k) / n = x ∧ (x * n + k) % n = k := by
  have h0 : 0 < n := by omega
  constructor
  · rw [Nat.add_comm, Nat.add_mul_div_right _ _ h0, Nat.div_eq_of_lt hk, Nat.zero_add]
  · rw [Nat.add_comm, Nat.add_mul_mod_self_right, Nat.mod_eq_of_lt hk]
section
variable {p n : Nat} (hp : primeN p = true) (h2 : 2 ≤ p ∧ p ≤ 13) (hn : 1 ≤ n ∧ n ≤ 6) (T F : Nat → UInt8)
include h2 hn
omit h2 in
theorem implEquations {M : Nat} (hM : M ≤ 12) {maps : List PFn} (hl : maps.length = M) (mv : Nat → Nat → Nat → UInt8) (hm : ∀ x i, x < M → i < n → gt maps (x : Int) (bs i) = some (mv x i)) :
    impl_Algebra_equations.f p n T F maps = some (rng (M * n) fun r => zl n (fun i => vn (mv (r / n) i) (r % n))) := by
  unfold impl_Algebra_equations.f
  have en : impl_Algebra_n.f p n T F = some (n : Int) := rfl
  have h := loop1_upto (f := impl_Algebra_equations.b2 maps p n T F) (fun x => (rng (x * n) fun r => zl n (fun i => vn (mv (r / n) i) (r % n)), (x : Int))) M (rng (M * n) fun r => zl n (fun i => vn (mv (r / n) i) (r % n)), (M : Int)) (by omega) (fun x hx => by
    unfold impl_Algebra_equations.b2
    have hxn : x * n + n ≤ 72 := by
      have : (x + 1) * n ≤ 12 * 6 := Nat.mul_le_mul (by omega) hn.2
      rw [Nat.add_mul] at this; omega
    simp only [hl, dlt_nat, hx, decide_true, cond_true]
    rw [chk_in (by omega), en, Option.bind_some]
    have h1 := loop1_upto (f := impl_Algebra_equations.b1 n p n T F maps x) (fun k => (rng (x * n + k) fun r => zl n (fun i => vn (mv (r / n) i) (r % n)), (k : Int))) n (rng (x * n + n) fun r => zl n (fun i => vn (mv (r / n) i) (r % n)), (n : Int)) (by omega) (fun k hk => by
      unfold impl_Algebra_equations.b1
      simp only [dlt_nat, hk, decide_true, cond_true]
      rw [en, Option.bind_some]
      have h0 := loop1_upto (f := impl_Algebra_equations.b0 n maps x k) (fun i => (zl i (fun i => vn (mv x i) k), (i : Int))) n (zl n (fun i => vn (mv x i) k), (n : Int)) (by omega) (fun i hi => by
        unfold impl_Algebra_equations.b0
        simp only [dlt_nat, hi, decide_true, cond_true]
        rw [implBasis (by omega)]
        simp only [Option.bind_some]
        rw [hm x i hx hi]
        simp only [Option.bind_some]
        rw [chk_in (by omega), small_in (by rw [zl_length]; simp; omega)]
        simp only [Int.toNat_natCast]
        rw [show ((mv x i k).toNat : Int) = vn (mv x i) k from rfl, zl_push i (fun i => vn (mv x i) k), w64_succ (by omega)]) (by
        unfold impl_Algebra_equations.b0
        simp)
      have h0' : loop1 (impl_Algebra_equations.b0 n maps x k) (([] : List Int), 0) = _ := h0
      rw [h0']
      simp only [Option.bind_some]
      obtain ⟨e1, e2⟩ := div_at (x := x) hk
      have e3 : zl n (fun i => vn (mv x i) k) = (fun r => zl n (fun i => vn (mv (r / n) i) (r % n))) (x * n + k) := by
        simp only [e1, e2]
      rw [small_in (by rw [rng_len]; omega), e3, rng_push (x * n + k) (fun r => zl n (fun i => vn (mv (r / n) i) (r % n))), w64_succ (by omega)]; rfl) (by
      unfold impl_Algebra_equations.b1
      simp)
    have h1' : loop1 (impl_Algebra_equations.b1 n p n T F maps x) (rng (x * n) fun r => zl n (fun i => vn (mv (r / n) i) (r % n)), 0) = _ := h1
    rw [h1']
    simp only [Option.bind_some]
    rw [w64_succ (by omega), show (x + 1) * n = x * n + n by rw [Nat.add_mul]; omega]) (by
    unfold impl_Algebra_equations.b2
    simp [hl])
  have h' : loop1 (impl_Algebra_equations.b2 maps p n T F) (([] : List (List Int)), 0) = some (rng (M * n) fun r => zl n (fun i => vn (mv (r / n) i) (r % n)), (M : Int)) := by
    have e0 : (rng (0 * n) fun r => zl n (fun i => vn (mv (r / n) i) (r % n))) = [] := by rw [Nat.zero_mul]; rfl
    rw [← h, e0]; rfl
  rw [h']; rfl
omit h2 hn in
theorem implVector (l : List Int) (hl : l.length ≤ 6) : ∃ w, impl_vector.f l = some w := by
  unfold impl_vector.f
  obtain ⟨⟨w, x⟩, e, _⟩ := loop1_ex (f := impl_vector.b0 l) (fun k s => s.2 = (k : Int)) (fun _ => True) l.length (by omega) ((fun _ => (0 : UInt8)), 0) rfl
    (by
      rintro k ⟨w, x⟩ hk rfl
      refine ⟨(upd w k (UInt8.ofInt (gt l (k : Int))), ((k + 1 : Nat) : Int)), ?_, rfl⟩
      unfold impl_vector.b0
      simp only [dlt_nat, hk, decide_true, cond_true, Int.toNat_natCast]
      rw [chk_in (by omega), chk_in (by omega), w64_succ (by omega)])
    (by
      rintro ⟨w, x⟩ rfl
      exact ⟨(w, (l.length : Int)), by unfold impl_vector.b0; simp only [Int.lt_irrefl, decide_false, cond_false], trivial⟩)
  rw [e]
  exact ⟨w, rfl⟩
omit h2 hn in
/-- A row of an equation, with its right side. -/
theorem eq_row {e : Nat → Int} {d : Int} (he : ∀ i, i < n → 0 ≤ e i ∧ e i < p) (hd : 0 ≤ d ∧ d < p) : Row (p : Int) (n + 1) (zl n e ++ [d]) := by
  refine ⟨by simp [zl_length], fun i hi => ?_⟩
  rw [gtn (by simp [zl_length]; omega)]
  by_cases a : i < n
  · rw [List.getElem_append_left (by rw [zl_length]; exact a)]
    have := he i a
    rw [← gtn (by rw [zl_length]; exact a), zl_gt e a]; exact this
  · rw [List.getElem_append_right (by rw [zl_length]; omega)]
    simpa using hd
omit h2 hn in
theorem dot_eq {e : Nat → Int} {d : Int} {U : Nat → Int} : dot U (zl n e ++ [d]) (n + 1) = sm (fun i => e i * U i) n + d * U n := by
  have hg : ∀ k, k < n → gt (zl n e ++ [d]) (k : Int) = e k := fun k hk => by
    rw [gtn (by simp [zl_length]; omega), List.getElem_append_left (by rw [zl_length]; exact hk), ← gtn (by rw [zl_length]; exact hk), zl_gt e hk]
  have hgn : gt (zl n e ++ [d]) (n : Int) = d := by
    rw [gtn (by simp [zl_length]), List.getElem_append_right (by rw [zl_length]; omega)]
    simp [zl_length]
  have key : ∀ k, k ≤ n → dot U (zl n e ++ [d]) k = sm (fun i => e i * U i) k := by
    intro k
    induction k with
    | zero => intro _; rfl
    | succ k ih =>
      intro hk
      simp only [dot, sm]
      rw [ih (by omega), hg k (by omega)]
  simp only [dot]
  rw [key n (Nat.le_refl _), hgn]
include hp
theorem implSolved {M : Nat} (hM : 1 ≤ M ∧ M ≤ 12) {maps : List PFn} (hl : maps.length = M) (mv : Nat → Nat → Nat → UInt8) (hm : ∀ x i, x < M → i < n → gt maps (x : Int) (bs i) = some (mv x i)) {targets : List (Nat → UInt8)} (htl : targets.length = M) (tg : Nat → Nat → UInt8) (ht : ∀ x, x < M → gt targets (x : Int) = tg x)
    (hb : ∀ x i k, x < M → i < n → k < n → vn (mv x i) k < p) (hbt : ∀ x k, x < M → k < n → vn (tg x) k < p) :
    ∃ w ok, impl_Algebra_solved.f p n T F targets maps = some (w, ok) ∧ (ok = true ↔ ∃ U : Nat → Int, U n = -1 ∧ Sat (p : Int) (n + 1) U (rng (M * n) fun r => zl n (fun i => vn (mv (r / n) i) (r % n)) ++ [vn (tg (r / n)) (r % n)])) := by
  have hn0 : 0 < n := hn.1
  have hMn : 1 ≤ M * n ∧ M * n ≤ 72 := ⟨Nat.mul_pos hM.1 hn0, Nat.mul_le_mul hM.2 hn.2⟩
  unfold impl_Algebra_solved.f
  have en : impl_Algebra_n.f p n T F = some (n : Int) := rfl
  rw [implEquations hn T F hM.2 hl mv hm]
  simp only [Option.bind_some]
  have h := loop1_upto (f := impl_Algebra_solved.b0 (rng (M * n) fun r => zl n (fun i => vn (mv (r / n) i) (r % n))) p n T F targets) (fun i => (rng (M * n) (fun r => if r < i then zl n (fun i => vn (mv (r / n) i) (r % n)) ++ [vn (tg (r / n)) (r % n)] else zl n (fun i => vn (mv (r / n) i) (r % n))), (i : Int))) (M * n) (rng (M * n) (fun r => zl n (fun i => vn (mv (r / n) i) (r % n)) ++ [vn (tg (r / n)) (r % n)]), ((M * n : Nat) : Int)) (by omega) (fun i hi => by
    unfold impl_Algebra_solved.b0
    have hdiv : i / n < M := (Nat.div_lt_iff_lt_mul hn0).2 hi
    have hmod : i % n < n := Nat.mod_lt _ hn0
    simp only [rng_len, dlt_nat, hi, decide_true, cond_true]
    have e1 : Int.tdiv (i : Int) (n : Int) = ((i / n : Nat) : Int) := by rw [Int.tdiv_eq_ediv_of_nonneg (by omega)]; rfl
    have e2 : Int.tmod (i : Int) (n : Int) = ((i % n : Nat) : Int) := by rw [Int.tmod_eq_emod_of_nonneg (by omega)]; rfl
    have hb1 : 0 ≤ ((i / n : Nat) : Int) ∧ ((i / n : Nat) : Int) < (M : Int) := ⟨Int.natCast_nonneg _, Int.ofNat_lt.2 hdiv⟩
    have hb2 : 0 ≤ ((i % n : Nat) : Int) ∧ ((i % n : Nat) : Int) < (6 : Nat) := ⟨Int.natCast_nonneg _, Int.ofNat_lt.2 (Nat.lt_of_lt_of_le hmod hn.2)⟩
    have hb3 : ((M : Nat) : Int) ≤ 9223372036854775807 := by omega
    rw [chk_in (by omega), en, Option.bind_some, nz_in (by omega), e1, e2, w64_in (x := ((i / n : Nat) : Int)) ⟨Int.le_trans (by decide) hb1.1, Int.le_trans (Int.le_of_lt hb1.2) hb3⟩, chk_in (by rw [htl]; exact hb1), chk_in hb2, rng_gt _ hi, if_neg (by omega)]
    rw [small_in (by rw [zl_length]; simp; omega)]
    simp only [Int.toNat_natCast]
    rw [ht _ hdiv, rng_set _ _ hi, w64_succ (by omega), show ((tg (i / n) (i % n)).toNat : Int) = vn (tg (i / n)) (i % n) from rfl]
    congr 3
    refine rng_congr fun r hr => ?_
    by_cases a : r = i
    · subst a; rw [if_pos rfl, if_pos (by omega)]
    · rw [if_neg a]
      by_cases b : r < i
      · rw [if_pos b, if_pos (by omega)]
      · rw [if_neg b, if_neg (by omega)]) (by
    unfold impl_Algebra_solved.b0
    simp only [rng_len, Int.lt_irrefl, decide_false, cond_false]
    congr 3
    exact rng_congr fun r hr => by rw [if_pos hr])
  have h' : loop1 (impl_Algebra_solved.b0 (rng (M * n) fun r => zl n (fun i => vn (mv (r / n) i) (r % n))) p n T F targets) (rng (M * n) fun r => zl n (fun i => vn (mv (r / n) i) (r % n)), 0) = some (rng (M * n) (fun r => zl n (fun i => vn (mv (r / n) i) (r % n)) ++ [vn (tg (r / n)) (r % n)]), ((M * n : Nat) : Int)) := by
    rw [← h]
    congr 2
  rw [h']
  simp only [Option.bind_some]
  rw [en, Option.bind_some]
  obtain ⟨v, ok, e, hv, hok⟩ := implSolve (n := n) hp h2 hn.2 (rows := rng (M * n) (fun r => zl n (fun i => vn (mv (r / n) i) (r % n)) ++ [vn (tg (r / n)) (r % n)])) (by rw [rng_len]; exact hMn.1) (by rw [rng_len]; omega) (fun r hr => by
    unfold rng at hr
    obtain ⟨q, hq, rfl⟩ := List.mem_map.1 hr
    have hq' := List.mem_range.1 hq
    have hdiv : q / n < M := (Nat.div_lt_iff_lt_mul hn0).2 hq'
    have hmod : q % n < n := Nat.mod_lt _ hn0
    exact eq_row (fun i hi => ⟨(vn_b _ _).1, hb _ _ _ hdiv hi hmod⟩) ⟨(vn_b _ _).1, hbt _ _ hdiv hmod⟩)
  rw [e]
  obtain ⟨w, hw⟩ := implVector v hv
  simp only [Option.bind_some]
  rw [hw]
  exact ⟨w, ok, rfl, hok⟩
end
end Go.Proofs.Ytiiljfpbcanphaa.G
