/- Plain laws. -/
import Derived.Test.YtjjfoofjipafiaaMComposeTensors4
import Derived.ProofKit
import Derived.OpenShut
import Derived.ShutString
import Derived.ChangeOld
import Derived.Carry
import Derived.SizedLaws
import Derived.ChangeSlices
import Derived.Deep.Matrix
/- Pl: plain laws of the loops, and of whole numbers. -/
namespace Go.Sx

theorem loopN_mono {σ ρ : Type} {f : σ → Option (LR σ ρ)} : ∀ {k s o}, loopN f k s = some o → ∀ {k'}, k ≤ k' → loopN f k' s = some o
  | 0, _, _, h, _, _ => by cases h
  | k + 1, s, o, h, k', hk => by
    obtain ⟨j, rfl⟩ : ∃ j, k' = j + 1 := ⟨k' - 1, by omega⟩
    simp only [loopN] at h ⊢
    split at h
    · cases h
    · exact loopN_mono h (by omega)
    · exact h
    · exact h

theorem loop_run {σ ρ : Type} {f : σ → Option (LR σ ρ)} (Inv : σ → Prop) (m : σ → Nat) (Q : LO σ ρ → Prop)
    (h : ∀ s, Inv s → (∃ s', f s = some (.next s') ∧ Inv s' ∧ m s' < m s) ∨ (∃ s', f s = some (.brk s') ∧ Q (.brk s')) ∨ (∃ r, f s = some (.ret r) ∧ Q (.ret r)))
    (s : σ) (hs : Inv s) (hm : m s < 4611686018427387904) : ∃ o, loop f s = some o ∧ Q o := by
  have key : ∀ k s, Inv s → m s < k → ∃ o, loopN f k s = some o ∧ Q o := by
    intro k
    induction k with
    | zero => intro s _ h; omega
    | succ k ih =>
      intro s hs hm
      rcases h s hs with ⟨s', h1, h2, h3⟩ | ⟨s', h1, h2⟩ | ⟨r, h1, h2⟩
      · obtain ⟨o, ho, hq⟩ := ih s' h2 (by omega)
        exact ⟨o, by simp only [loopN, h1]; exact ho, hq⟩
      · exact ⟨_, by simp only [loopN, h1], h2⟩
      · exact ⟨_, by simp only [loopN, h1], h2⟩
  obtain ⟨o, ho, hq⟩ := key (m s + 1) s hs (by omega)
  exact ⟨o, loopN_mono ho (by unfold FUEL; omega), hq⟩

theorem loop1_of {σ : Type} {f : σ → Option (LB σ)} {s s' : σ} (h : loop (ρ := Empty) (fun s => (f s).map LB.lr) s = some (.brk s')) : loop1 f s = some s' := by
  unfold loop1; rw [h]

theorem loop1_run {σ : Type} {f : σ → Option (LB σ)} (Inv : σ → Prop) (m : σ → Nat) (Q : σ → Prop)
    (h : ∀ s, Inv s → (∃ s', f s = some (.next s') ∧ Inv s' ∧ m s' < m s) ∨ (∃ s', f s = some (.brk s') ∧ Q s'))
    (s : σ) (hs : Inv s) (hm : m s < 4611686018427387904) : ∃ o, loop1 f s = some o ∧ Q o := by
  obtain ⟨o, ho, hq⟩ := loop_run (ρ := Empty) (f := fun s => (f s).map LB.lr) Inv m (fun o => match o with | .brk s => Q s | .ret r => nomatch r) (by
    intro s hs
    rcases h s hs with ⟨s', h1, h2, h3⟩ | ⟨s', h1, h2⟩
    · exact .inl ⟨s', by rw [h1]; rfl, h2, h3⟩
    · exact .inr (.inl ⟨s', by rw [h1]; rfl, h2⟩)) s hs hm
  cases o with
  | brk s' => exact ⟨s', loop1_of ho, hq⟩
  | ret r => exact nomatch r

theorem loop_of {σ ρ : Type} {f : σ → Option (LR σ ρ)} {s : σ} {o : LO σ ρ} {k : Nat} (h : loopN f k s = some o) (hk : k ≤ 4611686018427387904) : loop f s = some o :=
  loopN_mono h (by unfold FUEL; omega)

/-- A loop that counts up to n, and leaves by its end. -/
theorem loop_upto {σ ρ : Type} {f : σ → Option (LR σ ρ)} (S : Nat → σ) (n : Nat) (b : σ) (hn : n < 4611686018427387904) (step : ∀ i, i < n → f (S i) = some (.next (S (i + 1)))) (fin : f (S n) = some (.brk b)) : loop f (S 0) = some (.brk b) := by
  have key : ∀ d i, i + d = n → loopN f (d + 1) (S i) = some (.brk b) := by
    intro d
    induction d with
    | zero => intro i hi; obtain rfl : i = n := by omega
              simp only [loopN, fin]
    | succ d ih => intro i hi; rw [loopN, step i (by omega)]; exact ih (i + 1) (by omega)
  exact loop_of (key n 0 (by omega)) (by omega)
theorem loop1_upto {σ : Type} {f : σ → Option (LB σ)} (S : Nat → σ) (n : Nat) (b : σ) (hn : n < 4611686018427387904) (step : ∀ i, i < n → f (S i) = some (.next (S (i + 1)))) (fin : f (S n) = some (.brk b)) : loop1 f (S 0) = some b :=
  loop1_of (loop_upto (ρ := Empty) (f := fun s => (f s).map LB.lr) S n b hn (fun i hi => by rw [step i hi]; rfl) (by rw [fin]; rfl))

/-- A loop that counts up to n and looks for something. -/
theorem loop_find {σ ρ : Type} {f : σ → Option (LR σ ρ)} (S : Nat → σ) (n : Nat) (bad : Nat → Bool) (r : Nat → ρ) (b : σ) (hn : n < 4611686018427387904)
    (step : ∀ i, i < n → f (S i) = some (bif bad i then .ret (r i) else .next (S (i + 1)))) (fin : f (S n) = some (.brk b)) :
    loop f (S 0) = some (match (List.range n).find? bad with | some i => .ret (r i) | none => .brk b) := by
  have key : ∀ d i, i + d = n → loopN f (d + 1) (S i) = some (match (List.range' i d).find? bad with | some i => .ret (r i) | none => .brk b) := by
    intro d
    induction d with
    | zero => intro i hi; obtain rfl : i = n := by omega
              simp only [loopN, fin]; rfl
    | succ d ih =>
      intro i hi
      rw [loopN, step i (by omega), List.range'_succ, List.find?_cons]
      cases hb : bad i with
      | true => rfl
      | false => exact ih (i + 1) (by omega)
  rw [List.range_eq_range']
  exact loop_of (key n 0 (by omega)) (by omega)
theorem loop_any {σ ρ : Type} {f : σ → Option (LR σ ρ)} (S : Nat → σ) (n : Nat) (bad : Nat → Bool) (r : ρ) (b : σ) (hn : n < 4611686018427387904)
    (step : ∀ i, i < n → f (S i) = some (bif bad i then .ret r else .next (S (i + 1)))) (fin : f (S n) = some (.brk b)) :
    loop f (S 0) = some (bif (List.range n).any bad then .ret r else .brk b) := by
  rw [loop_find S n bad (fun _ => r) b hn step fin]
  cases hf : (List.range n).find? bad with
  | none =>
    have : (List.range n).any bad = false := by
      rw [List.any_eq_false]; intro x hx; have := List.find?_eq_none.1 hf x hx; simpa using this
    rw [this]; rfl
  | some i =>
    have : (List.range n).any bad = true := List.any_eq_true.2 ⟨i, List.mem_of_find?_eq_some hf, List.find?_some hf⟩
    rw [this]; rfl

theorem w64_in {x : Int} (h : -9223372036854775808 ≤ x ∧ x ≤ 9223372036854775807) : w64 x = x := IntWalk.i64_in x h
theorem w64_succ {i : Nat} (h : i < 4611686018427387904) : w64 ((i : Int) + 1) = ((i + 1 : Nat) : Int) := by rw [w64_in (by omega)]; omega
theorem w64_pred {i : Nat} (h : i < 4611686018427387904) : w64 (((i + 1 : Nat) : Int) - 1) = (i : Int) := by rw [w64_in (by omega)]; omega
theorem chk_in {α : Type} {i : Int} {n : Nat} {k : Option α} (h : 0 ≤ i ∧ i < n) : chk i n k = k := if_pos h
theorem nz_in {α : Type} {b : Int} {k : Option α} (h : b ≠ 0) : nz b k = k := if_neg h
theorem small_in {α : Type} {n : Nat} {k : Option α} (h : n ≤ 1099511627776) : small n k = k := if_pos h
theorem dlt_nat (i n : Nat) : decide ((i : Int) < (n : Int)) = decide (i < n) := by simp
theorem beq_nat (a b : Nat) : ((a : Int) == (b : Int)) = decide (a = b) := by rw [Bool.eq_iff_iff]; simp; omega
theorem beq_nat0 (a : Nat) : ((a : Int) == 0) = decide (a = 0) := by rw [Bool.eq_iff_iff]; simp
theorem bne_nat (a b : Nat) : ((a : Int) != (b : Int)) = !decide (a = b) := by rw [bne, beq_nat]
theorem bne_nat0 (a : Nat) : ((a : Int) != 0) = !decide (a = 0) := by rw [bne, beq_nat0]
theorem any_congr {n : Nat} {p q : Nat → Bool} (h : ∀ i, i < n → p i = q i) : (List.range n).any p = (List.range n).any q := by
  rw [Bool.eq_iff_iff]
  simp only [List.any_eq_true, List.mem_range]
  constructor
  · rintro ⟨i, hi, hp⟩; exact ⟨i, hi, by rw [← h i hi]; exact hp⟩
  · rintro ⟨i, hi, hp⟩; exact ⟨i, hi, by rw [h i hi]; exact hp⟩
end Go.Sx

/- Slices of numbers that are searched. -/
namespace Go.Proofs.Ytjjfoofjipafiaa.G
open Go Go.Sx Go.Proofs
theorem gt_ix {α : Type} [Inhabited α] {a : List α} {i : Nat} (h : i < a.length) : gt a (i : Int) = a[i] := by simp [gt, List.getD, h]
theorem any_ix {α : Type} [Inhabited α] (a : List α) (p : α → Bool) : (List.range a.length).any (fun (i : Nat) => p (gt a (i : Int))) = a.any p := by
  rw [Bool.eq_iff_iff, List.any_eq_true, List.any_eq_true]
  constructor
  · rintro ⟨i, hi, h⟩
    have hi' := List.mem_range.1 hi
    exact ⟨a[i], List.getElem_mem _, by rwa [gt_ix hi'] at h⟩
  · rintro ⟨x, hx, h⟩
    obtain ⟨i, hi, rfl⟩ := List.mem_iff_getElem.1 hx
    exact ⟨i, List.mem_range.2 hi, by rw [gt_ix hi]; exact h⟩
theorem found {n : Nat} (p : Nat → Bool) (b : Int) : (((some (match (List.range n).find? p with | some i => LO.ret ((i : Nat) : Int) | none => LO.brk b) : Option (LO Int Int)).bind (ln fun _ => some (-1))).bind fun r_1 => some (decide (r_1 ≥ 0))) = some ((List.range n).any p) := by
  cases hfd : (List.range n).find? p with
  | none =>
    have : (List.range n).any p = false := by
      rw [List.any_eq_false]; intro x hx; have := List.find?_eq_none.1 hfd x hx; simpa using this
    rw [this]; rfl
  | some i =>
    have : (List.range n).any p = true := List.any_eq_true.2 ⟨i, List.mem_of_find?_eq_some hfd, List.find?_some hfd⟩
    rw [this]
    have hd : decide ((i : Int) ≥ 0) = true := by simp
    simp only [Option.bind_some, ln, hd]
theorem hasVal (a : List Int) (h : a.length < 1000000) (v : Int) : slices_Contains_int64_int64.f a v = some (a.any fun x => v == x) := by
  unfold slices_Contains_int64_int64.f slices_Index_int64_int64.f
  have hl := loop_find (f := slices_Index_int64_int64.b0 a v) (fun i => (i : Int)) a.length (fun (i : Nat) => v == gt a (i : Int)) (fun i => (i : Int)) (a.length : Int) (by omega) (fun i hi => by
    unfold slices_Index_int64_int64.b0
    simp only [dlt_nat, hi, decide_true, cond_true]
    rw [chk_in (by omega), w64_succ (by omega)]
    cases v == gt a (i : Int) <;> rfl) (by
    unfold slices_Index_int64_int64.b0
    simp)
  have hl' : loop (slices_Index_int64_int64.b0 a v) 0 = _ := hl
  rw [hl', ← any_ix a (fun x => v == x)]
  exact found _ _
end Go.Proofs.Ytjjfoofjipafiaa.G

/- The primes that are allowed, told by both. -/
namespace Go.Proofs.Ytjjfoofjipafiaa.G
open Go Go.Sx Go.Proofs
def primeB (p : Int) : Bool := ((((((p == 2) || (p == 3)) || (p == 5)) || (p == 7)) || (p == 11)) || (p == 13))
theorem specPrime (p : Int) : spec_l01Prime.f p = some (primeB p) := rfl
theorem implPrime (p : Int) : impl_isPrime.f p = some (primeB p) := by
  unfold impl_isPrime.f
  rw [hasVal _ (by simp)]
  simp only [Option.bind_some, List.any_cons, List.any_nil, Bool.or_false, primeB, Bool.or_assoc]
theorem primeB_le {p : Int} (h : primeB p = true) : 2 ≤ p ∧ p ≤ 13 := by
  unfold primeB at h
  simp only [Bool.or_eq_true, beq_iff_eq] at h
  omega
end Go.Proofs.Ytjjfoofjipafiaa.G

/- Slices of numbers that are searched by a test. -/
namespace Go.Proofs.Ytjjfoofjipafiaa.G
open Go Go.Sx Go.Proofs
theorem hasInts (a : List Int) (h : a.length < 10000000) (f : Int → Option Bool) (p : Int → Bool) (hf : ∀ x ∈ a, f x = some (p x)) : slices_ContainsFunc_int64_int64.f a f = some (a.any p) := by
  unfold slices_ContainsFunc_int64_int64.f slices_IndexFunc_int64_int64.f
  have hl := loop_find (f := slices_IndexFunc_int64_int64.b0 a f) (fun i => (i : Int)) a.length (fun (i : Nat) => p (gt a (i : Int))) (fun i => (i : Int)) (a.length : Int) (by omega) (fun i hi => by
    unfold slices_IndexFunc_int64_int64.b0
    simp only [dlt_nat, hi, decide_true, cond_true]
    rw [chk_in (by omega), hf _ (by rw [gt_ix hi]; exact List.getElem_mem _), Option.bind_some, w64_succ (by omega)]
    cases p (gt a (i : Int)) <;> rfl) (by
    unfold slices_IndexFunc_int64_int64.b0
    simp)
  have hl' : loop (slices_IndexFunc_int64_int64.b0 a f) 0 = _ := hl
  rw [hl', ← any_ix a p]
  exact found _ _
end Go.Proofs.Ytjjfoofjipafiaa.G

/- What a tensor is, told by both. -/
namespace Go.Proofs.Ytjjfoofjipafiaa.G
open Go Go.Sx Go.Proofs
set_option maxRecDepth 100000 in
theorem power_tab : ∀ n : Fin 7, ∀ k : Fin 17, 1 ≤ n.val → (impl_powerOf.f (n.val : Int) (k.val : Int)).isSome = true ∧ impl_powerOf.f (n.val : Int) (k.val : Int) = spec_l03Power.f (n.val : Int) (k.val : Int) := by decide +kernel
theorem power_same {n k : Int} (hn : 1 ≤ n ∧ n ≤ 6) (hk : 0 ≤ k ∧ k ≤ 16) : ∃ v, impl_powerOf.f n k = some v ∧ spec_l03Power.f n k = some v := by
  obtain ⟨a, rfl⟩ := Int.eq_ofNat_of_zero_le (show 0 ≤ n by omega)
  obtain ⟨b, rfl⟩ := Int.eq_ofNat_of_zero_le hk.1
  have := power_tab ⟨a, by omega⟩ ⟨b, by omega⟩ (by simp only; omega)
  simp only at this
  obtain ⟨v, hv⟩ := Option.isSome_iff_exists.1 this.1
  exact ⟨v, hv, by rw [← this.2]; exact hv⟩
theorem tensor_same (p n i o : Int) (l : List Int) (h : l.length ≤ 1048576) (hp : IntKind.i64.has p) : ∃ b, spec_l03Is.f p n i o l = some b ∧ impl_IsTensor.f p n i o l = some b := by
  unfold spec_l03Is.f impl_IsTensor.f impl_shapeOk.f impl_endsOk.f spec_l01In.f impl_in.f
  rw [specPrime, implPrime]
  simp only [Option.bind_some]
  cases hpr : primeB p with
  | false => exact ⟨_, rfl, rfl⟩
  | true =>
    have hpb := primeB_le hpr
    simp only [Bool.not_true, cond_false, cond_true, Option.bind_some]
    cases h1 : (decide (n ≥ 1) && decide (n ≤ 6)) with
    | false => exact ⟨_, rfl, rfl⟩
    | true =>
      simp only [Bool.not_true, cond_false, Option.bind_some]
      cases h2 : (decide (i ≥ 0) && decide (i ≤ 8)) with
      | false => exact ⟨_, rfl, rfl⟩
      | true =>
        simp only [Bool.not_true, cond_false, Option.bind_some]
        cases h3 : (decide (o ≥ 0) && decide (o ≤ 8)) with
        | false => exact ⟨_, rfl, rfl⟩
        | true =>
          simp only [Bool.and_eq_true, decide_eq_true_eq] at h1 h2 h3
          simp only [Bool.not_true, cond_false]
          rw [w64_in (x := i + o) (by omega)]
          obtain ⟨v, e1, e2⟩ := power_same (n := n) (k := i + o) (by omega) (by omega)
          rw [e1, e2]
          simp only [Option.bind_some]
          have hc := hasInts l (by omega) (fun x0_ => impl_IsTensor_1.f x0_ p n i o l) (fun x => !(decide (x ≥ 0) && decide (x ≤ p - 1))) (fun x _ => by
            unfold impl_IsTensor_1.f impl_in.f
            rw [w64_in (x := p - 1) (by omega)]
            rfl)
          rw [hc, Option.bind_some]
          refine ⟨_, ?_, rfl⟩
          by_cases hv : v > 1296
          · have : decide (v ≤ 1296) = false := decide_eq_false (by omega)
            rw [decide_eq_true hv, this]; rfl
          · have : decide (v ≤ 1296) = true := decide_eq_true (by omega)
            rw [decide_eq_false hv, this]
            simp only [Bool.false_or, Bool.true_and, bne]
            cases hlen : ((l.length : Int) == v) with
            | false => rfl
            | true =>
              simp only [Bool.not_true, cond_false, Bool.true_and]
              have hl := loop_any (f := spec_l03Is.b0 l p) (fun q => (q : Int)) l.length (fun (q : Nat) => !(decide (gt l (q : Int) ≥ 0) && decide (gt l (q : Int) ≤ p - 1))) false (l.length : Int) (by omega) (fun q hq => by
                unfold spec_l03Is.b0 spec_l01In.f
                simp only [dlt_nat, hq, decide_true, cond_true]
                rw [chk_in (by omega), w64_in (x := p - 1) (by omega), Option.bind_some, w64_succ (by omega)]
                cases (decide (gt l (q : Int) ≥ 0) && decide (gt l (q : Int) ≤ p - 1)) <;> rfl) (by
                unfold spec_l03Is.b0
                simp)
              have hl' : loop (spec_l03Is.b0 l p) 0 = _ := hl
              rw [hl', any_ix l (fun x => !(decide (x ≥ 0) && decide (x ≤ p - 1)))]
              cases l.any (fun x => !(decide (x ≥ 0) && decide (x ≤ p - 1))) <;> rfl
end Go.Proofs.Ytjjfoofjipafiaa.G

/- Rests: told by both. -/
namespace Go.Proofs.Ytjjfoofjipafiaa.G
open Go Go.Sx Go.Proofs
theorem rs_emod {p : Int} (x : Int) (hp : 2 ≤ p ∧ p ≤ 13) : Int.tmod (w64 (Int.tmod x p + p)) p = x % p := by
  have h1 := Int.tmod_lt_of_pos x (show 0 < p by omega)
  have h2 := Int.lt_tmod_of_pos x (show 0 < p by omega)
  rw [w64_in (by omega), Int.tmod_eq_emod_of_nonneg (by omega), Int.add_emod_right]
  have h3 : Int.tmod x p + p * Int.tdiv x p = x := Int.tmod_add_mul_tdiv x p
  conv => rhs; rw [← h3]
  rw [Int.add_mul_emod_self_left]
theorem specMod {p : Int} (x : Int) (hp : 2 ≤ p ∧ p ≤ 13) : spec_l01Mod.f p x = some (x % p) := by
  unfold spec_l01Mod.f
  rw [nz_in (by omega), rs_emod x hp]
theorem implRest {p : Int} (x : Int) (hp : 2 ≤ p ∧ p ≤ 13) : impl_rest.f x p = some (x % p) := by
  unfold impl_rest.f
  rw [nz_in (by omega), rs_emod x hp]
theorem emod_b {p : Int} (x : Int) (hp : 2 ≤ p ∧ p ≤ 13) : 0 ≤ x % p ∧ x % p < p := ⟨Int.emod_nonneg _ (by omega), Int.emod_lt_of_pos _ (by omega)⟩
/-- So many whole numbers. -/
def zl (n : Nat) (e : Nat → Int) : List Int := (List.range n).map e
theorem zl_length (n : Nat) (e : Nat → Int) : (zl n e).length = n := by simp [zl]
theorem zl_gt {n : Nat} (e : Nat → Int) {k : Nat} (hk : k < n) : gt (zl n e) (k : Int) = e k := by simp [gt, zl, List.getD, hk]
theorem zl_set {n : Nat} (e : Nat → Int) {k : Nat} (v : Int) (hk : k < n) : (zl n e).set k v = zl n (fun x => if x = k then v else e x) := by
  apply List.ext_getElem?
  intro q
  simp only [zl, List.getElem?_set, List.length_map, List.length_range, List.getElem?_map]
  by_cases hq : q < n
  · by_cases h : k = q
    · subst h; simp [hk]
    · have : ¬ q = k := fun e => h e.symm
      simp [hq, h, this]
  · by_cases h : k = q
    · omega
    · simp [hq, h]
theorem zl_congr {n : Nat} {e f : Nat → Int} (h : ∀ i, i < n → e i = f i) : zl n e = zl n f := by
  unfold zl
  refine List.map_congr_left fun i hi => ?_
  rw [h i (List.mem_range.1 hi)]
theorem zl_rep (n : Nat) (v : Int) : List.replicate n v = zl n (fun _ => v) := by
  apply List.ext_getElem?
  intro q
  by_cases hq : q < n <;> simp [zl, hq]
theorem zl_cons (n : Nat) (e : Nat → Int) (v : Int) : [v] ++ zl n e = zl (n + 1) (fun i => if i = 0 then v else e (i - 1)) := by
  unfold zl
  rw [List.range_succ_eq_map, List.map_cons, List.map_map]
  simp only [List.singleton_append, if_pos]
  congr 1
theorem zl_of {l : List Int} : l = zl l.length (fun i => gt l (i : Int)) := by
  apply List.ext_getElem?
  intro q
  by_cases hq : q < l.length
  · simp [zl, hq, gt, List.getD]
  · simp [zl, hq]
end Go.Proofs.Ytjjfoofjipafiaa.G

/- Digits of a number, and tensors that are told by them. -/
namespace Go.Proofs.Ytjjfoofjipafiaa.G
open Go Go.Sx Go.Proofs
set_option maxRecDepth 100000 in
theorem pw_tab : ∀ n : Fin 7, ∀ k : Fin 17, 1 ≤ n.val → (match impl_powerOf.f (n.val : Int) (k.val : Int) with | some v => decide (if n.val ^ k.val ≤ 1296 then v = ((n.val ^ k.val : Nat) : Int) else v > 1296) | none => false) = true := by decide +kernel
theorem pw_both {n k : Nat} (hn : 1 ≤ n ∧ n ≤ 6) (hk : k ≤ 16) : ∃ v, impl_powerOf.f n k = some v ∧ spec_l03Power.f n k = some v ∧ (n ^ k ≤ 1296 → v = ((n ^ k : Nat) : Int)) ∧ (1296 < n ^ k → v > 1296) := by
  obtain ⟨v, h1, h2⟩ := power_same (n := (n : Int)) (k := (k : Int)) (by omega) (by omega)
  have h := pw_tab ⟨n, by omega⟩ ⟨k, by omega⟩ (by simp only; omega)
  simp only at h
  rw [h1] at h
  simp only [decide_eq_true_eq] at h
  refine ⟨v, h1, h2, fun hle => ?_, fun hlt => ?_⟩
  · rw [if_pos hle] at h; exact h
  · rw [if_neg (by omega)] at h; exact h
/-- The digits of a number, so many of them. -/
def dg (n m x : Nat) : List Int := zl m (fun i => ((x / n ^ (m - 1 - i) % n : Nat) : Int))
theorem dg_length (n m x : Nat) : (dg n m x).length = m := by simp [dg, zl_length]
theorem zl_takek {n k : Nat} (e : Nat → Int) (h : k ≤ n) : (zl n e).take k = zl k e := by
  unfold zl
  rw [← List.map_take, List.take_range, Nat.min_eq_left h]
theorem zl_dropk (a b : Nat) (e : Nat → Int) : (zl (a + b) e).drop a = zl b (fun i => e (a + i)) := by
  apply List.ext_getElem?
  intro q
  by_cases hq : q < b <;> simp [zl, hq]
theorem zl_snoc (k : Nat) (e : Nat → Int) : zl (k + 1) e = zl k e ++ [e k] := by simp [zl, List.range_succ]
theorem dg_take (n a b x : Nat) : (dg n (a + b) x).take a = dg n a (x / n ^ b) := by
  unfold dg
  rw [zl_takek _ (by omega)]
  refine zl_congr fun i hi => ?_
  rw [Nat.div_div_eq_div_mul, ← Nat.pow_add, show b + (a - 1 - i) = a + b - 1 - i by omega]
theorem dg_mod (n b x : Nat) : dg n b (x % n ^ b) = dg n b x := by
  unfold dg
  refine zl_congr fun i hi => ?_
  have e : n ^ b = n ^ (b - 1 - i) * (n ^ i * n) := by
    rw [← Nat.pow_succ, ← Nat.pow_add]; congr 1; omega
  rw [e, Nat.mod_mul_right_div_self, Nat.mod_mod_of_dvd _ (Nat.dvd_mul_left n (n ^ i))]
theorem dg_drop (n a b x : Nat) : (dg n (a + b) x).drop a = dg n b (x % n ^ b) := by
  rw [dg_mod]
  unfold dg
  rw [zl_dropk]
  refine zl_congr fun i hi => ?_
  rw [show a + b - 1 - (a + i) = b - 1 - i by omega]
theorem dg_succ (n m x : Nat) : dg n (m + 1) x = dg n m (x / n) ++ [((x % n : Nat) : Int)] := by
  unfold dg
  rw [zl_snoc]
  congr 1
  · refine zl_congr fun i hi => ?_
    rw [Nat.div_div_eq_div_mul, ← Nat.pow_succ', show m + 1 - 1 - i = m - 1 - i + 1 by omega]
  · simp
/-- The number of digits. -/
def pl (n : Int) (acc : Int) (l : List Int) : Int := l.foldl (fun a d => a * n + d) acc
theorem pl_dg {n : Nat} : ∀ (m x : Nat) (acc : Nat), x < n ^ m → pl n acc (dg n m x) = ((acc * n ^ m + x : Nat) : Int)
  | 0, x, acc, h => by
    have : x = 0 := by simpa using h
    subst this
    simp [pl, dg, zl]
  | m + 1, x, acc, h => by
    have hn : 0 < n := by
      rcases Nat.eq_zero_or_pos n with h0 | h0
      · subst h0; simp at h
      · exact h0
    rw [dg_succ]
    have hx : x / n < n ^ m := by
      rw [Nat.div_lt_iff_lt_mul hn]; rw [Nat.pow_succ] at h; exact h
    have ih := pl_dg m (x / n) acc hx
    unfold pl at ih ⊢
    rw [List.foldl_append, ih]
    simp only [List.foldl_cons, List.foldl_nil]
    have := Nat.div_add_mod x n
    rw [Nat.pow_succ, ← Int.natCast_mul, ← Int.natCast_add]
    congr 1
    rw [Nat.add_mul, Nat.mul_assoc, Nat.add_assoc, Nat.mul_comm (x / n) n, this]
theorem dg_inj {n m x y : Nat} (hx : x < n ^ m) (hy : y < n ^ m) (h : dg n m x = dg n m y) : x = y := by
  have h1 := pl_dg (n := n) m x 0 hx
  have h2 := pl_dg (n := n) m y 0 hy
  rw [h] at h1
  rw [h1] at h2
  omega
theorem w64_nat {q : Nat} (h : q ≤ 100000) : w64 (q : Int) = (q : Int) := w64_in (by omega)
theorem implDigits {n m x : Nat} (hn : 1 ≤ n ∧ n ≤ 6) (hm : m ≤ 16) (hx : x ≤ 100000) : impl_digits.f x n m = some (dg n m x) := by
  unfold impl_digits.f
  have g : decide ((0 : Int) ≤ (m : Int)) = true := by simp
  rw [g, Int.toNat_natCast]
  simp only [grd, cond_true]
  rw [small_in (by omega), zl_rep]
  have h := loop1_upto (f := impl_digits.b0 n) (fun k => (((x / n ^ k : Nat) : Int), zl m (fun i => if i + k < m then 0 else ((x / n ^ (m - 1 - i) % n : Nat) : Int)), (m : Int) - 1 - (k : Int))) m (((x / n ^ m : Nat) : Int), dg n m x, -1) (by omega) (fun k hk => by
    unfold impl_digits.b0
    have d1 : decide ((m : Int) - 1 - (k : Int) ≥ 0) = true := by simp; omega
    have e2 : (m : Int) - 1 - (k : Int) = ((m - 1 - k : Nat) : Int) := by omega
    have hle : x / n ^ k ≤ 100000 := Nat.le_trans (Nat.div_le_self _ _) hx
    have hd : Int.tdiv ((x / n ^ k : Nat) : Int) (n : Int) = ((x / n ^ (k + 1) : Nat) : Int) := by
      rw [← Int.ofNat_tdiv, Nat.div_div_eq_div_mul, Nat.pow_succ]
    have hle2 : x / n ^ (k + 1) ≤ 100000 := Nat.le_trans (Nat.div_le_self _ _) hx
    simp only [d1, cond_true]
    rw [nz_in (by omega), e2, zl_length, chk_in (by omega), hd, w64_nat hle2, w64_in (by omega), Int.toNat_natCast, ← Int.ofNat_tmod, zl_set _ _ (by omega)]
    congr 3
    · congr 1
      · refine zl_congr fun i hi => ?_
        by_cases hik : i = m - 1 - k
        · subst hik
          rw [if_pos rfl, if_neg (by omega), show m - 1 - (m - 1 - k) = k by omega]
        · rw [if_neg hik]
          by_cases h2 : i + k < m
          · rw [if_pos h2, if_pos (by omega)]
          · rw [if_neg h2, if_neg (by omega)]
      · omega) (by
    unfold impl_digits.b0
    have d1 : decide ((m : Int) - 1 - (m : Int) ≥ 0) = false := by simp; omega
    simp only [d1, cond_false]
    congr 3
    congr 1
    · refine zl_congr fun i hi => ?_
      rw [if_neg (by omega)]
    · omega)
  have e0 : (((x / n ^ 0 : Nat) : Int), zl m (fun i => if i + 0 < m then (0 : Int) else ((x / n ^ (m - 1 - i) % n : Nat) : Int)), (m : Int) - 1 - ((0 : Nat) : Int)) = ((x : Int), zl m (fun _ => 0), w64 ((m : Int) - 1)) := by
    rw [w64_in (by omega)]
    congr 1
    · simp
    · congr 1
      · exact zl_congr fun i hi => by rw [if_pos (by omega)]
      · omega
  rw [e0] at h
  rw [h]
  rfl
/-- A tensor that is told by its digits. -/
theorem implTensor {n a b : Nat} {p : Int} (hp : 2 ≤ p ∧ p ≤ 13) (hn : 1 ≤ n ∧ n ≤ 6) (ha : a ≤ 8) (hb : b ≤ 8) (of : List Int → List Int → Option Int) (g : Nat → Int) (hof : ∀ x, x < n ^ (a + b) → of (dg n a (x / n ^ b)) (dg n b (x % n ^ b)) = some (g x)) :
    impl_tensor.f p n a b of = some (if n ^ (a + b) ≤ 1296 then (p, (n : Int), (a : Int), (b : Int), zl (n ^ (a + b)) (fun x => g x % p), 0) else (0, 0, 0, 0, [], 3)) := by
  unfold impl_tensor.f impl_endsOk.f impl_in.f
  have w : w64 ((a : Int) + (b : Int)) = ((a + b : Nat) : Int) := by rw [w64_in (by omega)]; omega
  obtain ⟨v, h1, _, h3, h4⟩ := pw_both (n := n) (k := a + b) hn (by omega)
  have ca : (decide ((a : Int) ≥ 0) && decide ((a : Int) ≤ 8)) = true := by simp; omega
  have cb : (decide ((b : Int) ≥ 0) && decide ((b : Int) ≤ 8)) = true := by simp; omega
  rw [w, h1, ca, cb]
  simp only [Option.bind_some, Bool.not_true, cond_false, Bool.false_or]
  by_cases hle : n ^ (a + b) ≤ 1296
  · have hv := h3 hle
    subst hv
    rw [if_pos hle, decide_eq_false (by omega), cond_false]
    have h := loop1_upto (f := impl_tensor.b0 ((n ^ (a + b) : Nat) : Int) n a b of p) (fun k => (zl k (fun x => g x % p), (k : Int))) (n ^ (a + b)) (zl (n ^ (a + b)) (fun x => g x % p), ((n ^ (a + b) : Nat) : Int)) (by omega) (fun k hk => by
      unfold impl_tensor.b0
      simp only [dlt_nat, hk, decide_true, cond_true]
      rw [w, implDigits hn (by omega) (by omega), Option.bind_some, dg_length]
      have c1 : (decide (0 ≤ 0) && decide ((0 : Int) ≤ (a : Int)) && decide ((a : Int) ≤ ((a + b : Nat) : Int))) = true := by simp; omega
      have c2 : (decide ((0 : Int) ≤ (a : Int)) && decide ((a : Int) ≤ ((a + b : Nat) : Int)) && decide (((a + b : Nat) : Int) ≤ ((a + b : Nat) : Int))) = true := by simp; omega
      rw [c1, c2, Int.toNat_natCast, List.drop_zero, Nat.sub_zero, dg_take, dg_drop, List.take_of_length_le (by rw [dg_length]; omega)]
      simp only [grd, cond_true]
      rw [hof k hk, Option.bind_some, implRest _ hp, Option.bind_some, small_in (by simp [zl_length]; omega), w64_succ (by omega), zl_snoc]) (by
      unfold impl_tensor.b0
      simp)
    have h' : loop1 (impl_tensor.b0 ((n ^ (a + b) : Nat) : Int) n a b of p) ([], 0) = some (zl (n ^ (a + b)) (fun x => g x % p), ((n ^ (a + b) : Nat) : Int)) := h
    rw [h']; rfl
  · have hv := h4 (by omega)
    rw [if_neg hle, decide_eq_true hv]; rfl
/-- The sizes that the reference allows. -/
theorem specSizes {n a b : Nat} {p : Int} (hp : primeB p = true) (hn : 1 ≤ n ∧ n ≤ 6) (ha : a ≤ 8) (hb : b ≤ 8) : spec_l03Sizes.f p n a b = some (if n ^ (a + b) ≤ 1296 then 0 else 3) := by
  unfold spec_l03Sizes.f spec_l01In.f
  have w : w64 ((a : Int) + (b : Int)) = ((a + b : Nat) : Int) := by rw [w64_in (by omega)]; omega
  obtain ⟨v, _, h2, h3, h4⟩ := pw_both (n := n) (k := a + b) hn (by omega)
  have cn : (decide ((n : Int) ≥ 1) && decide ((n : Int) ≤ 6)) = true := by simp; omega
  have cab : (decide ((a : Int) > 8) || decide ((b : Int) > 8)) = false := by simp; omega
  rw [specPrime, hp, w, h2, cn, cab]
  simp only [Option.bind_some, Bool.not_true, cond_false]
  by_cases hle : n ^ (a + b) ≤ 1296
  · have hv := h3 hle
    rw [if_pos hle, decide_eq_false (by omega)]; rfl
  · have hv := h4 (by omega)
    rw [if_neg hle, decide_eq_true hv]; rfl
theorem specEmpty {n a b : Nat} {p : Int} (hn : 1 ≤ n ∧ n ≤ 6) (ha : a ≤ 8) (hb : b ≤ 8) (hle : n ^ (a + b) ≤ 1296) : spec_l03Empty.f p n a b = some (p, (n : Int), (a : Int), (b : Int), zl (n ^ (a + b)) (fun _ => 0)) := by
  unfold spec_l03Empty.f
  have w : w64 ((a : Int) + (b : Int)) = ((a + b : Nat) : Int) := by rw [w64_in (by omega)]; omega
  obtain ⟨v, _, h2, h3, h4⟩ := pw_both (n := n) (k := a + b) hn (by omega)
  have hv := h3 hle
  subst hv
  have g : decide ((0 : Int) ≤ ((n ^ (a + b) : Nat) : Int)) = true := decide_eq_true (Int.natCast_nonneg _)
  rw [w, h2, Option.bind_some, g, Int.toNat_natCast]
  simp only [grd, cond_true]
  rw [small_in (by omega), zl_rep]
end Go.Proofs.Ytjjfoofjipafiaa.G

/- The place of a number of a tensor. -/
namespace Go.Proofs.Ytjjfoofjipafiaa.G
open Go Go.Sx Go.Proofs
theorem placeRow {n : Nat} (hn : 1 ≤ n) {lists : List (List Int)} {i m x acc : Nat} (hl : gt lists (i : Int) = dg n m x) (hm : m ≤ 16) (hx : x < n ^ m) (hb : acc * n ^ m + x ≤ 100000) : loop1 (impl_place.b0 lists i n) ((acc : Int), 0) = some (((acc * n ^ m + x : Nat) : Int), (m : Int)) := by
  have h := loop1_upto (f := impl_place.b0 lists i n) (fun j => (((acc * n ^ j + x / n ^ (m - j) : Nat) : Int), (j : Int))) m (((acc * n ^ m + x : Nat) : Int), (m : Int)) (by omega) (fun j hj => by
    unfold impl_place.b0
    simp only [hl, dg_length, dlt_nat, hj, decide_true, cond_true]
    have g : gt (dg n m x) (j : Int) = ((x / n ^ (m - 1 - j) % n : Nat) : Int) := zl_gt _ hj
    have e1 : x / n ^ (m - j) = x / n ^ (m - 1 - j) / n := by
      have hs : n ^ (m - 1 - j) * n = n ^ (m - 1 - j + 1) := rfl
      rw [Nat.div_div_eq_div_mul, hs, show m - 1 - j + 1 = m - j by omega]
    have e2 : (acc * n ^ j + x / n ^ (m - 1 - j) / n) * n + x / n ^ (m - 1 - j) % n = acc * n ^ (j + 1) + x / n ^ (m - 1 - j) := by
      have := Nat.div_add_mod (x / n ^ (m - 1 - j)) n
      have hs : n ^ j * n = n ^ (j + 1) := rfl
      rw [Nat.add_mul, Nat.mul_assoc, hs, Nat.mul_comm (x / n ^ (m - 1 - j) / n) n]
      omega
    have e3 : acc * n ^ (j + 1) ≤ acc * n ^ m := Nat.mul_le_mul_left _ (Nat.pow_le_pow_right hn hj)
    have e4 : x / n ^ (m - 1 - j) ≤ x := Nat.div_le_self _ _
    rw [chk_in (by omega), g, e1, ← Int.natCast_mul, w64_nat (by omega), ← Int.natCast_add, w64_nat (by omega), e2, w64_succ (by omega), show m - (j + 1) = m - 1 - j by omega]) (by
    unfold impl_place.b0
    simp only [hl, dg_length, dlt_nat, Nat.lt_irrefl, decide_false, cond_false]
    simp)
  simp only [Nat.pow_zero, Nat.mul_one, Nat.sub_zero, Nat.div_eq_of_lt hx, Nat.add_zero] at h
  exact h
/-- The number of some digits one after the other. -/
def plv (n acc : Nat) (ms : List (Nat × Nat)) : Nat := ms.foldl (fun a q => a * n ^ q.1 + q.2) acc
theorem plv_mono {n : Nat} (hn : 1 ≤ n) : ∀ (ms : List (Nat × Nat)) (acc : Nat), acc ≤ plv n acc ms
  | [], _ => Nat.le_refl _
  | q :: ms, acc => by
    have h1 := plv_mono hn ms (acc * n ^ q.1 + q.2)
    have h2 : acc ≤ acc * n ^ q.1 := Nat.le_mul_of_pos_right _ (Nat.pow_pos hn)
    show acc ≤ plv n (acc * n ^ q.1 + q.2) ms
    omega
theorem implPlace {n : Nat} (hn : 1 ≤ n) (ms : List (Nat × Nat)) (hlen : ms.length ≤ 100) (hms : ∀ q ∈ ms, q.1 ≤ 16 ∧ q.2 < n ^ q.1) (hb : plv n 0 ms ≤ 100000) : impl_place.f n (ms.map fun q => dg n q.1 q.2) = some (plv n 0 ms : Int) := by
  unfold impl_place.f
  have h := loop1_upto (f := impl_place.b1 (ms.map fun q => dg n q.1 q.2) n) (fun k => (((plv n 0 (ms.take k) : Nat) : Int), (k : Int))) ms.length ((plv n 0 ms : Int), (ms.length : Int)) (by omega) (fun k hk => by
    unfold impl_place.b1
    simp only [List.length_map, dlt_nat, hk, decide_true, cond_true]
    have g : gt (ms.map fun q => dg n q.1 q.2) (k : Int) = dg n ms[k].1 ms[k].2 := by
      rw [gt_ix (by simpa using hk), List.getElem_map]
    have hq := hms ms[k] (List.getElem_mem hk)
    have e1 : plv n 0 (ms.take (k + 1)) = plv n 0 (ms.take k) * n ^ ms[k].1 + ms[k].2 := by
      rw [List.take_add_one, List.getElem?_eq_getElem hk]
      unfold plv
      rw [List.foldl_append]; rfl
    have e2 : plv n 0 (ms.take (k + 1)) ≤ plv n 0 ms := by
      conv => rhs; rw [← List.take_append_drop (k + 1) ms]
      unfold plv
      rw [List.foldl_append]
      exact plv_mono hn _ _
    rw [chk_in (by omega), placeRow hn g hq.1 hq.2 (by omega), e1, w64_succ (by omega)]
    rfl) (by
    unfold impl_place.b1
    simp)
  have h' : loop1 (impl_place.b1 (ms.map fun q => dg n q.1 q.2) n) (0, 0) = _ := h
  rw [h']; rfl
theorem implAt {n : Nat} (hn : 1 ≤ n) {p a b : Int} {l : List Int} (ms : List (Nat × Nat)) (hlen : ms.length ≤ 100) (hms : ∀ q ∈ ms, q.1 ≤ 16 ∧ q.2 < n ^ q.1) (hb : plv n 0 ms < l.length) (hl : l.length ≤ 100000) : impl_Tensor_at.f p n a b l (ms.map fun q => dg n q.1 q.2) = some (gt l ((plv n 0 ms : Nat) : Int)) := by
  unfold impl_Tensor_at.f
  rw [implPlace hn ms hlen hms (by omega), Option.bind_some, chk_in (by omega)]
theorem dg_one {n k : Nat} (hk : k < n) : dg n 1 k = [(k : Int)] := by
  simp [dg, zl, Nat.mod_eq_of_lt hk]
theorem lt_two {i j X Y : Nat} (hi : i < X) (hj : j < Y) : i * Y + j < X * Y := by
  have h1 : (i + 1) * Y ≤ X * Y := Nat.mul_le_mul_right Y hi
  rw [Nat.add_mul] at h1
  omega
theorem two_pos {R i j x : Nat} (hj : j < R) : x = i * R + j ↔ (x / R = i ∧ x % R = j) := by
  constructor
  · intro h
    rw [h, Nat.mul_comm, Nat.mul_add_div (by omega), Nat.mul_add_mod, Nat.div_eq_of_lt hj, Nat.mod_eq_of_lt hj]
    exact ⟨rfl, rfl⟩
  · rintro ⟨h1, h2⟩
    have := Nat.div_add_mod x R
    rw [h1, h2] at this
    rw [← this, Nat.mul_comm]
/-- What a tensor is that is allowed. -/
structure Ten (p n i o : Int) (l : List Int) (m a b : Nat) : Prop where
  hp : primeB p = true
  hn : n = (m : Int)
  n1 : 1 ≤ m ∧ m ≤ 6
  hi : i = (a : Int)
  ho : o = (b : Int)
  ha : a ≤ 8
  hb : b ≤ 8
  len : l.length = m ^ (a + b)
  le : m ^ (a + b) ≤ 1296
  dig : ∀ k : Nat, k < l.length → 0 ≤ gt l (k : Int) ∧ gt l (k : Int) < p
theorem ten_of {p n i o : Int} {l : List Int} (h : l.length ≤ 1048576) (ht : impl_IsTensor.f p n i o l = some true) : ∃ m a b, Ten p n i o l m a b := by
  unfold impl_IsTensor.f impl_shapeOk.f impl_endsOk.f impl_in.f at ht
  rw [implPrime] at ht
  simp only [Option.bind_some] at ht
  cases hpr : primeB p with
  | false => rw [hpr] at ht; cases ht
  | true =>
    have hpb := primeB_le hpr
    rw [hpr] at ht
    simp only [cond_true, Option.bind_some] at ht
    cases h1 : (decide (n ≥ 1) && decide (n ≤ 6)) with
    | false => rw [h1] at ht; cases ht
    | true =>
      rw [h1] at ht
      simp only [Bool.not_true, cond_false, Option.bind_some] at ht
      cases h2 : (decide (i ≥ 0) && decide (i ≤ 8)) with
      | false => rw [h2] at ht; cases ht
      | true =>
        rw [h2] at ht
        simp only [Bool.not_true, cond_false, Option.bind_some] at ht
        cases h3 : (decide (o ≥ 0) && decide (o ≤ 8)) with
        | false => rw [h3] at ht; cases ht
        | true =>
          rw [h3] at ht
          simp only [Bool.and_eq_true, decide_eq_true_eq] at h1 h2 h3
          simp only [Bool.not_true, cond_false] at ht
          obtain ⟨m, rfl⟩ := Int.eq_ofNat_of_zero_le (show 0 ≤ n by omega)
          obtain ⟨a, rfl⟩ := Int.eq_ofNat_of_zero_le (show 0 ≤ i by omega)
          obtain ⟨b, rfl⟩ := Int.eq_ofNat_of_zero_le (show 0 ≤ o by omega)
          have w : w64 ((a : Int) + (b : Int)) = ((a + b : Nat) : Int) := by rw [w64_in (by omega)]; omega
          obtain ⟨v, e1, _, e3, e4⟩ := pw_both (n := m) (k := a + b) (by omega) (by omega)
          have hc := hasInts l (by omega) (fun x0_ => impl_IsTensor_1.f x0_ p m a b l) (fun x => !(decide (x ≥ 0) && decide (x ≤ p - 1))) (fun x _ => by
            unfold impl_IsTensor_1.f impl_in.f
            rw [w64_in (x := p - 1) (by omega)]
            rfl)
          rw [w, e1, Option.bind_some, hc, Option.bind_some] at ht
          simp only [Option.some.injEq, Bool.and_eq_true, Bool.not_eq_true', decide_eq_true_eq, beq_iff_eq] at ht
          obtain ⟨⟨t1, t2⟩, t3⟩ := ht
          by_cases hle : m ^ (a + b) ≤ 1296
          · have hv := e3 hle
            refine ⟨m, a, b, hpr, rfl, by omega, rfl, rfl, by omega, by omega, by rw [hv] at t2; exact Int.ofNat_inj.1 t2, hle, fun k hk => ?_⟩
            rw [List.any_eq_false] at t3
            have := t3 (gt l (k : Int)) (by rw [gt_ix hk]; exact List.getElem_mem _)
            simp only [Bool.not_eq_true, Bool.not_eq_false', Bool.and_eq_true, decide_eq_true_eq] at this
            omega
          · have := e4 (by omega)
            omega
end Go.Proofs.Ytjjfoofjipafiaa.G

/- Two tensors of one shape, told by both. -/
namespace Go.Proofs.Ytjjfoofjipafiaa.G
open Go Go.Sx Go.Proofs
theorem two_same (p n i o : Int) (l : List Int) (p' n' i' o' : Int) (l' : List Int) (h : l.length ≤ 1048576) (h' : l'.length ≤ 1048576) (hp : IntKind.i64.has p) (hp' : IntKind.i64.has p') :
    (∃ c, c ≠ 0 ∧ spec_l03Two.f p n i o l p' n' i' o' l' = some c ∧ (c = 1 ∨ c = 2) ∧ ∀ b, impl_bothOk.f p n i o l p' n' i' o' l' b = some c) ∨
    (spec_l03Two.f p n i o l p' n' i' o' l' = some 0 ∧ (∀ b, impl_bothOk.f p n i o l p' n' i' o' l' b = some (bif b then 0 else 2)) ∧ p' = p ∧ n' = n ∧ impl_IsTensor.f p n i o l = some true ∧ impl_IsTensor.f p n i' o' l' = some true) := by
  obtain ⟨b1, e1, e2⟩ := tensor_same p n i o l h hp
  obtain ⟨b2, e3, e4⟩ := tensor_same p' n' i' o' l' h' hp'
  unfold spec_l03Two.f impl_bothOk.f
  rw [e1, e2, e3, e4]
  cases b1 with
  | false => exact .inl ⟨1, by decide, rfl, .inl rfl, fun _ => rfl⟩
  | true =>
    cases b2 with
    | false => exact .inl ⟨1, by decide, rfl, .inl rfl, fun _ => rfl⟩
    | true =>
      simp only [Option.bind_some, Bool.not_true, cond_false]
      by_cases hpn : p' = p ∧ n' = n
      · obtain ⟨rfl, rfl⟩ := hpn
        refine .inr ⟨by simp, fun b => by cases b <;> simp, rfl, rfl, trivial, e4⟩
      · have : (p != p' || n != n') = true := by
          simp only [Bool.or_eq_true, bne_iff_ne, ne_eq]
          omega
        rw [this]
        exact .inl ⟨2, by decide, rfl, .inr rfl, fun _ => rfl⟩
end Go.Proofs.Ytjjfoofjipafiaa.G

/- Slices of numbers: the same as themselves; marked, and held. -/
namespace Go.Proofs.Ytjjfoofjipafiaa.G
open Go Go.Sx Go.Proofs
theorem eqS_refl (a : List Int) (h : a.length < 1000000000000) : laws_eqInt64S.f a a = some true := by
  unfold laws_eqInt64S.f
  have e : (((a.length : Nat) : Int) != (a.length : Int)) = false := by simp
  rw [e, cond_false]
  have hl := loop_upto (f := laws_eqInt64S.b0 a a) (fun i => (i : Int)) a.length (a.length : Int) (by omega) (fun i hi => by
    unfold laws_eqInt64S.b0
    simp only [dlt_nat, hi, decide_true, cond_true]
    rw [chk_in (by omega), chk_in (by omega), w64_succ (by omega)]
    simp) (by
    unfold laws_eqInt64S.b0
    simp)
  have hl' : loop (laws_eqInt64S.b0 a a) 0 = some (.brk (a.length : Int)) := hl
  rw [hl']; rfl
/-- So many numbers from k on. -/
def iota (k n : Nat) : List Int := (List.range n).map fun i => ((k + i : Nat) : Int)
theorem iota_length (k n : Nat) : (iota k n).length = n := by simp [iota]
theorem iota_gt {k n i : Nat} (h : i < n) : gt (iota k n) (i : Int) = ((k + i : Nat) : Int) := by simp [gt, iota, List.getD, h]
theorem markS (a : List Int) (k : Nat) (h : k + a.length < 1000000000000) : laws_markInt64S.f a k = some (((k + a.length : Nat) : Int), iota k a.length) := by
  unfold laws_markInt64S.f
  have hl := loop1_upto (f := laws_markInt64S.b0) (fun i => (iota k i ++ a.drop i, ((k + i : Nat) : Int), (i : Int))) a.length (iota k a.length, ((k + a.length : Nat) : Int), (a.length : Int)) (by omega) (fun i hi => by
    unfold laws_markInt64S.b0
    have e : (iota k i ++ a.drop i).length = a.length := by rw [List.length_append, iota_length, List.length_drop]; omega
    simp only [e, dlt_nat, hi, decide_true, cond_true]
    rw [chk_in (by omega), w64_succ (by omega), w64_succ (by omega), Int.toNat_natCast]
    have e2 : (iota k i ++ a.drop i).set i ((k + i : Nat) : Int) = iota k (i + 1) ++ a.drop (i + 1) := by
      rw [List.set_append_right _ _ (by rw [iota_length]; exact Nat.le_refl _), iota_length, Nat.sub_self]
      have h3 : a.drop i = a[i] :: a.drop (i + 1) := by rw [List.getElem_cons_drop]
      rw [h3, List.set_cons_zero]
      unfold iota
      rw [List.range_succ, List.map_append]
      simp
    rw [e2]
    rfl) (by
    unfold laws_markInt64S.b0
    simp [iota_length])
  have hl' : loop1 laws_markInt64S.b0 (a, (k : Int), 0) = some (iota k a.length, ((k + a.length : Nat) : Int), (a.length : Int)) := hl
  rw [hl']; rfl
theorem heldS (k n : Nat) (h : k + n < 1000000000000) : laws_heldInt64S.f (iota k n) k = some ((k + n : Nat) : Int) := by
  unfold laws_heldInt64S.f
  have hl := loop_upto (f := laws_heldInt64S.b0 (iota k n)) (fun i => (((k + i : Nat) : Int), (i : Int))) n (((k + n : Nat) : Int), (n : Int)) (by omega) (fun i hi => by
    unfold laws_heldInt64S.b0
    simp only [iota_length, dlt_nat, hi, decide_true, cond_true]
    rw [chk_in (by omega), iota_gt hi, w64_succ (by omega), w64_succ (by omega)]
    simp
    rfl) (by
    unfold laws_heldInt64S.b0
    simp [iota_length])
  have hl' : loop (laws_heldInt64S.b0 (iota k n)) ((k : Int), 0) = some (.brk (((k + n : Nat) : Int), (n : Int))) := hl
  rw [hl']; rfl
end Go.Proofs.Ytjjfoofjipafiaa.G

/- Tensors: the same as themselves; marked, and held. -/
namespace Go.Proofs.Ytjjfoofjipafiaa.G
open Go Go.Sx Go.Proofs
theorem eqT (p n a b : Int) (l : List Int) (h : l.length ≤ 1048576) : laws_eqTensor.f p n a b l p n a b l = some true := by
  unfold laws_eqTensor.f
  simp only [bne_self_eq_false, cond_false, eqS_refl l (by omega), Option.bind_some, Bool.not_true]
theorem markT (p n a b : Int) (l : List Int) (h : l.length ≤ 1048576) : laws_markTensor.f p n a b l 1 = some (((1 + l.length : Nat) : Int), iota 1 l.length) := by
  unfold laws_markTensor.f
  have m1 : laws_markInt64S.f l 1 = some (((1 + l.length : Nat) : Int), iota 1 l.length) := markS l 1 (by omega)
  rw [m1]; rfl
theorem heldT (p n a b : Int) (m : Nat) (h : m ≤ 1048576) : laws_heldTensor.f p n a b (iota 1 m) 1 = some ((1 + m : Nat) : Int) := by
  unfold laws_heldTensor.f
  have m3 : laws_heldInt64S.f (iota 1 m) 1 = some ((1 + m : Nat) : Int) := heldS 1 m (by omega)
  rw [m3, Option.bind_some, decide_eq_false (by omega)]; rfl
end Go.Proofs.Ytjjfoofjipafiaa.G

/- Slices of numbers that come in: how large they are, and their copies. -/
namespace Go.Proofs.Ytjjfoofjipafiaa.G
open Go Go.Sx Go.Proofs
theorem toS (a : List Int) (h : a.length ≤ 1048576) : laws_toInt64S.f a = some a := by
  unfold laws_toInt64S.f
  rw [small_in (by omega), Int.toNat_natCast]
  have hl := loop1_upto (f := laws_toInt64S.b0 a) (fun i => (a.take i ++ List.replicate (a.length - i) 0, (i : Int))) a.length (a, (a.length : Int)) (by omega) (fun i hi => by
    unfold laws_toInt64S.b0
    have e : (a.take i ++ List.replicate (a.length - i) (0 : Int)).length = a.length := by simp; omega
    simp only [dlt_nat, hi, decide_true, cond_true]
    rw [chk_in (by omega), e, chk_in (by omega), w64_succ (by omega), Int.toNat_natCast]
    have hg : gt a (i : Int) = a[i] := by simp [gt, List.getD, hi]
    have hm : (a.take i).length = i := by simp; omega
    have e2 : (a.take i ++ List.replicate (a.length - i) (0 : Int)).set i (gt a (i : Int)) = a.take (i + 1) ++ List.replicate (a.length - (i + 1)) 0 := by
      rw [hg, List.set_append_right _ _ (by omega), hm, Nat.sub_self, show a.length - i = (a.length - (i + 1)) + 1 by omega, List.replicate_succ, List.set_cons_zero, List.take_add_one, List.getElem?_eq_getElem hi]
      simp only [Option.toList_some, List.append_assoc, List.singleton_append]
    rw [e2]) (by
    unfold laws_toInt64S.b0
    simp)
  have hl' : loop1 (laws_toInt64S.b0 a) (List.replicate a.length 0, 0) = some (a, (a.length : Int)) := by simpa using hl
  rw [hl']; rfl
theorem szS (a : List Int) (l : Nat) (hl : l ≤ 1048576) (h : a.length ≤ 9223372036854775807) : (laws_szInt64S.f a l = some (-1) ∧ l < a.length) ∨ (laws_szInt64S.f a l = some ((l - a.length : Nat) : Int) ∧ a.length ≤ l) := by
  unfold laws_szInt64S.f
  rw [w64_in (by omega)]
  by_cases hc : a.length ≤ l
  · right
    have : decide (((l : Int) - (a.length : Int)) < 0) = false := by simp; omega
    rw [this]
    exact ⟨by rw [cond_false]; congr 1; omega, hc⟩
  · left
    have : decide (((l : Int) - (a.length : Int)) < 0) = true := by simp; omega
    rw [this]
    exact ⟨rfl, by omega⟩
end Go.Proofs.Ytjjfoofjipafiaa.G

/- Tensors: measured and copied. -/
namespace Go.Proofs.Ytjjfoofjipafiaa.G
open Go Go.Sx Go.Proofs
theorem szTen (p n i o : Int) (l : List Int) (z : Nat) (hz : z ≤ 1048576) (h : l.length ≤ 9223372036854775807) : (∃ q, laws_szTensor.f p n i o l z = some q ∧ q < 0) ∨ (laws_szTensor.f p n i o l z = some ((z - l.length : Nat) : Int) ∧ l.length ≤ z) := by
  unfold laws_szTensor.f
  rcases szS l z hz h with ⟨h1, h2⟩ | ⟨h1, h2⟩
  · exact .inl ⟨-1, by rw [h1]; rfl, by omega⟩
  · refine .inr ⟨?_, h2⟩
    rw [h1, Option.bind_some, decide_eq_false (by omega)]; rfl
theorem toTen (p n i o : Int) (l : List Int) (h : l.length ≤ 1048576) : laws_toTensor.f p n i o l = some (p, n, i, o, l) := by
  unfold laws_toTensor.f
  rw [toS l h]; rfl
end Go.Proofs.Ytjjfoofjipafiaa.G

/- Tensors: marked from any number on; two that are measured. -/
namespace Go.Proofs.Ytjjfoofjipafiaa.G
open Go Go.Sx Go.Proofs
theorem markTk (p n a b : Int) (l : List Int) (k : Nat) (h : k + l.length ≤ 10485760) : laws_markTensor.f p n a b l k = some (((k + l.length : Nat) : Int), iota k l.length) := by
  unfold laws_markTensor.f
  rw [markS l k (by omega)]; rfl
/-- Two tensors are too large together, or both are small. -/
theorem szTwo (p n i o : Int) (l : List Int) (p' n' i' o' : Int) (l' : List Int) (hl : l.length ≤ 9223372036854775807) (hl' : l'.length ≤ 9223372036854775807) :
    (∃ q, laws_szTensor.f p n i o l 1048576 = some q ∧ q < 0) ∨
    ∃ z, laws_szTensor.f p n i o l 1048576 = some z ∧ decide (z < 0) = false ∧ l.length ≤ 1048576 ∧
      ((∃ q, laws_szTensor.f p' n' i' o' l' z = some q ∧ q < 0) ∨ ∃ q, laws_szTensor.f p' n' i' o' l' z = some q ∧ decide (q < 0) = false ∧ l'.length ≤ 1048576) := by
  rcases szTen p n i o l 1048576 (by omega) hl with h | ⟨h1, h2⟩
  · exact .inl h
  · refine .inr ⟨_, h1, decide_eq_false (by omega), h2, ?_⟩
    rcases szTen p' n' i' o' l' (1048576 - l.length) (by omega) hl' with h | ⟨h3, h4⟩
    · exact .inl h
    · exact .inr ⟨_, h3, decide_eq_false (by omega), by omega⟩
end Go.Proofs.Ytjjfoofjipafiaa.G

/- The law of ComposeTensors tells true. -/
namespace Go.Proofs.Ytjjfoofjipafiaa.G
open Go Go.Sx Go.Proofs
/-- The sum over the legs between. -/
def cmS (l l' : List Int) (M D u v : Nat) : Nat → Int
  | 0 => 0
  | k + 1 => cmS l l' M D u v k + gt l ((u * M + k : Nat) : Int) * gt l' ((k * D + v : Nat) : Int)
/-- What is written before place (u, j, v). -/
def cmZ (p : Int) (l l' : List Int) (N M D u j v : Nat) : List Int := zl N (fun x => if x / D < u then cmS l l' M D (x / D) (x % D) M % p else if x / D = u then (if x % D < v then cmS l l' M D (x / D) (x % D) (j + 1) % p else cmS l l' M D (x / D) (x % D) j % p) else 0)
section
variable {p n i o o' : Int} {l l' : List Int} {m a b d : Nat} (T : Ten p n i o l m a b) (T' : Ten p n o o' l' m b d)
include T T'
theorem cm_ix {u v k : Nat} (hu : u < m ^ a) (hv : v < m ^ d) (hk : k < m ^ b) : u * m ^ b + k < l.length ∧ k * m ^ d + v < l'.length := by
  rw [T.len, T'.len, Nat.pow_add, Nat.pow_add]
  exact ⟨lt_two hu hk, lt_two hk hv⟩
theorem cm_t {u v k : Nat} (hu : u < m ^ a) (hv : v < m ^ d) (hk : k < m ^ b) : 0 ≤ gt l ((u * m ^ b + k : Nat) : Int) * gt l' ((k * m ^ d + v : Nat) : Int) ∧ gt l ((u * m ^ b + k : Nat) : Int) * gt l' ((k * m ^ d + v : Nat) : Int) ≤ 169 := by
  have hp := primeB_le T.hp
  have hix := cm_ix T T' hu hv hk
  have h1 := T.dig _ hix.1
  have h2 := T'.dig _ hix.2
  have h3 := Int.mul_nonneg h1.1 h2.1
  have h4 := Int.mul_le_mul (show gt l ((u * m ^ b + k : Nat) : Int) ≤ 13 by omega) (show gt l' ((k * m ^ d + v : Nat) : Int) ≤ 13 by omega) h2.1 (by omega)
  omega
theorem cm_b {u v : Nat} (hu : u < m ^ a) (hv : v < m ^ d) : ∀ k, k ≤ m ^ b → 0 ≤ cmS l l' (m ^ b) (m ^ d) u v k ∧ cmS l l' (m ^ b) (m ^ d) u v k ≤ 169 * k
  | 0, _ => by simp [cmS]
  | k + 1, h => by
    have ih := cm_b hu hv k (by omega)
    have ht := cm_t T T' hu hv (show k < m ^ b by omega)
    unfold cmS
    omega
theorem cmFn {x : Nat} (hx : x < m ^ (a + d)) : impl_ComposeTensors_1.f (dg m a (x / m ^ d)) (dg m d (x % m ^ d)) ((m ^ b : Nat) : Int) p n i o l p n o o' l' = some (cmS l l' (m ^ b) (m ^ d) (x / m ^ d) (x % m ^ d) (m ^ b)) := by
  have hu : x / m ^ d < m ^ a := Nat.div_lt_of_lt_mul (by rw [← Nat.pow_add, Nat.add_comm]; exact hx)
  have hn := T.n1
  have hv : x % m ^ d < m ^ d := Nat.mod_lt _ (Nat.pow_pos (by omega))
  have hlen := T.len
  have hle := T.le
  have hlen' := T'.len
  have hle' := T'.le
  have ha := T.ha
  have hb := T.hb
  have hd := T'.hb
  have hM : m ^ b ≤ m ^ (a + b) := Nat.pow_le_pow_right hn.1 (by omega)
  unfold impl_ComposeTensors_1.f
  rw [T.hn, T.ho]
  have h := loop1_upto (f := impl_ComposeTensors_1.b0 ((m ^ b : Nat) : Int) (m : Int) (b : Int) p i l (dg m a (x / m ^ d)) p (m : Int) (b : Int) o' l' (dg m d (x % m ^ d))) (fun k => (cmS l l' (m ^ b) (m ^ d) (x / m ^ d) (x % m ^ d) k, (k : Int))) (m ^ b) (cmS l l' (m ^ b) (m ^ d) (x / m ^ d) (x % m ^ d) (m ^ b), ((m ^ b : Nat) : Int)) (by omega) (fun k hk => by
    unfold impl_ComposeTensors_1.b0
    simp only [dlt_nat, hk, decide_true, cond_true]
    have hix := cm_ix T T' hu hv hk
    have ht := cm_t T T' hu hv hk
    have hS := cm_b T T' hu hv (k + 1) hk
    have hS0 := cm_b T T' hu hv k (by omega)
    have q1 : ∀ q ∈ [(a, x / m ^ d), (b, k)], q.1 ≤ 16 ∧ q.2 < m ^ q.1 := by
      intro q hq
      simp only [List.mem_cons, List.not_mem_nil, or_false] at hq
      rcases hq with rfl | rfl
      · exact ⟨by simp only; omega, hu⟩
      · exact ⟨by simp only; omega, hk⟩
    have q2 : ∀ q ∈ [(b, k), (d, x % m ^ d)], q.1 ≤ 16 ∧ q.2 < m ^ q.1 := by
      intro q hq
      simp only [List.mem_cons, List.not_mem_nil, or_false] at hq
      rcases hq with rfl | rfl
      · exact ⟨by simp only; omega, hk⟩
      · exact ⟨by simp only; omega, hv⟩
    have p1 : plv m 0 [(a, x / m ^ d), (b, k)] = x / m ^ d * m ^ b + k := by simp [plv]
    have p2 : plv m 0 [(b, k), (d, x % m ^ d)] = k * m ^ d + x % m ^ d := by simp [plv]
    have s1 := implAt (p := p) (a := i) (b := (b : Int)) (l := l) hn.1 [(a, x / m ^ d), (b, k)] (by simp) q1 (by rw [p1]; exact hix.1) (by omega)
    have s2 := implAt (p := p) (a := (b : Int)) (b := o') (l := l') hn.1 [(b, k), (d, x % m ^ d)] (by simp) q2 (by rw [p2]; exact hix.2) (by omega)
    simp only [List.map_cons, List.map_nil] at s1 s2
    rw [implDigits hn (by omega) (by omega), Option.bind_some, s1, s2, p1, p2]
    simp only [Option.bind_some]
    rw [w64_succ (by omega), w64_in (x := gt l ((x / m ^ d * m ^ b + k : Nat) : Int) * gt l' ((k * m ^ d + x % m ^ d : Nat) : Int)) (by omega)]
    unfold cmS at hS
    rw [w64_in (by omega)]
    rfl) (by
    unfold impl_ComposeTensors_1.b0
    simp only [dlt_nat, Nat.lt_irrefl, decide_false, cond_false])
  have h' : loop1 (impl_ComposeTensors_1.b0 ((m ^ b : Nat) : Int) (m : Int) (b : Int) p i l (dg m a (x / m ^ d)) p (m : Int) (b : Int) o' l' (dg m d (x % m ^ d))) (0, 0) = _ := h
  rw [h']; rfl
theorem cmCol (hN : m ^ (a + d) ≤ 1296) {u j : Nat} (hu : u < m ^ a) (hj : j < m ^ b) : ∃ q, loop1 (spec_l03Compose.b0 ((m ^ d : Nat) : Int) l u ((m ^ b : Nat) : Int) j l' p) (cmZ p l l' (m ^ (a + d)) (m ^ b) (m ^ d) u j 0, 0) = some (cmZ p l l' (m ^ (a + d)) (m ^ b) (m ^ d) u (j + 1) 0, q) := by
  have hn := T.n1
  have hp := primeB_le T.hp
  have hlen := T.len
  have hlen' := T'.len
  have hle := T.le
  have hle' := T'.le
  have hpos : ∀ q, 0 < m ^ q := fun q => Nat.pow_pos (by omega)
  have hD : m ^ d ≤ m ^ (a + d) := Nat.pow_le_pow_right hn.1 (by omega)
  have hA : m ^ a ≤ m ^ (a + d) := Nat.pow_le_pow_right hn.1 (by omega)
  have hB : m ^ b ≤ m ^ (a + b) := Nat.pow_le_pow_right hn.1 (by omega)
  have hix0 := (cm_ix T T' hu (hpos d) hj).1
  have k0 : u * m ^ b ≤ u * m ^ b + j := by omega
  have ei : w64 (w64 ((u : Int) * ((m ^ b : Nat) : Int)) + (j : Int)) = ((u * m ^ b + j : Nat) : Int) := by
    rw [← Int.natCast_mul, w64_nat (by omega), ← Int.natCast_add, w64_nat (by omega)]
  by_cases hz : gt l ((u * m ^ b + j : Nat) : Int) = 0
  · refine ⟨0, ?_⟩
    have e : cmZ p l l' (m ^ (a + d)) (m ^ b) (m ^ d) u j 0 = cmZ p l l' (m ^ (a + d)) (m ^ b) (m ^ d) u (j + 1) 0 := by
      unfold cmZ
      refine zl_congr fun x hx => ?_
      by_cases h1 : x / m ^ d = u
      · have hnl : ¬ x / m ^ d < u := by omega
        rw [if_neg hnl, if_neg hnl, if_pos h1, if_pos h1, if_neg (Nat.not_lt_zero _), if_neg (Nat.not_lt_zero _)]
        have : cmS l l' (m ^ b) (m ^ d) (x / m ^ d) (x % m ^ d) (j + 1) = cmS l l' (m ^ b) (m ^ d) (x / m ^ d) (x % m ^ d) j + gt l ((x / m ^ d * m ^ b + j : Nat) : Int) * gt l' ((j * m ^ d + x % m ^ d : Nat) : Int) := rfl
        rw [this, h1, hz, Int.zero_mul, Int.add_zero]
      · rw [if_neg h1, if_neg h1]
    have h := loop1_upto (f := spec_l03Compose.b0 ((m ^ d : Nat) : Int) l u ((m ^ b : Nat) : Int) j l' p) (fun q => (cmZ p l l' (m ^ (a + d)) (m ^ b) (m ^ d) u j 0, (q : Int))) 0 (cmZ p l l' (m ^ (a + d)) (m ^ b) (m ^ d) u (j + 1) 0, 0) (by omega) (fun q hq => by omega) (by
      unfold spec_l03Compose.b0
      rw [ei, hz, ← e]
      simp)
    exact h
  · refine ⟨((m ^ d : Nat) : Int), ?_⟩
    have hnz : (gt l ((u * m ^ b + j : Nat) : Int) != 0) = true := by simpa using hz
    refine loop1_upto (f := spec_l03Compose.b0 ((m ^ d : Nat) : Int) l u ((m ^ b : Nat) : Int) j l' p) (fun v => (cmZ p l l' (m ^ (a + d)) (m ^ b) (m ^ d) u j v, (v : Int))) (m ^ d) _ (by omega) (fun v hv => ?_) ?_
    · unfold spec_l03Compose.b0
      have hlt : u * m ^ d + v < m ^ (a + d) := by rw [Nat.pow_add]; exact lt_two hu hv
      have hix := cm_ix T T' hu hv hj
      have ht := cm_t T T' hu hv hj
      have hS := cm_b T T' hu hv j (by omega)
      have e1 : w64 (w64 ((u : Int) * ((m ^ d : Nat) : Int)) + (v : Int)) = ((u * m ^ d + v : Nat) : Int) := by
        rw [← Int.natCast_mul, w64_nat (by omega), ← Int.natCast_add, w64_nat (by omega)]
      have e2 : w64 (w64 ((j : Int) * ((m ^ d : Nat) : Int)) + (v : Int)) = ((j * m ^ d + v : Nat) : Int) := by
        rw [← Int.natCast_mul, w64_nat (by omega), ← Int.natCast_add, w64_nat (by omega)]
      have hdm := (two_pos (R := m ^ d) (i := u) (j := v) (x := u * m ^ d + v) hv).1 rfl
      have eg : gt (cmZ p l l' (m ^ (a + d)) (m ^ b) (m ^ d) u j v) ((u * m ^ d + v : Nat) : Int) = cmS l l' (m ^ b) (m ^ d) u v j % p := by
        unfold cmZ
        rw [zl_gt _ hlt, hdm.1, hdm.2, if_neg (Nat.lt_irrefl _), if_pos rfl, if_neg (Nat.lt_irrefl _)]
      have hm1 := Int.emod_nonneg (cmS l l' (m ^ b) (m ^ d) u v j) (show p ≠ 0 by omega)
      have hm2 := Int.emod_lt_of_pos (cmS l l' (m ^ b) (m ^ d) u v j) (show 0 < p by omega)
      simp only [ei, e1, e2, hnz, dlt_nat, hv, decide_true, Bool.and_true, cond_true]
      rw [eg]
      have hlz : (cmZ p l l' (m ^ (a + d)) (m ^ b) (m ^ d) u j v).length = m ^ (a + d) := by unfold cmZ; rw [zl_length]
      rw [hlz, chk_in (by omega), chk_in (by omega), nz_in (by omega), w64_in (x := gt l ((u * m ^ b + j : Nat) : Int) * gt l' ((j * m ^ d + v : Nat) : Int)) (by omega), w64_in (by omega), w64_succ (by omega), Int.tmod_eq_emod_of_nonneg (by omega), Int.emod_add_emod, Int.toNat_natCast]
      unfold cmZ
      rw [zl_set _ _ hlt]
      congr 3
      refine zl_congr fun x hx => ?_
      have hpz := two_pos (R := m ^ d) (i := u) (x := x) hv
      by_cases he : x = u * m ^ d + v
      · have h4 := hpz.1 he
        rw [if_pos he, h4.1, h4.2, if_neg (Nat.lt_irrefl _), if_pos rfl, if_pos (by omega)]
        rfl
      · rw [if_neg he]
        have h4 : ¬ (x / m ^ d = u ∧ x % m ^ d = v) := fun h => he (hpz.2 h)
        by_cases h1 : x / m ^ d = u
        · have hc : x % m ^ d < v ↔ x % m ^ d < v + 1 := by omega
          simp only [hc]
        · rw [if_neg h1, if_neg h1]
    · unfold spec_l03Compose.b0
      simp only [dlt_nat, Nat.lt_irrefl, decide_false, Bool.false_and, cond_false]
      congr 3
      unfold cmZ
      refine zl_congr fun x hx => ?_
      have hlx : x % m ^ d < m ^ d := Nat.mod_lt _ (hpos d)
      rw [if_pos hlx, if_neg (Nat.not_lt_zero _)]
theorem cmRow (hN : m ^ (a + d) ≤ 1296) {u : Nat} (hu : u < m ^ a) : loop1 (spec_l03Compose.b1 ((m ^ b : Nat) : Int) u l ((m ^ d : Nat) : Int) l' p) (cmZ p l l' (m ^ (a + d)) (m ^ b) (m ^ d) u 0 0, 0) = some (cmZ p l l' (m ^ (a + d)) (m ^ b) (m ^ d) (u + 1) 0 0, ((m ^ b : Nat) : Int)) := by
  have hn := T.n1
  have hlen := T.len
  have hle := T.le
  have hpos : ∀ q, 0 < m ^ q := fun q => Nat.pow_pos (by omega)
  have hB : m ^ b ≤ m ^ (a + b) := Nat.pow_le_pow_right hn.1 (by omega)
  refine loop1_upto (f := spec_l03Compose.b1 ((m ^ b : Nat) : Int) u l ((m ^ d : Nat) : Int) l' p) (fun j => (cmZ p l l' (m ^ (a + d)) (m ^ b) (m ^ d) u j 0, (j : Int))) (m ^ b) _ (by omega) (fun j hj => ?_) ?_
  · unfold spec_l03Compose.b1
    have hix0 := (cm_ix T T' hu (hpos d) hj).1
    have ei : w64 (w64 ((u : Int) * ((m ^ b : Nat) : Int)) + (j : Int)) = ((u * m ^ b + j : Nat) : Int) := by
      rw [← Int.natCast_mul, w64_nat (by omega), ← Int.natCast_add, w64_nat (by omega)]
    obtain ⟨q, hq⟩ := cmCol T T' hN hu hj
    simp only [ei, dlt_nat, hj, decide_true, cond_true]
    rw [chk_in (by omega), hq, Option.bind_some, w64_succ (by omega)]
  · unfold spec_l03Compose.b1
    simp only [dlt_nat, Nat.lt_irrefl, decide_false, cond_false]
    congr 3
    unfold cmZ
    refine zl_congr fun x hx => ?_
    by_cases h1 : x / m ^ d < u
    · rw [if_pos h1, if_pos (by omega)]
    · by_cases h2 : x / m ^ d = u
      · rw [if_neg h1, if_pos h2, if_neg (Nat.not_lt_zero _), if_pos (by omega)]
      · rw [if_neg h1, if_neg h2, if_neg (by omega)]
        by_cases h3 : x / m ^ d = u + 1
        · rw [if_pos h3, if_neg (Nat.not_lt_zero _)]; rfl
        · rw [if_neg h3]
theorem cmAll (hN : m ^ (a + d) ≤ 1296) : loop1 (spec_l03Compose.b2 ((m ^ a : Nat) : Int) ((m ^ b : Nat) : Int) l ((m ^ d : Nat) : Int) l' p) (zl (m ^ (a + d)) (fun _ => 0), 0) = some (zl (m ^ (a + d)) (fun x => cmS l l' (m ^ b) (m ^ d) (x / m ^ d) (x % m ^ d) (m ^ b) % p), ((m ^ a : Nat) : Int)) := by
  have hn := T.n1
  have hA : m ^ a ≤ m ^ (a + d) := Nat.pow_le_pow_right hn.1 (by omega)
  have h := loop1_upto (f := spec_l03Compose.b2 ((m ^ a : Nat) : Int) ((m ^ b : Nat) : Int) l ((m ^ d : Nat) : Int) l' p) (fun u => (cmZ p l l' (m ^ (a + d)) (m ^ b) (m ^ d) u 0 0, (u : Int))) (m ^ a) (cmZ p l l' (m ^ (a + d)) (m ^ b) (m ^ d) (m ^ a) 0 0, ((m ^ a : Nat) : Int)) (by omega) (fun u hu => by
    unfold spec_l03Compose.b2
    simp only [dlt_nat, hu, decide_true, cond_true]
    rw [cmRow T T' hN hu, Option.bind_some, w64_succ (by omega)]) (by
    unfold spec_l03Compose.b2
    simp only [dlt_nat, Nat.lt_irrefl, decide_false, cond_false])
  have e0 : cmZ p l l' (m ^ (a + d)) (m ^ b) (m ^ d) 0 0 0 = zl (m ^ (a + d)) (fun _ => 0) := by
    unfold cmZ
    refine zl_congr fun x _ => ?_
    rw [if_neg (Nat.not_lt_zero _), if_neg (Nat.not_lt_zero _)]
    by_cases h1 : x / m ^ d = 0
    · rw [if_pos h1]; rfl
    · rw [if_neg h1]
  have e1 : cmZ p l l' (m ^ (a + d)) (m ^ b) (m ^ d) (m ^ a) 0 0 = zl (m ^ (a + d)) (fun x => cmS l l' (m ^ b) (m ^ d) (x / m ^ d) (x % m ^ d) (m ^ b) % p) := by
    unfold cmZ
    refine zl_congr fun x hx => ?_
    have h5 : x / m ^ d < m ^ a := Nat.div_lt_of_lt_mul (by rw [← Nat.pow_add, Nat.add_comm]; exact hx)
    rw [if_pos h5]
  rw [← e0, ← e1]
  exact h
end
theorem cm_same (p n i o : Int) (l : List Int) (p' n' i' o' : Int) (l' : List Int) (h : l.length ≤ 1048576) (h' : l'.length ≤ 1048576) (hp : IntKind.i64.has p) (hp' : IntKind.i64.has p') :
    ∃ a b c d r e, spec_ComposeTensors.f p n i o l p' n' i' o' l' = some (a, b, c, d, r, e) ∧ impl_ComposeTensors.f p n i o l p' n' i' o' l' = some (a, b, c, d, r, e) ∧ r.length ≤ 1296 := by
  unfold spec_ComposeTensors.f impl_ComposeTensors.f
  rcases two_same p n i o l p' n' i' o' l' h h' hp hp' with ⟨c, hc, e1, _, e2⟩ | ⟨e1, e2, rfl, rfl, t1, t2⟩
  · have c1 : (c == 0) = false := by simpa using hc
    have c2 : (c != 0) = true := by simpa using hc
    simp only [e1, e2, Option.bind_some, c1, c2, Bool.false_and, cond_true, cond_false]
    exact ⟨_, _, _, _, _, _, rfl, rfl, by simp⟩
  · have ez : ((0 : Int) != 0) = false := rfl
    have ez2 : ((0 : Int) == 0) = true := rfl
    have ez3 : ((2 : Int) != 0) = true := rfl
    have ez4 : ((2 : Int) == 0) = false := rfl
    by_cases hoi : o = i'
    · subst hoi
      obtain ⟨m, a, b, T⟩ := ten_of h t1
      obtain ⟨m', b', d, T'⟩ := ten_of h' t2
      obtain rfl : m = m' := by have := T.hn; have := T'.hn; omega
      obtain rfl : b = b' := by have := T.ho; have := T'.hi; omega
      have hn := T.n1
      have hpb := primeB_le T.hp
      have ha := T.ha
      have hb := T.hb
      have hd := T'.hb
      have hle := T.le
      have hle' := T'.le
      have s1 := specSizes (a := a) (b := d) T.hp hn ha hd
      have s3 := implTensor (a := a) (b := d) hpb hn ha hd (fun x0_ x1_ => impl_ComposeTensors_1.f x0_ x1_ ((m ^ b : Nat) : Int) p' n' i o l p' n' o o' l') (fun x => cmS l l' (m ^ b) (m ^ d) (x / m ^ d) (x % m ^ d) (m ^ b)) (fun x hx => cmFn T T' hx)
      have hpw : ∀ x y, x ≤ y → m ^ x ≤ m ^ y := fun x y hxy => Nat.pow_le_pow_right hn.1 hxy
      have z1 := hpw a (a + b) (by omega)
      have z2 := hpw b (a + b) (by omega)
      have z4 := hpw d (b + d) (by omega)
      obtain ⟨v1, _, f1, g1, _⟩ := pw_both (n := m) (k := a) hn (by omega)
      obtain ⟨v2, k2, f2, g2, _⟩ := pw_both (n := m) (k := b) hn (by omega)
      obtain ⟨v4, _, f4, g4, _⟩ := pw_both (n := m) (k := d) hn (by omega)
      have g1' := g1 (by omega)
      have g2' := g2 (by omega)
      have g4' := g4 (by omega)
      subst g1' g2' g4'
      rw [← T.hn] at s1 s3 f1 f2 f4 k2
      rw [← T.hi, ← T'.ho] at s1 s3
      rw [← T.hi] at f1
      rw [← T.ho] at f2 k2
      rw [← T'.ho] at f4
      simp only [e1, e2, Option.bind_some, beq_self_eq_true, bne_self_eq_false, Bool.and_false, cond_true, cond_false, k2]
      by_cases hN : m ^ (a + d) ≤ 1296
      · rw [if_pos hN] at s1 s3
        have s2 := specEmpty (p := p') (a := a) (b := d) hn ha hd hN
        rw [← T.hn, ← T.hi, ← T'.ho] at s2
        rw [s1, s3]
        unfold spec_l03Compose.f
        rw [s2, f1, f2, f4]
        simp only [Option.bind_some, ez, cond_false]
        rw [cmAll T T' hN]
        exact ⟨_, _, _, _, _, _, rfl, rfl, by rw [zl_length]; exact hN⟩
      · rw [if_neg hN] at s1 s3
        rw [s1, s3]
        exact ⟨_, _, _, _, _, _, rfl, rfl, by simp⟩
    · have c1 : (o == i') = false := by simpa using hoi
      have c2 : (o != i') = true := by simpa using hoi
      simp only [e1, e2, Option.bind_some, c1, c2, ez2, ez3, ez4, Bool.and_true, cond_true, cond_false]
      exact ⟨_, _, _, _, _, _, rfl, rfl, by simp⟩
theorem plain_FnExactComposeTensors (p n i o : Int) (l : List Int) (p' n' i' o' : Int) (l' : List Int) (wp : IntKind.i64.has p) (_wn : IntKind.i64.has n) (_wi : IntKind.i64.has i) (_wo : IntKind.i64.has o) (_wl : ∀ x ∈ l, IntKind.i64.has x) (hl : l.length ≤ 9223372036854775807) (wp' : IntKind.i64.has p') (_wn' : IntKind.i64.has n') (_wi' : IntKind.i64.has i') (_wo' : IntKind.i64.has o') (_wl' : ∀ x ∈ l', IntKind.i64.has x) (hl' : l'.length ≤ 9223372036854775807) : laws_FnExactComposeTensors.f p n i o l p' n' i' o' l' = some true := by
  unfold laws_FnExactComposeTensors.f
  rcases szTwo p n i o l p' n' i' o' l' hl hl' with ⟨q, h1, h2⟩ | ⟨z, h1, h2, h3, ⟨q, h4, h5⟩ | ⟨q, h4, h5, h6⟩⟩
  · rw [h1, Option.bind_some, decide_eq_true h2]; rfl
  · rw [h1, Option.bind_some, h2, cond_false, h4, Option.bind_some, decide_eq_true h5]; rfl
  · rw [h1, Option.bind_some, h2, cond_false, h4, Option.bind_some, h5, cond_false]
    obtain ⟨a, b, c, d, r, e, e1, e2, e3⟩ := cm_same p n i o l p' n' i' o' l' h3 h6 wp wp'
    have b0 := eqT p n i o l (by omega)
    have b0' := eqT p' n' i' o' l' (by omega)
    have b1 := eqT a b c d r (by omega)
    have b2 := markT p n i o l (by omega)
    have b2' := markTk p' n' i' o' l' (1 + l.length) (by omega)
    have b3 := markT a b c d r (by omega)
    have b5 := heldT a b c d r.length (by omega)
    have d1 : decide (((1 + l.length + l'.length : Nat) : Int) < 0) = false := decide_eq_false (by omega)
    have d2 : decide (((1 + r.length : Nat) : Int) < 0) = false := decide_eq_false (by omega)
    simp only [toTen p n i o l h3, toTen p' n' i' o' l' h6, e1, e2, Option.bind_some, b0, b0', b1, b2, b2', b3, b5, d1, d2, bne_self_eq_false, Bool.not_true, Bool.or_false, cond_false]
end Go.Proofs.Ytjjfoofjipafiaa.G

/- Arg: a law's arguments, as they come in, in the calculus' own words. -/
namespace Go.Sx
open Go.RowKit

theorem okWide_agg {P : Program} {W : World} {r : Reach} {base : Nat} {t : TypeId} {v : Value} {ts : List TypeId} (ht : (match P.underlying t with | some (.struct _) | some (.array _ _) => true | _ => false) = true) (hts : P.cellTypes P.depth t = some ts) (h : Value.okWide P W r base t v) :
    ∃ cs, v = .agg cs ∧ cs.size = P.cellsOf t ∧ ∀ i u, cs[i]? = some u → ∃ k, ts[i % ts.length]? = some k ∧ Cell.okWide P W r base k u := by
  unfold Value.okWide at h
  split at h
  · obtain ⟨cs, h1, h2, ts', h3, _, h4⟩ := h
    rw [hts] at h3; obtain rfl := Option.some.inj h3
    exact ⟨cs, h1, h2, h4⟩
  · obtain ⟨cs, h1, h2, ts', h3, _, h4⟩ := h
    rw [hts] at h3; obtain rfl := Option.some.inj h3
    exact ⟨cs, h1, h2, h4⟩
  · rename_i h1 h2
    exfalso
    split at ht
    · exact h1 _ ‹_›
    · exact h2 _ _ ‹_›
    · cases ht

theorem okWide_int {P : Program} {W : World} {r : Reach} {base : Nat} {t : TypeId} {k : IntKind} {v : Value} (ht : P.underlying t = some (.int k)) (h : Cell.okWide P W r base t v) : ∃ n, v = .int k n ∧ k.has n := by
  unfold Cell.okWide at h
  rw [ht] at h
  unfold Cell.ok at h
  rw [ht] at h
  cases v <;> simp at h
  rename_i k' n
  obtain ⟨rfl, h2⟩ := h
  exact ⟨n, rfl, h2⟩

theorem u8block (cs : Array Value) (o m : Nat) (h : ∀ i, o ≤ i → i < o + m → ∃ n, cs[i]? = some (.int .u8 n) ∧ IntKind.u8.has n) : ∃ t : Nat → UInt8, (cs.toList.drop o).take m = flat [.arr m (enf u8v t)] := by
  refine ⟨fun k => match cs[o + k]? with | some (.int _ n) => UInt8.ofInt n | _ => 0, ?_⟩
  apply List.ext_getElem?
  intro i
  simp only [flat, Seg.cells, List.append_nil, List.getElem?_take, List.getElem?_drop, List.getElem?_map]
  by_cases hi : i < m
  · obtain ⟨n, hn, hw⟩ := h (o + i) (by omega) (by omega)
    have hn' : cs.toList[o + i]? = some (.int .u8 n) := by simpa using hn
    rw [if_pos hi, List.getElem?_range hi, hn']
    simp only [Option.map_some, enf, hn]
    congr 1
    rw [← conv_i64_u8]
    congr 1
    have hw' : 0 ≤ n ∧ n ≤ 255 := by
      simp only [IntKind.has, IntKind.min, IntKind.max, IntKind.signed, IntKind.bits] at hw
      simpa using hw
    rw [IntKind.wrap_u8]; omega
  · rw [if_neg hi]
    simp [hi]

theorem okWideV_int {P : Program} {W : World} {r : Reach} {base : Nat} {t : TypeId} {k : IntKind} {v : Value} (ht : P.underlying t = some (.int k)) (h : Value.okWide P W r base t v) : ∃ n, v = .int k n ∧ k.has n := by
  unfold Value.okWide at h
  rw [ht] at h
  exact okWide_int ht h
theorem okWideV_string {P : Program} {W : World} {r : Reach} {base : Nat} {t : TypeId} {v : Value} (ht : P.underlying t = some .string) (h : Value.okWide P W r base t v) : ∃ l : Str, v = strv l := by
  unfold Value.okWide at h
  rw [ht] at h
  simp only at h
  unfold Cell.okWide at h
  rw [ht] at h
  unfold Cell.ok at h
  rw [ht] at h
  cases v <;> simp at h
  rename_i s
  exact ⟨s.data.toList, by simp [strv]⟩
theorem i64cell (cs : Array Value) (o : Nat) (ho : o < cs.size) (h : ∀ u, cs[o]? = some u → ∃ n, u = .int .i64 n ∧ IntKind.i64.has n) : ∃ x, (cs.toList.drop o).take 1 = flat [.one (.int .i64 x)] ∧ IntKind.i64.has x := by
  obtain ⟨n, hn, hw⟩ := h cs[o] (by simp [ho])
  refine ⟨n, ?_, hw⟩
  have hl : o < cs.toList.length := by simpa using ho
  rw [List.drop_eq_getElem_cons hl, List.take_succ_cons, List.take_zero]
  simp [flat, Seg.cells, hn]
def pieces (l : List Value) : Nat → List Nat → List Value
  | _, [] => []
  | o, m :: r => (l.drop o).take m ++ pieces l (o + m) r
theorem pieces_eq (l : List Value) : ∀ (ns : List Nat) (o : Nat), l.length = o + ns.sum → pieces l o ns = l.drop o
  | [], o, h => by
    simp only [List.sum_nil, Nat.add_zero] at h
    simp [pieces, h]
  | m :: r, o, h => by
    simp only [List.sum_cons] at h
    rw [pieces, pieces_eq l r (o + m) (by omega), ← List.drop_drop, List.take_append_drop]

theorem encs_ints (ys : List Int) : encs Ei ys = ys.map (Value.int .i64) := by
  induction ys with
  | nil => rfl
  | cons y ys ih => simp only [encs, List.flatMap_cons, List.map_cons] at ih ⊢; rw [ih]; rfl
theorem okWideV_slice {P : Program} {W : World} {r : Reach} {base : Nat} {t e : TypeId} {v : Value} (ht : P.underlying t = some (.slice e)) (h : Value.okWide P W r base t v) : ∃ a n c, v = .slice a n c := by
  unfold Value.okWide at h
  rw [ht] at h
  simp only at h
  unfold Cell.okWide at h
  rw [ht] at h
  simp only at h
  unfold Cell.ok at h
  rw [ht] at h
  cases v <;> simp at h
  exact ⟨_, _, _, rfl⟩
/-- A slice of whole numbers that comes in. -/
theorem okWideV_ints {H : Type} {r : Reach} {base : Nat} {enc : TypeId × Value → H} {P : Program} {W : World} {sp : Nat → Bool} {held : Bool} {t e : TypeId} {v : Value} {d : DataW H} {p : List MemPlace} (ht : P.underlying t = some (.slice e)) (he : P.underlying e = some (.int .i64)) (hc : P.cellsOf e = 1)
    (hv : Value.okWide P W r base t v) (h : DataW.Trod enc P W 0 sp held t v d p) : ∃ (s : SV) (ys : List Int) (el spare : List (DataW H)), v = s.v ∧ Reads Ei (hp W) s ys ∧ (∀ x ∈ ys, IntKind.i64.has x) ∧ ((d = .nil ∧ ys = []) ∨ (d = .slice el spare ∧ ys.length = el.length + 0)) := by
  obtain ⟨m, hm⟩ := h
  obtain ⟨a1, n1, c1, rfl⟩ := okWideV_slice ht hv
  have hcl : (Value.slice a1 n1 c1).cells.toList = [Value.slice a1 n1 c1] := rfl
  rw [hcl] at hm
  rcases ChangeShapes.open_ints ht he hc hm with ⟨h1, h2⟩ | ⟨a, len, cap, zs, h1, _, h3, h4, h5, h6, h7, h8⟩
  · injection h1 with h1
    injection h2 with h2
    exact ⟨⟨none, 0, 0⟩, [], [], [], h1, ⟨rfl, Nat.le_refl _, by simp [maxLen], .inl rfl⟩, by simp, .inl ⟨h2, rfl⟩⟩
  · injection h1 with h1
    injection h6 with h6
    have hlen : len ≤ zs.length := by rw [h5]; split <;> omega
    refine ⟨⟨some a, len, cap⟩, zs.take len, _, _, h1, ⟨by simp; omega, h3, h4, ?_⟩, ?_, .inr ⟨h6, by simp [ChangeShapes.lits]⟩⟩
    · by_cases hl : len = 0
      · left; subst hl; simp
      · right
        have h0 := h7 0 (by omega)
        obtain ⟨b, o, sp'⟩ := a
        have e0 : (⟨b, o, sp'⟩ : Addr).add 0 = ⟨b, o, sp'⟩ := by simp [Addr.add]
        rw [e0] at h0
        unfold World.cell? at h0
        split at h0
        · rename_i cs T fr hb
          have hsp : sp' = none := by
            cases sp' with
            | none => rfl
            | some x => simp at h0
          subst hsp
          refine ⟨b, o, cs, T, fr, rfl, hb, ?_⟩
          intro j u hu
          rw [encs_ints, List.getElem?_map, List.getElem?_take] at hu
          split at hu
          · rename_i hj
            have hz := h7 j (by omega)
            rw [add_none, cell_at hb] at hz
            rw [hz, ← hu]
            have : zs[j]? = some (zs[j]'(by omega)) := List.getElem?_eq_getElem _
            simp [List.getD, this]
          · simp at hu
        · cases h0
    · intro x hx
      have := h8 x (List.mem_of_mem_take hx)
      simp only [Lit.wf, Bool.and_eq_true, decide_eq_true_eq] at this
      exact this

theorem reads_of {β : Type} {E : FE β} {W : World} {a : Addr} {n cap : Nat} {ys : List β} (hn : n = ys.length) (hpos : 0 < E.sz) (hc : ∀ (j : Nat) (u : Value), (encs E ys)[j]? = some u → W.cell? (a.add j) = some u) (h1 : n ≤ cap) (h2 : cap ≤ maxLen) : Reads E (hp W) ⟨some a, n, cap⟩ ys := by
  subst hn
  refine ⟨rfl, h1, h2, ?_⟩
  cases ys with
  | nil => exact .inl rfl
  | cons y ys =>
    right
    have hl : 0 < (encs E (y :: ys)).length := by rw [encs_length, List.length_cons, Nat.add_mul]; omega
    have h0 := hc 0 _ (List.getElem?_eq_getElem hl)
    obtain ⟨b, o, sp'⟩ := a
    have e0 : (⟨b, o, sp'⟩ : Addr).add 0 = ⟨b, o, sp'⟩ := by simp [Addr.add]
    rw [e0] at h0
    unfold World.cell? at h0
    split at h0
    · rename_i cs T fr hb
      have hsp : sp' = none := by
        cases sp' with
        | none => rfl
        | some x => simp at h0
      subst hsp
      refine ⟨b, o, cs, T, fr, rfl, hb, ?_⟩
      intro j u hu
      have := hc j u hu
      rwa [add_none, cell_at hb] at this
    · cases h0
theorem encs_svs (ys : List SV) : encs Ev ys = ys.map SV.v := by
  induction ys with
  | nil => rfl
  | cons y ys ih => simp only [encs, List.flatMap_cons, List.map_cons] at ih ⊢; rw [ih]; rfl
theorem Reads.len_le {β : Type} {E : FE β} {I : Hp} {s : SV} {ys : List β} (h : Reads E I s ys) : ys.length ≤ 9223372036854775807 := by
  obtain ⟨h0, h1, h2, _⟩ := h
  have : maxLen = 9223372036854775807 := rfl
  omega
/-- A slice of slices of whole numbers that comes in. -/
theorem okWideV_introws {H : Type} {r : Reach} {base : Nat} {enc : TypeId × Value → H} {P : Program} {W : World} {held : Bool} {t e q : TypeId} {v : Value} {d : DataW H} {p : List MemPlace} (ht : P.underlying t = some (.slice e)) (he : P.underlying e = some (.slice q)) (hq : P.underlying q = some (.int .i64)) (ce : P.cellsOf e = 1) (cq : P.cellsOf q = 1)
    (hv : Value.okWide P W r base t v) (h : DataW.Trod enc P W 0 (fun _ => true) held t v d p) : ∃ (s : SV) (ss : List SV) (yss : List (List Int)), v = s.v ∧ ReadsM Ei (hp W) s ss yss ∧ (∀ r ∈ yss, ∀ x ∈ r, IntKind.i64.has x) ∧ (∀ r ∈ yss, r.length ≤ 9223372036854775807) ∧ yss.length ≤ 9223372036854775807 := by
  obtain ⟨m, hm⟩ := h
  obtain ⟨a1, n1, c1, rfl⟩ := okWideV_slice ht hv
  have hcl : (Value.slice a1 n1 c1).cells.toList = [Value.slice a1 n1 c1] := rfl
  rw [hcl] at hm
  rcases Deep.open_int_rows ht he hq ce cq hm with ⟨h1, h2⟩ | ⟨a, len, cap, A, L, C, Z, h1, _, h3, h4, _, h5⟩
  · injection h1 with h1
    exact ⟨⟨none, 0, 0⟩, [], [], h1, ⟨⟨rfl, Nat.le_refl _, by simp [maxLen], .inl rfl⟩, rfl, by simp⟩, by simp, by simp, by simp⟩
  · injection h1 with h1
    have key : ∀ r, r < len → Reads Ei (hp W) ⟨A r, L r, C r⟩ ((Z r).take (L r)) := by
      intro r hr
      obtain ⟨g1, g2, g3, g4, g5, g6, g7⟩ := h5 r (by omega)
      cases hA : A r with
      | none =>
        have := g6 hA
        have hL : L r = 0 := by omega
        rw [hL]
        exact ⟨rfl, Nat.zero_le _, g3, .inl rfl⟩
      | some a' =>
        refine reads_of (by simp; omega) (by decide) ?_ g2 g3
        intro j u hu
        rw [encs_ints, List.getElem?_map, List.getElem?_take] at hu
        split at hu
        · rename_i hj
          have hz := (g7 a' hA).2 j (by omega)
          rw [hz, ← hu]
          have : (Z r)[j]? = some ((Z r)[j]'(by omega)) := List.getElem?_eq_getElem _
          simp [List.getD, this]
        · simp at hu
    have hM : ReadsM Ei (hp W) ⟨some a, len, cap⟩ ((List.range len).map fun r => ⟨A r, L r, C r⟩) ((List.range len).map fun r => (Z r).take (L r)) := by
      refine ⟨reads_of (by simp) (by decide) ?_ h3 h4, by simp, ?_⟩
      · intro j u hu
        rw [encs_svs, List.map_map, List.getElem?_map] at hu
        by_cases hj : j < len
        · rw [List.getElem?_range hj] at hu
          have := (h5 j (by omega)).1
          rw [this, ← hu]; rfl
        · simp [hj] at hu
      · intro j u ys h1 h2
        by_cases hj : j < len
        · rw [List.getElem?_map, List.getElem?_range hj] at h1 h2
          obtain rfl := Option.some.inj h1
          obtain rfl := Option.some.inj h2
          exact key j hj
        · simp [hj] at h1
    refine ⟨⟨some a, len, cap⟩, _, _, h1, hM, ?_, ?_, hM.2.1 ▸ hM.1.len_le⟩
    · intro r hr x hx
      obtain ⟨i, hi, rfl⟩ := List.mem_map.1 hr
      have := (h5 i (by have := List.mem_range.1 hi; omega)).2.2.2.2.1 x (List.mem_of_mem_take hx)
      simp only [Lit.wf, Bool.and_eq_true, decide_eq_true_eq] at this
      exact this
    · intro r hr
      obtain ⟨i, hi, rfl⟩ := List.mem_map.1 hr
      exact (key i (List.mem_range.1 hi)).len_le

theorem mapM_get {α β : Type} {f : α → Option β} : ∀ {l : List α} {xs : List β}, l.mapM f = some xs → ∀ {i : Nat} {a : α}, l[i]? = some a → ∃ y, f a = some y
  | [], _, _, _, _, h => by simp at h
  | a :: l, xs, hm, i, b, h => by
    rw [List.mapM_cons] at hm
    obtain ⟨y, hy, h2⟩ := Option.bind_eq_some_iff.1 hm
    obtain ⟨ys, hys, _⟩ := Option.bind_eq_some_iff.1 h2
    cases i with
    | zero => simp at h; subst h; exact ⟨y, hy⟩
    | succ i => exact mapM_get hys (by simpa using h)
/-- A slice of whole numbers that is a field of a struct that comes in. -/
theorem structInts {H : Type} {enc : TypeId × Value → H} {P : Program} {W : World} {sp : Nat → Bool} {held : Bool} {t e : TypeId} {fs : Array Field} {f : Field} {cs : Array Value} {d : DataW H} {p : List MemPlace} (ht : P.underlying t = some (.struct fs)) (h : DataW.Trod enc P W 0 sp held t (.agg cs) d p) (i : Nat) (hf : fs[i]? = some f)
    (hu : P.underlying f.type = some (.slice e)) (he : P.underlying e = some (.int .i64)) (hc : P.cellsOf e = 1) (h1 : P.cellsOf f.type = 1) {o : Nat} (ho : f.offset = o) :
    ∃ (s : SV) (ys : List Int), (cs.toList.drop o).take 1 = flat [.one (SV.v s)] ∧ Reads Ei (hp W) s ys ∧ (∀ x ∈ ys, IntKind.i64.has x) := by
  obtain ⟨m, hm⟩ := h
  have hcl : (Value.agg cs).cells.toList = cs.toList := rfl
  rw [hcl] at hm
  cases m with
  | zero => simp [DataW.trod] at hm
  | succ m =>
    unfold DataW.trod at hm
    rw [ht] at hm
    simp only at hm
    split at hm
    · obtain ⟨xs, hxs, _⟩ := Option.map_eq_some_iff.1 hm
      obtain ⟨y, hy⟩ := mapM_get hxs (i := i) (a := f) (by simpa using hf)
      rw [h1, ho] at hy
      rcases ChangeShapes.open_ints hu he hc hy with ⟨g1, g2⟩ | ⟨a, len, cap, zs, g1, _, g3, g4, g5, g6, g7, g8⟩
      · exact ⟨⟨none, 0, 0⟩, [], by rw [g1]; rfl, ⟨rfl, Nat.le_refl _, by simp [maxLen], .inl rfl⟩, by simp⟩
      · have hlen : len ≤ zs.length := by rw [g5]; split <;> omega
        refine ⟨⟨some a, len, cap⟩, zs.take len, by rw [g1]; rfl, reads_of (by simp; omega) (by decide) ?_ g3 g4, ?_⟩
        · intro j u hu'
          rw [encs_ints, List.getElem?_map, List.getElem?_take] at hu'
          split at hu'
          · rename_i hj
            have hz := g7 j (by omega)
            rw [hz, ← hu']
            have : zs[j]? = some (zs[j]'(by omega)) := List.getElem?_eq_getElem _
            simp [List.getD, this]
          · simp at hu'
        · intro x hx
          have := g8 x (List.mem_of_mem_take hx)
          simp only [Lit.wf, Bool.and_eq_true, decide_eq_true_eq] at this
          exact this
    · cases hm
end Go.Sx
