/- Products in a group, counted: what the loops of both come to. -/
import Derived.Test.YtcombgcjgdkbiaaPIsGroup
import Derived.Test.YtcombgcjgdkbiaaQ68
namespace Go.Proofs.Ytcombgcjgdkbiaa.G
open Go Go.Sx Go.Proofs
def bump (a : Nat → Nat) (k v : Nat) : Nat → Nat := fun q => if q = k then a q + v else a q
def sm (a : Nat → Nat) : Nat → Nat
  | 0 => 0
  | k + 1 => sm a k + a k
theorem sm_bump_out (a : Nat → Nat) {k v : Nat} : ∀ {n}, n ≤ k → sm (bump a k v) n = sm a n
  | 0, _ => rfl
  | n + 1, h => by
    simp only [sm]
    rw [sm_bump_out a (by omega)]
    have : n ≠ k := by omega
    simp [bump, this]
theorem sm_bump (a : Nat → Nat) {k v : Nat} : ∀ {n}, k < n → sm (bump a k v) n = sm a n + v
  | 0, h => by omega
  | n + 1, h => by
    simp only [sm]
    by_cases hk : k = n
    · subst hk
      rw [sm_bump_out a (Nat.le_refl _)]
      simp [bump]; omega
    · rw [sm_bump a (by omega)]
      have : n ≠ k := fun e => hk e.symm
      simp [bump, this]; omega
theorem le_sm (a : Nat → Nat) : ∀ {n k}, k < n → a k ≤ sm a n
  | 0, _, h => by omega
  | n + 1, k, h => by
    simp only [sm]
    by_cases hk : k = n
    · subst hk; omega
    · have := le_sm a (n := n) (k := k) (by omega); omega
theorem sm_mono (a : Nat → Nat) : ∀ {m n}, m ≤ n → sm a m ≤ sm a n
  | m, 0, h => by have : m = 0 := by omega
                  subst this; exact Nat.le_refl _
  | m, n + 1, h => by
    by_cases hm : m = n + 1
    · subst hm; exact Nat.le_refl _
    · have := sm_mono a (m := m) (n := n) (by omega)
      simp only [sm]; omega
def rowC (t : Nat → UInt8) (i ci : Nat) (s a : Nat → Nat) : Nat → (Nat → Nat)
  | 0 => a
  | j + 1 => bump (rowC t i ci s a j) (tb t i j) (ci * s j)
def allC (t : Nat → UInt8) (n : Nat) (c s : Nat → Nat) : Nat → (Nat → Nat)
  | 0 => fun _ => 0
  | i + 1 => rowC t i (c i) s (allC t n c s i) n
def pw (t : Nat → UInt8) (n : Nat) (s : Nat → Nat) : Nat → (Nat → Nat)
  | 0 => fun q => if q = 0 then 1 else 0
  | k + 1 => allC t n (pw t n s k) s n
def Ent (n : Nat) (t : Nat → UInt8) : Prop := ∀ i j, i < n → j < n → tb t i j < n
theorem sm_rowC {n : Nat} {t : Nat → UInt8} (he : Ent n t) {i : Nat} (hi : i < n) (ci : Nat) (s a : Nat → Nat) : ∀ {j}, j ≤ n → sm (rowC t i ci s a j) n = sm a n + ci * sm s j
  | 0, _ => by simp [rowC, sm]
  | j + 1, h => by
    simp only [rowC, sm]
    rw [sm_bump _ (he i j hi (by omega)), sm_rowC he hi ci s a (by omega), Nat.mul_add]; omega
theorem sm_zero : ∀ n, sm (fun _ => 0) n = 0
  | 0 => rfl
  | n + 1 => by simp only [sm, sm_zero n]
theorem sm_allC {n : Nat} {t : Nat → UInt8} (he : Ent n t) (c s : Nat → Nat) : ∀ {i}, i ≤ n → sm (allC t n c s i) n = sm c i * sm s n
  | 0, _ => by simp [allC, sm, sm_zero]
  | i + 1, h => by
    simp only [allC, sm]
    rw [sm_rowC he (by omega) _ _ _ (Nat.le_refl _), sm_allC he c s (by omega), Nat.add_mul]
theorem sm_one : ∀ {n}, 1 ≤ n → sm (fun q => if q = 0 then 1 else 0) n = 1
  | 0, h => by omega
  | 1, _ => rfl
  | n + 2, _ => by
    have := sm_one (n := n + 1) (by omega)
    simp only [sm] at this ⊢
    simp at this ⊢
    exact this
theorem sm_pw {n : Nat} {t : Nat → UInt8} (he : Ent n t) (h1 : 1 ≤ n) (s : Nat → Nat) : ∀ k, sm (pw t n s k) n = sm s n ^ k
  | 0 => by simp only [pw, Nat.pow_zero]; exact sm_one h1
  | k + 1 => by
    simp only [pw]
    rw [sm_allC he _ _ (Nat.le_refl _), sm_pw he h1 s k, Nat.pow_succ]

/-! ### arrays -/
def cz (a : Nat → Nat) : Nat → Int := fun k => (a k : Int)
theorem cz_bump (a : Nat → Nat) {k v : Nat} (h : a k + v < 4611686018427387904) : upd (cz a) k (w64 (cz a k + (v : Int))) = cz (bump a k v) := by
  funext q
  simp only [upd, cz, bump]
  by_cases hq : q = k
  · subst hq
    rw [if_pos rfl, if_pos rfl, w64_in (by omega)]; omega
  · rw [if_neg hq, if_neg hq]
theorem w64_mul {a b : Nat} (h : a * b < 4611686018427387904) : w64 ((a : Int) * (b : Int)) = ((a * b : Nat) : Int) := by
  rw [w64_in (by rw [← Int.natCast_mul]; omega)]; simp
theorem funRow {n : Nat} {t : Nat → UInt8} (he : Ent n t) (hn : n ≤ 6) {i : Nat} (hi : i < n) {ci : Nat} {s a : Nat → Nat} (hb : sm a n + ci * sm s n < 4611686018427387904)
    {f : (Nat → Int) × Int → Option (LB ((Nat → Int) × Int))}
    (hs : ∀ (y : Nat → Int) (j : Nat), j < n → f (y, (j : Int)) = some (.next (upd y (tb t i j) (w64 (y (tb t i j) + w64 ((ci : Int) * (s j : Int)))), w64 ((j : Int) + 1))))
    (hf : ∀ y, f (y, (n : Int)) = some (.brk (y, (n : Int)))) : loop1 f (cz a, 0) = some (cz (rowC t i ci s a n), (n : Int)) := by
  refine loop1_upto (fun j => (cz (rowC t i ci s a j), (j : Int))) n _ (by omega) (fun j hj => ?_) (hf _)
  have h1 := sm_rowC he hi ci s a (j := j + 1) (by omega)
  have h2 : ci * sm s (j + 1) ≤ ci * sm s n := Nat.mul_le_mul_left _ (sm_mono s (by omega))
  have h3 := le_sm (rowC t i ci s a (j + 1)) (he i j hi hj)
  simp only [rowC] at h1 h3
  have h4 : bump (rowC t i ci s a j) (tb t i j) (ci * s j) (tb t i j) = rowC t i ci s a j (tb t i j) + ci * s j := by simp [bump]
  rw [h4] at h3
  rw [hs _ j hj, w64_mul (by omega), cz_bump _ (by omega), w64_succ (by omega)]
  rfl
theorem funAll {n : Nat} {t : Nat → UInt8} (he : Ent n t) (hn : n ≤ 6) {c s : Nat → Nat} (hb : sm c n * sm s n < 4611686018427387904)
    {f : (Nat → Int) × Int → Option (LB ((Nat → Int) × Int))} {g : Nat → (Nat → Int) × Int → Option (LB ((Nat → Int) × Int))}
    (hs : ∀ (y : Nat → Int) (i : Nat), i < n → f (y, (i : Int)) = (loop1 (g i) (y, 0)).bind fun p => some (.next (p.1, w64 ((i : Int) + 1))))
    (hf : ∀ y, f (y, (n : Int)) = some (.brk (y, (n : Int))))
    (gs : ∀ (y : Nat → Int) (i j : Nat), i < n → j < n → g i (y, (j : Int)) = some (.next (upd y (tb t i j) (w64 (y (tb t i j) + w64 ((c i : Int) * (s j : Int)))), w64 ((j : Int) + 1))))
    (gf : ∀ (y : Nat → Int) (i : Nat), i < n → g i (y, (n : Int)) = some (.brk (y, (n : Int)))) : loop1 f ((fun _ => 0), 0) = some (cz (allC t n c s n), (n : Int)) := by
  refine loop1_upto (f := f) (fun i => (cz (allC t n c s i), (i : Int))) n _ (by omega) (fun i hi => ?_) (hf _)
  have h1 := sm_allC he c s (i := i + 1) (by omega)
  have h2 : sm c (i + 1) * sm s n ≤ sm c n * sm s n := Nat.mul_le_mul_right _ (sm_mono c (by omega))
  simp only [allC] at h1
  rw [sm_rowC he hi _ _ _ (Nat.le_refl _)] at h1
  rw [hs _ i hi, funRow he hn hi (s := s) (ci := c i) (by omega) (fun y j hj => gs y i j hi hj) (fun y => gf y i hi)]
  simp only [Option.bind_some, w64_succ (by omega : i < _)]
  rfl

/-! ### lists -/
def clz (n : Nat) (a : Nat → Nat) : List Int := (List.range n).map (cz a)
theorem clz_length (n : Nat) (a : Nat → Nat) : (clz n a).length = n := by simp [clz]
theorem clz_gt {n : Nat} (a : Nat → Nat) {k : Nat} (hk : k < n) : gt (clz n a) (k : Int) = (a k : Int) := by
  simp [gt, clz, List.getD, hk, cz]
theorem clz_bump {n : Nat} (a : Nat → Nat) {k v : Nat} (hk : k < n) (h : a k + v < 4611686018427387904) : (clz n a).set ((k : Int)).toNat (w64 (gt (clz n a) (k : Int) + (v : Int))) = clz n (bump a k v) := by
  rw [clz_gt a hk, w64_in (by omega)]
  apply List.ext_getElem?
  intro q
  simp only [clz, Int.toNat_natCast, List.getElem?_set, List.length_map, List.length_range, List.getElem?_map]
  by_cases hq : q < n
  · by_cases hqk : k = q
    · subst hqk; simp [hk, cz, bump]
    · have : ¬ q = k := fun e => hqk e.symm
      simp [hq, hqk, this, cz, bump]
  · by_cases hqk : k = q
    · omega
    · simp [hq, hqk]
theorem listRow {n : Nat} {t : Nat → UInt8} (he : Ent n t) (hn : n ≤ 6) {i : Nat} (hi : i < n) {ci : Nat} {s a : Nat → Nat} (hb : sm a n + ci * sm s n < 4611686018427387904)
    {f : List Int × Int → Option (LB (List Int × Int))}
    (hs : ∀ (y : Nat → Nat) (j : Nat), j < n → f (clz n y, (j : Int)) = some (.next ((clz n y).set ((tb t i j : Nat) : Int).toNat (w64 (gt (clz n y) (tb t i j : Int) + w64 ((ci : Int) * (s j : Int)))), w64 ((j : Int) + 1))))
    (hf : ∀ y, f (y, (n : Int)) = some (.brk (y, (n : Int)))) : loop1 f (clz n a, 0) = some (clz n (rowC t i ci s a n), (n : Int)) := by
  refine loop1_upto (fun j => (clz n (rowC t i ci s a j), (j : Int))) n _ (by omega) (fun j hj => ?_) (hf _)
  have h1 := sm_rowC he hi ci s a (j := j + 1) (by omega)
  have h2 : ci * sm s (j + 1) ≤ ci * sm s n := Nat.mul_le_mul_left _ (sm_mono s (by omega))
  have h3 := le_sm (rowC t i ci s a (j + 1)) (he i j hi hj)
  simp only [rowC] at h1 h3
  have h4 : bump (rowC t i ci s a j) (tb t i j) (ci * s j) (tb t i j) = rowC t i ci s a j (tb t i j) + ci * s j := by simp [bump]
  rw [h4] at h3
  rw [hs _ j hj, w64_mul (by omega), clz_bump _ (he i j hi hj) (by omega), w64_succ (by omega)]
  rfl
theorem rep_clz (n : Nat) : List.replicate n (0 : Int) = clz n (fun _ => 0) := by
  apply List.ext_getElem?
  intro q
  by_cases hq : q < n <;> simp [clz, cz, hq]
theorem rep_one {n : Nat} (h : 1 ≤ n) : (List.replicate n (0 : Int)).set 0 1 = clz n (fun q => if q = 0 then 1 else 0) := by
  apply List.ext_getElem?
  intro q
  simp only [clz, List.getElem?_set, List.length_replicate, List.getElem?_map]
  by_cases hq : q < n
  · by_cases h0 : q = 0
    · subst h0; simp [hq, cz]
    · have : ¬ 0 = q := fun e => h0 e.symm
      simp [hq, h0, this, cz]
  · have : ¬ 0 = q := by omega
    simp [hq, this]
theorem products_eq {n : Nat} {t : Nat → UInt8} (he : Ent n t) (h1 : 1 ≤ n) (hn : n ≤ 6) (s : Nat → Nat) (m : Nat) (hm : m ≤ 1000) (hb : ∀ k, k < m → sm s n ^ (k + 1) < 4611686018427387904) :
    impl_Group_products.f n t (clz n s) m = some (clz n (pw t n s m)) := by
  unfold impl_Group_products.f
  rw [gn_eq, Option.bind_some, show decide ((0 : Int) ≤ (n : Int)) = true by simp]
  simp only [grd, cond_true, Int.toNat_natCast]
  rw [small_in (by omega), chk_in (by simp; omega), rep_one h1]
  have h := loop1_upto (f := impl_Group_products.b2 m n t (clz n s)) (fun k => (clz n (pw t n s k), (k : Int))) m (clz n (pw t n s m), (m : Int)) (by omega) (fun k hk => by
    unfold impl_Group_products.b2
    have hsum := sm_pw he h1 s k
    have hbk := hb k hk
    rw [Nat.pow_succ] at hbk
    simp only [dlt_nat, hk, decide_true, cond_true, gn_eq, Option.bind_some, grd]
    rw [show decide ((0 : Int) ≤ (n : Int)) = true by simp, cond_true, Int.toNat_natCast, small_in (by omega), rep_clz]
    have hl := loop1_upto (f := impl_Group_products.b1 (clz n (pw t n s k)) (clz n s) n t) (fun i => (clz n (allC t n (pw t n s k) s i), (i : Int))) n (clz n (allC t n (pw t n s k) s n), (n : Int)) (by omega) (fun i hi => by
      unfold impl_Group_products.b1
      have g1 := sm_allC he (pw t n s k) s (i := i + 1) (by omega)
      have g2 : sm (pw t n s k) (i + 1) * sm s n ≤ sm (pw t n s k) n * sm s n := Nat.mul_le_mul_right _ (sm_mono _ (by omega))
      simp only [allC] at g1
      rw [sm_rowC he hi _ _ _ (Nat.le_refl _)] at g1
      simp only [clz_length, dlt_nat, hi, decide_true, cond_true]
      rw [chk_in (by omega), listRow he hn hi (s := s) (ci := pw t n s k i) (by rw [hsum] at g2; omega) (fun y j hj => ?_) (fun y => ?_)]
      · simp only [Option.bind_some, w64_succ (by omega : i < _)]
        rfl
      · unfold impl_Group_products.b0
        simp only [clz_length, dlt_nat, hj, decide_true, cond_true]
        rw [chk_in (by omega), times_eq _ _ (by omega) (by omega), Option.bind_some, chk_in (by have := he i j hi hj; omega), clz_gt _ hi, clz_gt _ hj]
      · unfold impl_Group_products.b0
        simp [clz_length]) (by
      unfold impl_Group_products.b1
      simp [clz_length])
    have hl' : loop1 (impl_Group_products.b1 (clz n (pw t n s k)) (clz n s) n t) (clz n (fun _ => 0), 0) = some (clz n (allC t n (pw t n s k) s n), (n : Int)) := hl
    rw [hl']
    simp only [Option.bind_some, w64_succ (by omega : k < _)]
    rfl) (by
    unfold impl_Group_products.b2
    simp)
  have h' : loop1 (impl_Group_products.b2 m n t (clz n s)) (clz n (fun q => if q = 0 then 1 else 0), 0) = some (clz n (pw t n s m), (m : Int)) := h
  rw [h']
  rfl
theorem ent_of {n : Nat} {t : Nat → UInt8} (hn : n ≤ 6) (h : groupB n t = true) : Ent n t := by
  intro i j hi hj
  unfold groupB at h
  simp only [Bool.and_eq_true, Bool.not_eq_true'] at h
  exact badEs_entry h.1 hi hj hn
/-- What both of the great loops come to, counted down. -/
theorem downLoop {n : Nat} {t : Nat → UInt8} {s : Nat → Nat} {f : Int × (Nat → Int) → Option (LB (Int × (Nat → Int)))} (m : Nat) (hm : m ≤ 1000)
    (hs : ∀ (x k : Nat), k < m → x ≤ 1000 → f (((x + 1 : Nat) : Int), cz (pw t n s k)) = some (.next ((x : Int), cz (pw t n s (k + 1))))) (hf : ∀ y, f (0, y) = some (.brk (0, y))) :
    loop1 f ((m : Int), upd (fun _ => 0) 0 1) = some (0, cz (pw t n s m)) := by
  have h := loop1_upto (f := f) (fun k => (((m - k : Nat) : Int), cz (pw t n s k))) m (0, cz (pw t n s m)) (by omega) (fun k hk => by
    have := hs (m - k - 1) k hk (by omega)
    rw [show m - k - 1 + 1 = m - k by omega] at this
    rw [this, show m - (k + 1) = m - k - 1 by omega]) (by
    have := hf (cz (pw t n s m))
    simpa using this)
  have e : upd (fun _ => (0 : Int)) 0 1 = cz (pw t n s 0) := by
    funext q
    by_cases hq : q = 0 <;> simp [upd, cz, pw, hq]
  rw [e]
  simpa using h
end Go.Proofs.Ytcombgcjgdkbiaa.G
