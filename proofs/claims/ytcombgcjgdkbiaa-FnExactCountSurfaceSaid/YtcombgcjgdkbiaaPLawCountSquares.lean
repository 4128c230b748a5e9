/- The law of CountSquares tells true. -/
import Derived.Test.YtcombgcjgdkbiaaPProducts
import Derived.Test.YtcombgcjgdkbiaaPCopy
import Derived.Test.YtcombgcjgdkbiaaQ5
namespace Go.Proofs.Ytcombgcjgdkbiaa.G
open Go Go.Sx Go.Proofs
theorem specAll {n : Nat} {t : Nat → UInt8} (he : Ent n t) (hn : n ≤ 6) {c s : Nat → Nat} (hb : sm c n * sm s n < 4611686018427387904) :
    loop1 (spec_CountSquares.b1 n t (cz c) (cz s)) ((fun _ => 0), 0) = some (cz (allC t n c s n), (n : Int)) := by
  refine funAll he hn hb (g := fun i => spec_CountSquares.b0 n i t (cz c) (cz s)) (fun y i hi => ?_) (fun y => ?_) (fun y i j hi hj => ?_) (fun y i hi => ?_)
  · unfold spec_CountSquares.b1
    simp only [dlt_nat, hi, decide_true, cond_true]
  · unfold spec_CountSquares.b1
    simp
  · unfold spec_CountSquares.b0
    simp only [dlt_nat, hj, decide_true, cond_true]
    have h := he i j hi hj
    have e : ((t (((i : Nat) : Int).toNat * 6 + ((j : Nat) : Int).toNat)).toNat : Int) = (tb t i j : Int) := rfl
    rw [chk_in (by omega), chk_in (by omega), e, chk_in (by omega)]
    rfl
  · unfold spec_CountSquares.b0
    simp
def sqC (t : Nat → UInt8) : Nat → (Nat → Nat)
  | 0 => fun _ => 0
  | i + 1 => bump (sqC t i) (tb t i i) 1
theorem sm_sqC {n : Nat} {t : Nat → UInt8} (he : Ent n t) : ∀ {i}, i ≤ n → sm (sqC t i) n = i
  | 0, _ => sm_zero n
  | i + 1, h => by simp only [sqC]; rw [sm_bump _ (he i i (by omega) (by omega)), sm_sqC he (by omega)]
theorem sqC_small {n : Nat} {t : Nat → UInt8} (he : Ent n t) (hn : n ≤ 6) {i : Nat} (hi : i < n) : sqC t i (tb t i i) + 1 < 4611686018427387904 := by
  have h1 := sm_sqC he (i := i) (by omega)
  have h2 := le_sm (sqC t i) (he i i hi hi)
  omega
theorem specSq {n : Nat} {t : Nat → UInt8} (he : Ent n t) (hn : n ≤ 6) : spec_l08Squares.f n t = some (cz (sqC t n)) := by
  unfold spec_l08Squares.f
  have h := loop1_upto (f := spec_l08Squares.b0 n t) (fun i => (cz (sqC t i), (i : Int))) n (cz (sqC t n), (n : Int)) (by omega) (fun i hi => by
    unfold spec_l08Squares.b0
    have e : ((t (((i : Nat) : Int).toNat * 6 + ((i : Nat) : Int).toNat)).toNat : Int) = (tb t i i : Int) := rfl
    have e2 : (t (((i : Nat) : Int).toNat * 6 + ((i : Nat) : Int).toNat)).toNat = tb t i i := rfl
    have h := he i i hi hi
    simp only [dlt_nat, hi, decide_true, cond_true]
    rw [chk_in (by omega), e, chk_in (by omega), e2, w64_succ (by omega)]
    have := cz_bump (sqC t i) (k := tb t i i) (v := 1) (sqC_small he hn hi)
    rw [show ((1 : Nat) : Int) = 1 from rfl] at this
    rw [this]
    rfl) (by
    unfold spec_l08Squares.b0
    simp)
  have h' : loop1 (spec_l08Squares.b0 n t) ((fun _ => 0), 0) = some (cz (sqC t n), (n : Int)) := h
  rw [h']; rfl
theorem implSq {n : Nat} {t : Nat → UInt8} (he : Ent n t) (hn : n ≤ 6) : loop1 (impl_CountSquares.b0 n n t) (List.replicate n 0, 0) = some (clz n (sqC t n), (n : Int)) := by
  have h := loop1_upto (f := impl_CountSquares.b0 n n t) (fun i => (clz n (sqC t i), (i : Int))) n (clz n (sqC t n), (n : Int)) (by omega) (fun i hi => by
    unfold impl_CountSquares.b0
    have h := he i i hi hi
    simp only [dlt_nat, hi, decide_true, cond_true]
    rw [times_eq _ _ (by omega) (by omega), Option.bind_some, clz_length, chk_in (by omega), w64_succ (by omega)]
    have := clz_bump (sqC t i) (k := tb t i i) (v := 1) h (sqC_small he hn hi)
    rw [show ((1 : Nat) : Int) = 1 from rfl] at this
    rw [this]
    rfl) (by
    unfold impl_CountSquares.b0
    simp)
  rw [rep_clz]
  exact h
theorem pw6 : ∀ k, k < 12 → (6 : Nat) ^ (k + 1) ≤ 2176782336 := by decide
theorem cs_same (g : Int) (t : Nat → UInt8) (h : Int) : ∃ r, spec_CountSquares.f g t h = some r ∧ impl_CountSquares.f g t h = some r := by
  obtain ⟨b, h1, h2, h3⟩ := isGroup_same g t
  unfold spec_CountSquares.f impl_CountSquares.f
  rw [h1, h2]
  cases b with
  | false => exact ⟨_, rfl, rfl⟩
  | true =>
    obtain ⟨n, rfl, k1, k2, k3⟩ := h3 rfl
    have he := ent_of k2 k3
    simp only [Option.bind_some, Bool.not_true, cond_false, in_eq, l01In_eq, gn_eq]
    by_cases hh : 0 ≤ h ∧ h ≤ 12
    · obtain ⟨m, rfl⟩ := Int.eq_ofNat_of_zero_le hh.1
      have hm : m ≤ 12 := by omega
      have hin : (decide ((m : Int) ≥ 0) && decide ((m : Int) ≤ 12)) = true := by simp; omega
      rw [hin]
      simp only [Bool.not_true, cond_false]
      rw [specSq he k2]
      have hS : sm (sqC t n) n = n := sm_sqC he (Nat.le_refl _)
      have hpow : ∀ k, k < m → n ^ (k + 1) < 4611686018427387904 := fun k hk => by
        have h1 := Nat.pow_le_pow_left k2 (k + 1)
        have h2 := pw6 k (by omega)
        omega
      have hspec : loop1 (spec_CountSquares.b2 n t (cz (sqC t n))) ((m : Int), upd (fun _ => 0) 0 1) = some (0, cz (pw t n (sqC t n) m)) := by
        refine downLoop m (by omega) (fun x k hk hx => ?_) (fun y => ?_)
        · unfold spec_CountSquares.b2
          have hd : decide ((((x + 1 : Nat)) : Int) > 0) = true := decide_eq_true (by omega)
          simp only [hd, cond_true]
          have hb := hpow k hk
          rw [Nat.pow_succ] at hb
          rw [specAll he k2 (by rw [sm_pw he k1, hS]; exact hb)]
          simp only [Option.bind_some]
          rw [w64_pred (by omega)]
          rfl
        · unfold spec_CountSquares.b2
          simp
      have hle : pw t n (sqC t n) m 0 ≤ 1000000000000 := by
        have a1 := le_sm (pw t n (sqC t n) m) (n := n) (k := 0) (by omega)
        rw [sm_pw he k1, hS] at a1
        have a2 : n ^ m ≤ 2176782336 := by
          match m, hm with
          | 0, _ => simp
          | m + 1, hm => exact Nat.le_trans (Nat.pow_le_pow_left k2 _) (pw6 m (by omega))
        omega
      have hcnt : impl_counted.f (pw t n (sqC t n) m 0 : Int) = some ((pw t n (sqC t n) m 0 : Int), 0) := by
        unfold impl_counted.f
        have : decide (((pw t n (sqC t n) m 0 : Nat) : Int) > 1000000000000) = false := by simp; omega
        rw [this]; rfl
      have himpl := implSq he k2
      simp only [Option.bind_some, grd, Int.toNat_natCast]
      rw [hspec, show decide ((0 : Int) ≤ (n : Int)) = true by simp, cond_true, small_in (by omega), himpl]
      simp only [Option.bind_some]
      rw [products_eq he k1 k2 _ m (by omega) (by rw [hS]; exact hpow), Option.bind_some, clz_length, chk_in (by omega)]
      have g0 : gt (clz n (pw t n (sqC t n) m)) 0 = (pw t n (sqC t n) m 0 : Int) := clz_gt (k := 0) _ (by omega)
      rw [g0, hcnt]
      exact ⟨_, rfl, rfl⟩
    · have hin : (decide (h ≥ 0) && decide (h ≤ 12)) = false := by
        rw [Bool.and_eq_false_iff]
        simp only [decide_eq_false_iff_not]
        omega
      rw [hin]
      exact ⟨_, rfl, rfl⟩
theorem plain_FnExactCountSquares (g : Int) (t : Nat → UInt8) (h : Int) (_w : IntKind.i64.has g) (_w2 : IntKind.i64.has h) : laws_FnExactCountSquares.f g t h = some true := by
  obtain ⟨r, h1, h2⟩ := cs_same g (cut0 36 t) h
  unfold laws_FnExactCountSquares.f
  simp only [toGroup_eq, Option.bind_some, h1, h2]
  simp
end Go.Proofs.Ytcombgcjgdkbiaa.G
