/- Inverses for the primes that are allowed, told by both. -/
import Derived.Test.YtcombgcjgdkbiaaPPrime
import Derived.Test.YtcombgcjgdkbiaaQ59
import Derived.Test.YtcombgcjgdkbiaaQ56
namespace Go.Proofs.Ytcombgcjgdkbiaa.G
open Go Go.Sx Go.Proofs
def ivn (p c : Nat) : Nat := ((List.range p).find? fun q => c * q % p == 1).getD 0
def primeN (p : Nat) : Bool := p == 2 || p == 3 || p == 5 || p == 7 || p == 11 || p == 13
set_option maxRecDepth 100000 in
theorem inv_tab : ∀ p : Fin 14, primeN p.val = true → ∀ c : Fin 14, 1 ≤ c.val → c.val < p.val → impl_inverse.f (c.val : Int) (p.val : Int) = some (ivn p.val c.val : Int) ∧ spec_l01Inverse.f (p.val : Int) (c.val : Int) = some (ivn p.val c.val : Int) := by decide +kernel
set_option maxRecDepth 100000 in
theorem inv_mul : ∀ p : Fin 14, primeN p.val = true → ∀ c : Fin 14, 1 ≤ c.val → c.val < p.val → ∀ d : Fin 14, 1 ≤ d.val → d.val < p.val → 1 ≤ c.val * d.val % p.val ∧ ∀ u : Fin 14, u.val < p.val → (u.val * ivn p.val c.val % p.val) * ivn p.val d.val % p.val = u.val * ivn p.val (c.val * d.val % p.val) % p.val := by decide +kernel
theorem prime_nat {p : Int} (h : primeB p = true) : ∃ q : Nat, p = (q : Int) ∧ primeN q = true ∧ 2 ≤ q ∧ q ≤ 13 := by
  have h1 := primeB_le h
  obtain ⟨q, rfl⟩ := Int.eq_ofNat_of_zero_le (show 0 ≤ p by omega)
  refine ⟨q, rfl, ?_, by omega, by omega⟩
  unfold primeB at h
  unfold primeN
  simp only [Bool.or_eq_true, beq_iff_eq] at h ⊢
  omega
theorem ivn_lt {p c : Nat} (hp : 2 ≤ p) : ivn p c < p := by
  unfold ivn
  cases h : (List.range p).find? (fun q => c * q % p == 1) with
  | none => simp only [Option.getD_none]; omega
  | some q => exact List.mem_range.1 (List.mem_of_find?_eq_some h)
theorem implInv {p c : Nat} (hp : primeN p = true) (h2 : p ≤ 13) (hc : 1 ≤ c) (hcp : c < p) : impl_inverse.f (c : Int) (p : Int) = some (ivn p c : Int) := (inv_tab ⟨p, by omega⟩ hp ⟨c, by omega⟩ hc hcp).1
theorem specInv {p c : Nat} (hp : primeN p = true) (h2 : p ≤ 13) (hc : 1 ≤ c) (hcp : c < p) : spec_l01Inverse.f (p : Int) (c : Int) = some (ivn p c : Int) := (inv_tab ⟨p, by omega⟩ hp ⟨c, by omega⟩ hc hcp).2
theorem invMul {p c d u : Nat} (hp : primeN p = true) (h2 : p ≤ 13) (hc : 1 ≤ c) (hcp : c < p) (hd : 1 ≤ d) (hdp : d < p) (hu : u < p) : 1 ≤ c * d % p ∧ (u * ivn p c % p) * ivn p d % p = u * ivn p (c * d % p) % p := by
  have := inv_mul ⟨p, by omega⟩ hp ⟨c, by omega⟩ hc hcp ⟨d, by omega⟩ hd hdp
  exact ⟨this.1, this.2 ⟨u, by omega⟩ hu⟩
theorem tmodN (a b : Nat) : Int.tmod (a : Int) (b : Int) = ((a % b : Nat) : Int) := by rw [Int.tmod_eq_emod_of_nonneg (by omega)]; rfl
theorem w64N {a : Nat} (h : a < 4611686018427387904) : w64 (a : Int) = (a : Int) := w64_in (by omega)
theorem mulN (a b : Nat) : (a : Int) * (b : Int) = ((a * b : Nat) : Int) := by simp
/-- A product of small numbers, for a modulus. -/
theorem mulmod {a b p : Nat} (ha : a ≤ 100) (hb : b ≤ 100) : Int.tmod (w64 ((a : Int) * (b : Int))) (p : Int) = ((a * b % p : Nat) : Int) := by
  have : a * b ≤ 100 * 100 := Nat.mul_le_mul ha hb
  rw [mulN, w64N (by omega), tmodN]
end Go.Proofs.Ytcombgcjgdkbiaa.G
