/- What a tensor is, told by both. -/
import Derived.Test.YtgljkechjkllgaaPPrime
import Derived.Test.YtgljkechjkllgaaPContainsFunc
import Derived.Test.YtgljkechjkllgaaQ47
import Derived.Test.YtgljkechjkllgaaQ86
namespace Go.Proofs.Ytgljkechjkllgaa.G
open Go Go.Sx Go.Proofs
set_option maxRecDepth 100000 in
theorem power_tab : ∀ n : Fin 7, ∀ k : Fin 17, 1 ≤ n.val → (impl_powerOf.f (n.val : Int) (k.val : Int)).isSome = true ∧ impl_powerOf.f (n.val : Int) (k.val : Int) = spec_l03Power.f (n.val : Int) (k.val : Int) := by decide +kernel
theorem power_same {n k : Int} (hn : 1 ≤ n ∧ n ≤ 6) (hk : 0 ≤ k ∧ k ≤ 16) : ∃ v, impl_powerOf.f n k = some v ∧ spec_l03Power.f n k = some v := by
  obtain ⟨a, rfl⟩ := Int.eq_ofNat_of_zero_le (show 0 ≤ n by omega)
  obtain ⟨b, rfl⟩ := Int.eq_ofNat_of_zero_le hk.1
  have := power_tab ⟨a, by omega⟩ ⟨b, by omega⟩ (by simp only; omega)
  simp only at this
  obtain ⟨v, hv⟩ := Option.isSome_iff_exists.1 this.1
  exact ⟨v, hv, by rw [← this.2]; exact hv⟩
theorem tensor_same (p n i o : Int) (l : List Int) (h : l.length ≤ 1048576) (hp : IntKind.i64.has p) : ∃ b, spec_l03Is.f p n i o l = some b ∧ impl_IsTensor.f p n i o l = some b := by
  unfold spec_l03Is.f impl_IsTensor.f impl_shapeOk.f impl_endsOk.f spec_l01In.f impl_in.f
  rw [specPrime, implPrime]
  simp only [Option.bind_some]
  cases hpr : primeB p with
  | false => exact ⟨_, rfl, rfl⟩
  | true =>
    have hpb := primeB_le hpr
    simp only [Bool.not_true, cond_false, cond_true, Option.bind_some]
    cases h1 : (decide (n ≥ 1) && decide (n ≤ 6)) with
    | false => exact ⟨_, rfl, rfl⟩
    | true =>
      simp only [Bool.not_true, cond_false, Option.bind_some]
      cases h2 : (decide (i ≥ 0) && decide (i ≤ 8)) with
      | false => exact ⟨_, rfl, rfl⟩
      | true =>
        simp only [Bool.not_true, cond_false, Option.bind_some]
        cases h3 : (decide (o ≥ 0) && decide (o ≤ 8)) with
        | false => exact ⟨_, rfl, rfl⟩
        | true =>
          simp only [Bool.and_eq_true, decide_eq_true_eq] at h1 h2 h3
          simp only [Bool.not_true, cond_false]
          rw [w64_in (x := i + o) (by omega)]
          obtain ⟨v, e1, e2⟩ := power_same (n := n) (k := i + o) (by omega) (by omega)
          rw [e1, e2]
          simp only [Option.bind_some]
          have hc := hasInts l (by omega) (fun x0_ => impl_IsTensor_1.f x0_ p n i o l) (fun x => !(decide (x ≥ 0) && decide (x ≤ p - 1))) (fun x _ => by
            unfold impl_IsTensor_1.f impl_in.f
            rw [w64_in (x := p - 1) (by omega)]
            rfl)
          rw [hc, Option.bind_some]
          refine ⟨_, ?_, rfl⟩
          by_cases hv : v > 1296
          · have : decide (v ≤ 1296) = false := decide_eq_false (by omega)
            rw [decide_eq_true hv, this]; rfl
          · have : decide (v ≤ 1296) = true := decide_eq_true (by omega)
            rw [decide_eq_false hv, this]
            simp only [Bool.false_or, Bool.true_and, bne]
            cases hlen : ((l.length : Int) == v) with
            | false => rfl
            | true =>
              simp only [Bool.not_true, cond_false, Bool.true_and]
              have hl := loop_any (f := spec_l03Is.b0 l p) (fun q => (q : Int)) l.length (fun (q : Nat) => !(decide (gt l (q : Int) ≥ 0) && decide (gt l (q : Int) ≤ p - 1))) false (l.length : Int) (by omega) (fun q hq => by
                unfold spec_l03Is.b0 spec_l01In.f
                simp only [dlt_nat, hq, decide_true, cond_true]
                rw [chk_in (by omega), w64_in (x := p - 1) (by omega), Option.bind_some, w64_succ (by omega)]
                cases (decide (gt l (q : Int) ≥ 0) && decide (gt l (q : Int) ≤ p - 1)) <;> rfl) (by
                unfold spec_l03Is.b0
                simp)
              have hl' : loop (spec_l03Is.b0 l p) 0 = _ := hl
              rw [hl', any_ix l (fun x => !(decide (x ≥ 0) && decide (x ≤ p - 1)))]
              cases l.any (fun x => !(decide (x ≥ 0) && decide (x ≤ p - 1))) <;> rfl
end Go.Proofs.Ytgljkechjkllgaa.G
