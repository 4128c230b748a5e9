/- The law of CoboundaryOf tells true. -/
import Derived.Test.YtcombgcjgdkbiaaPPrimed
import Derived.Test.YtcombgcjgdkbiaaPLz
import Derived.Test.YtcombgcjgdkbiaaPCopy
import Derived.Test.YtcombgcjgdkbiaaPCopyInts
import Derived.Test.YtcombgcjgdkbiaaPMarkDeep
import Derived.Test.YtcombgcjgdkbiaaPContainsFunc
import Derived.Test.YtcombgcjgdkbiaaQ12
namespace Go.Proofs.Ytcombgcjgdkbiaa.G
open Go Go.Sx Go.Proofs
def badV (p : Int) (x : Int) : Bool := !(decide (x ≥ 1) && decide (x ≤ p - 1))
theorem cb_stop (l : List Int) (p : Int) {e : Int} (he : e ≠ 0) : loop1 (spec_CoboundaryOf.b0 l p) (e, 0) = some (e, 0) := by
  have h := loop1_upto (f := spec_CoboundaryOf.b0 l p) (fun _ => (e, 0)) 0 (e, 0) (by omega) (fun i hi => by omega) (by
    unfold spec_CoboundaryOf.b0
    have : (e == 0) = false := by simpa using he
    simp [this])
  exact h
theorem cb_check (l : List Int) {p : Int} (hp : 2 ≤ p ∧ p ≤ 13) (hl : l.length ≤ 1048576) : ∃ k, loop1 (spec_CoboundaryOf.b0 l p) (0, 0) = some ((if l.any (badV p) then 2 else 0), k) := by
  obtain ⟨o, ho, hq⟩ := loop1_run (f := spec_CoboundaryOf.b0 l p) (fun st => (∃ i : Nat, st = (0, (i : Int)) ∧ i ≤ l.length ∧ (l.take i).any (badV p) = false) ∨ (∃ i : Nat, st = (2, (i : Int)) ∧ l.any (badV p) = true)) (fun st => if st.1 = 0 then l.length - st.2.toNat + 1 else 0) (fun o => o.1 = if l.any (badV p) then 2 else 0)
    (by
      rintro st (⟨i, rfl, hi, hg⟩ | ⟨i, rfl, hb⟩)
      · by_cases hlt : i < l.length
        · have hs : spec_CoboundaryOf.b0 l p (0, (i : Int)) = some (.next ((bif badV p l[i] then 2 else 0), ((i + 1 : Nat) : Int))) := by
            unfold spec_CoboundaryOf.b0 spec_l01In.f
            have e : (decide ((i : Int) < (l.length : Int)) && ((0 : Int) == 0)) = true := by simp; omega
            simp only [e, cond_true]
            rw [chk_in (by omega), w64_in (x := p - 1) (by omega), gt_ix hlt]
            simp only [Option.bind_some]
            rw [w64_succ (by omega)]
            have hb : (!(decide (l[i] ≥ 1) && decide (l[i] ≤ p - 1))) = badV p l[i] := rfl
            rw [hb]
            cases badV p l[i] <;> rfl
          rw [hs]
          cases hbv : badV p l[i] with
          | true => exact .inl ⟨_, rfl, .inr ⟨i + 1, rfl, List.any_eq_true.2 ⟨l[i], List.getElem_mem _, hbv⟩⟩, by simp⟩
          | false =>
            refine .inl ⟨_, rfl, .inl ⟨i + 1, rfl, by omega, ?_⟩, by simp; omega⟩
            rw [List.take_add_one, List.getElem?_eq_getElem hlt, List.any_append, hg]
            simp [hbv]
        · have hie : i = l.length := by omega
          subst hie
          rw [List.take_length] at hg
          have hs : spec_CoboundaryOf.b0 l p (0, (l.length : Int)) = some (.brk (0, (l.length : Int))) := by
            unfold spec_CoboundaryOf.b0
            simp
          rw [hs]
          exact .inr ⟨_, rfl, by rw [hg]; rfl⟩
      · have hs : spec_CoboundaryOf.b0 l p (2, (i : Int)) = some (.brk (2, (i : Int))) := by
          unfold spec_CoboundaryOf.b0
          simp
        rw [hs]
        exact .inr ⟨_, rfl, by rw [hb]; rfl⟩) (0, 0) (.inl ⟨0, rfl, by omega, by simp⟩) (by simp; omega)
  obtain ⟨o1, o2⟩ := o
  simp only at hq
  subst hq
  exact ⟨o2, ho⟩
def cellC (q : Nat) (t : Nat → UInt8) (a : Nat → Nat) (i j : Nat) : Nat := a i * a j % q * ivn q (a (tb t i j) * a 0 % q) % q
def rowsC (n q : Nat) (t : Nat → UInt8) (a : Nat → Nat) (k : Nat) : List (List Int) := (List.range k).map fun i => lz n (cellC q t a i)
theorem rowsC_succ (n q : Nat) (t : Nat → UInt8) (a : Nat → Nat) (k : Nat) : rowsC n q t a (k + 1) = rowsC n q t a k ++ [lz n (cellC q t a k)] := by simp [rowsC, List.range_succ]
section
variable {n q : Nat} {t : Nat → UInt8} {a : Nat → Nat} (h1 : 1 ≤ n) (hn : n ≤ 6) (he : ∀ i j, i < n → j < n → tb t i j < n) (hp : primeN q = true) (hq : 2 ≤ q ∧ q ≤ 13) (ha : ∀ i, i < n → 1 ≤ a i ∧ a i < q)
include h1 hn he hp hq ha
theorem specRows : loop1 (spec_CoboundaryOf.b2 n t (lz n a) q) ([], 0) = some (rowsC n q t a n, (n : Int)) := by
  refine loop1_upto (f := spec_CoboundaryOf.b2 n t (lz n a) q) (fun i => (rowsC n q t a i, (i : Int))) n _ (by omega) (fun i hi => ?_) ?_
  · unfold spec_CoboundaryOf.b2
    simp only [dlt_nat, hi, decide_true, cond_true]
    have hin := loop1_upto (f := spec_CoboundaryOf.b1 n i t (lz n a) q) (fun j => (lz j (cellC q t a i), (j : Int))) n (lz n (cellC q t a i), (n : Int)) (by omega) (fun j hj => by
      unfold spec_CoboundaryOf.b1
      have hij := he i j hi hj
      have e5 : ((t (((i : Nat) : Int).toNat * 6 + ((j : Nat) : Int).toNat)).toNat : Int) = (tb t i j : Int) := rfl
      have g0 : gt (lz n a) 0 = (a 0 : Int) := lz_gt (k := 0) a (by omega)
      have a1 := ha i hi
      have a2 := ha j hj
      have a3 := ha _ hij
      have a4 := ha 0 (by omega)
      have hm := invMul (u := 0) hp hq.2 a3.1 a3.2 a4.1 a4.2 (by omega)
      have hlt : a (tb t i j) * a 0 % q < q := Nat.mod_lt _ (by omega)
      have hiv := ivn_lt (p := q) (c := a (tb t i j) * a 0 % q) hq.1
      have hu : a i * a j % q < q := Nat.mod_lt _ (by omega)
      simp only [dlt_nat, hj, decide_true, cond_true]
      rw [chk_in (by omega), chk_in (by omega), e5, lz_length, chk_in (by omega), chk_in (by omega), nz_in (by omega), chk_in (by omega), chk_in (by omega), lz_gt _ hij, g0, lz_gt _ hi, lz_gt _ hj, mulmod (by omega) (by omega), mulmod (by omega) (by omega), specInv hp hq.2 hm.1 hlt, Option.bind_some, mulmod (by omega) (by omega), small_in (by rw [lz_length]; simp; omega), w64_succ (by omega), lz_succ]
      rfl) (by
      unfold spec_CoboundaryOf.b1
      simp)
    have hin' : loop1 (spec_CoboundaryOf.b1 n i t (lz n a) q) ([], 0) = some (lz n (cellC q t a i), (n : Int)) := hin
    rw [hin']
    simp only [Option.bind_some]
    rw [small_in (by simp [rowsC]; omega), w64_succ (by omega), rowsC_succ]
  · unfold spec_CoboundaryOf.b2
    simp
theorem implRows : loop1 (impl_CoboundaryOf.b1 (lz n a) q n t (ivn q (a 0) : Int)) ([], 0) = some (rowsC n q t a n, (n : Int)) := by
  refine loop1_upto (f := impl_CoboundaryOf.b1 (lz n a) q n t (ivn q (a 0) : Int)) (fun i => (rowsC n q t a i, (i : Int))) n _ (by omega) (fun i hi => ?_) ?_
  · unfold impl_CoboundaryOf.b1
    simp only [lz_length, dlt_nat, hi, decide_true, cond_true]
    rw [chk_in (by omega)]
    have hin := loop1_upto (f := impl_CoboundaryOf.b0 (lz n a) q n t i (ivn q (a 0) : Int)) (fun j => (lz j (cellC q t a i), (j : Int))) n (lz n (cellC q t a i), (n : Int)) (by omega) (fun j hj => by
      unfold impl_CoboundaryOf.b0
      have hij := he i j hi hj
      have a1 := ha i hi
      have a2 := ha j hj
      have a3 := ha _ hij
      have a4 := ha 0 (by omega)
      have hu : a i * a j % q < q := Nat.mod_lt _ (by omega)
      have hm := invMul (u := a i * a j % q) hp hq.2 a3.1 a3.2 a4.1 a4.2 hu
      have hiv := ivn_lt (p := q) (c := a (tb t i j)) hq.1
      have hiv0 := ivn_lt (p := q) (c := a 0) hq.1
      have hu2 : a i * a j % q * ivn q (a (tb t i j)) % q < q := Nat.mod_lt _ (by omega)
      simp only [lz_length, dlt_nat, hj, decide_true, cond_true]
      rw [chk_in (by omega), nz_in (by omega), times_eq _ _ (by omega) (by omega), Option.bind_some, chk_in (by omega), lz_gt _ hij, implInv hp hq.2 a3.1 a3.2, Option.bind_some, lz_gt _ hi, lz_gt _ hj, mulmod (by omega) (by omega), mulmod (by omega) (by omega), mulmod (by omega) (by omega), hm.2, small_in (by simp; omega), w64_succ (by omega), lz_succ]
      rfl) (by
      unfold impl_CoboundaryOf.b0
      simp [lz_length])
    have hin' : loop1 (impl_CoboundaryOf.b0 (lz n a) q n t i (ivn q (a 0) : Int)) ([], 0) = some (lz n (cellC q t a i), (n : Int)) := hin
    rw [hin']
    simp only [Option.bind_some]
    rw [small_in (by simp [rowsC]; omega), w64_succ (by omega), rowsC_succ]
  · unfold impl_CoboundaryOf.b1
    simp [lz_length]
end
theorem cb_same (p g : Int) (t : Nat → UInt8) (l : List Int) (hl : l.length ≤ 1048576) : ∃ o e, spec_CoboundaryOf.f p g t l = some (o, e) ∧ impl_CoboundaryOf.f p g t l = some (o, e) ∧ o.length ≤ 6 ∧ ∀ r ∈ o, r.length ≤ 6 := by
  obtain ⟨c, h1, h2, h3, h4⟩ := primed_same p g t
  unfold spec_CoboundaryOf.f impl_CoboundaryOf.f
  rw [h1, h2]
  simp only [Option.bind_some]
  by_cases hc : c = 0
  · subst hc
    obtain ⟨n, q, rfl, k1, k2, k3, rfl, k4, k5, k6⟩ := h4 rfl
    simp only [gn_eq, Option.bind_some]
    have ez : ((0 : Int) != 0) = false := rfl
    have ez2 : ((0 : Int) == 0) = true := rfl
    rw [ez, cond_false, ez2, Bool.true_and]
    by_cases hln : l.length = n
    · have e1 : ((l.length : Int) != (n : Int)) = false := by rw [hln]; simp
      rw [e1]
      simp only [cond_false, Option.bind_some]
      obtain ⟨k, hk⟩ := cb_check l (p := (q : Int)) (by omega) hl
      rw [hk]
      have hcf := hasInts l (by omega) (fun x0_ => impl_CoboundaryOf_1.f x0_ q) (badV q) (fun x _ => by
        unfold impl_CoboundaryOf_1.f impl_in.f
        rw [w64_in (x := (q : Int) - 1) (by omega)]
        rfl)
      rw [hcf]
      simp only [Option.bind_some]
      cases hb : l.any (badV q) with
      | true => exact ⟨_, _, rfl, rfl, by simp, by simp⟩
      | false =>
        have hgood : ∀ i, i < n → 1 ≤ (gt l (i : Int)).toNat ∧ (gt l (i : Int)).toNat < q ∧ gt l (i : Int) = ((gt l (i : Int)).toNat : Int) := by
          intro i hi
          rw [List.any_eq_false] at hb
          have := hb (gt l (i : Int)) (by rw [gt_ix (by omega)]; exact List.getElem_mem _)
          unfold badV at this
          simp only [Bool.not_eq_true, Bool.not_eq_false', Bool.and_eq_true, decide_eq_true_eq] at this
          omega
        have el : l = lz n (fun i => (gt l (i : Int)).toNat) := by
          apply List.ext_getElem?
          intro i
          by_cases hi : i < n
          · have := (hgood i hi).2.2
            rw [List.getElem?_eq_getElem (by omega), ← gt_ix (by omega)]
            simp only [lz, List.getElem?_map, List.getElem?_range hi, Option.map_some]
            rw [← this]
          · rw [List.getElem?_eq_none (by omega), List.getElem?_eq_none (by rw [lz_length]; omega)]
        have hent : ∀ i j, i < n → j < n → tb t i j < n := by
          intro i j hi hj
          unfold groupB at k3
          simp only [Bool.and_eq_true, Bool.not_eq_true'] at k3
          exact badEs_entry k3.1 hi hj k2
        have ha : ∀ i, i < n → 1 ≤ (fun i : Nat => (gt l (i : Int)).toNat) i ∧ (fun i : Nat => (gt l (i : Int)).toNat) i < q := fun i hi => ⟨(hgood i hi).1, (hgood i hi).2.1⟩
        generalize hA : (fun i : Nat => (gt l (i : Int)).toNat) = A at el ha
        subst el
        have a4 := ha 0 (by omega)
        have g0 : gt (lz n A) 0 = (A 0 : Int) := lz_gt (k := 0) A (by omega)
        simp only [Bool.false_eq_true, if_false, cond_false]
        rw [ez]
        simp only [cond_false]
        rw [specRows k1 k2 hent k4 ⟨k5, k6⟩ ha, lz_length, chk_in (by omega), g0, implInv k4 k6 a4.1 a4.2]
        simp only [Option.bind_some]
        rw [implRows k1 k2 hent k4 ⟨k5, k6⟩ ha]
        refine ⟨_, _, rfl, rfl, by simp [rowsC]; omega, ?_⟩
        intro r hr
        obtain ⟨i, _, rfl⟩ := List.mem_map.1 hr
        rw [lz_length]; omega
    · have e1 : ((l.length : Int) != (n : Int)) = true := by simp; omega
      rw [e1]
      simp only [cond_true, Option.bind_some]
      rw [cb_stop l q (by omega)]
      exact ⟨_, _, rfl, rfl, by simp, by simp⟩
  · have e1 : (c == 0) = false := by simpa using hc
    have e2 : (c != 0) = true := by simpa using hc
    rw [e1, e2, Bool.false_and]
    simp only [cond_false, cond_true, Option.bind_some]
    rw [cb_stop l p hc]
    simp only [Option.bind_some, e2, cond_true]
    exact ⟨_, _, rfl, rfl, by simp, by simp⟩
theorem plain_FnExactCoboundaryOf (p g : Int) (t : Nat → UInt8) (l : List Int) (_wp : IntKind.i64.has p) (_wg : IntKind.i64.has g) (_w : ∀ x ∈ l, IntKind.i64.has x) (_z : l.length * 8 ≤ 140737488351232) : laws_FnExactCoboundaryOf.f p g t l = some true := by
  unfold laws_FnExactCoboundaryOf.f
  by_cases hl : (l.length : Int) > 1048576
  · rw [decide_eq_true hl]; rfl
  · rw [decide_eq_false hl, cond_false]
    have hl' : l.length ≤ 1048576 := by omega
    obtain ⟨o, e, e1, e2, e3, e4⟩ := cb_same p g (cut0 36 t) l hl'
    have b1 := eqS_refl l (by omega)
    have b2 := eqSS_refl o (by omega) (fun r hr => by have := e4 r hr; omega)
    have t2 : tot 1 o ≤ 100 := by
      have := sum_le_mul 6 o e4
      rw [tot_eq]; omega
    have m1 : laws_markInt64S.f l 1 = some (((1 + l.length : Nat) : Int), iota 1 l.length) := markS l 1 (by omega)
    have m2 : laws_markInt64SS.f o 1 = some ((tot 1 o : Int), marks 1 o) := markSS o 1 (by omega) (by omega)
    have m3 : laws_heldInt64SS.f (marks 1 o) 1 = some (tot 1 o : Int) := heldSS o 1 (by omega) (by omega)
    have d1 : decide (((1 + l.length : Nat) : Int) < 0) = false := decide_eq_false (by omega)
    have d2 : decide ((tot 1 o : Int) < 0) = false := decide_eq_false (by omega)
    have n1 : (e != e) = false := by simp
    have n2 : ((tot 1 o : Int) != (tot 1 o : Int)) = false := by simp
    simp only [toGroup_eq, toS l hl', Option.bind_some, e1, e2, b1, b2, m1, m2, m3, d1, d2, n1, n2, Bool.not_true, Bool.or_false, cond_false]
end Go.Proofs.Ytcombgcjgdkbiaa.G
