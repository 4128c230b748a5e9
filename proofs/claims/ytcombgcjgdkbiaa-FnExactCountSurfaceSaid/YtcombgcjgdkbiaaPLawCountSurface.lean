/- The law of CountSurface tells true. -/
import Derived.Test.YtcombgcjgdkbiaaPLawCountSquares
import Derived.Test.YtcombgcjgdkbiaaQ7
namespace Go.Proofs.Ytcombgcjgdkbiaa.G
open Go Go.Sx Go.Proofs
structure Grp (n : Nat) (t : Nat → UInt8) : Prop where
  ent : Ent n t
  one : ∀ i, i < n → tb t 0 i = i ∧ tb t i 0 = i
  inv : ∀ i, i < n → ∃ j, j < n ∧ tb t i j = 0 ∧ tb t j i = 0
  assoc : ∀ i j k, i < n → j < n → k < n → tb t (tb t i j) k = tb t i (tb t j k)
theorem grp_of {n : Nat} {t : Nat → UInt8} (hn : n ≤ 6) (h : groupB n t = true) : Grp n t := by
  have he := ent_of hn h
  unfold groupB at h
  simp only [Bool.and_eq_true, Bool.not_eq_true'] at h
  have h2 := h.2
  rw [List.any_eq_false] at h2
  have key : ∀ i, i < n → unitB t i = false ∧ invB n t i = true ∧ assocBs n t i = false := by
    intro i hi
    have := h2 i (List.mem_range.2 hi)
    simp only [Bool.not_eq_true, Bool.or_eq_false_iff, Bool.not_eq_false'] at this
    exact ⟨this.1.1, this.1.2, this.2⟩
  refine ⟨he, fun i hi => ?_, fun i hi => ?_, fun i j k hi hj hk => ?_⟩
  · have := (key i hi).1
    unfold unitB at this
    simpa using this
  · have := (key i hi).2.1
    unfold invB at this
    obtain ⟨j, hj, hb⟩ := List.any_eq_true.1 this
    exact ⟨j, List.mem_range.1 hj, by simpa using hb⟩
  · have := (key i hi).2.2
    unfold assocBs at this
    rw [List.any_eq_false] at this
    have h3 := this j (List.mem_range.2 hj)
    simp only [Bool.not_eq_true] at h3
    rw [List.any_eq_false] at h3
    have h4 := h3 k (List.mem_range.2 hk)
    unfold assocB at h4
    simpa using h4
theorem Grp.uniq {n : Nat} {t : Nat → UInt8} (h : Grp n t) {i j k : Nat} (hi : i < n) (hj : j < n) (hk : k < n) (h1 : tb t i j = 0) (h2 : tb t k i = 0) : j = k := by
  have e1 := h.assoc k i j hk hi hj
  rw [h2, h1, (h.one j hj).1, (h.one k hk).2] at e1
  exact e1
/-- One inverse, told by both. -/
theorem Grp.inverse {n : Nat} {t : Nat → UInt8} (h : Grp n t) (hn : n ≤ 6) {i : Nat} (hi : i < n) : ∃ j, j < n ∧ tb t i j = 0 ∧ spec_l06Inverse.f n t i = some (j : Int) ∧ impl_Group_inverse.f n t i = some (j : Int) := by
  obtain ⟨k, hk, k1, k2⟩ := h.inv i hi
  refine ⟨k, hk, k1, ?_, ?_⟩
  · unfold spec_l06Inverse.f
    have hl := loop_find (f := spec_l06Inverse.b0 n i t) (fun j => (j : Int)) n (fun j => decide (tb t i j = 0)) (fun j => (j : Int)) (n : Int) (by omega) (fun j hj => by
      unfold spec_l06Inverse.b0
      simp only [dlt_nat, hj, decide_true, cond_true]
      rw [chk_in (by omega), chk_in (by omega), u8z', w64_succ (by omega)]
      have e : decide ((t (((i : Nat) : Int).toNat * 6 + ((j : Nat) : Int).toNat)).toNat = 0) = decide (tb t i j = 0) := rfl
      rw [e]
      cases decide (tb t i j = 0) <;> rfl) (by
      unfold spec_l06Inverse.b0
      simp)
    have hf : (List.range n).find? (fun j => decide (tb t i j = 0)) = some k := by
      cases hc : (List.range n).find? (fun j => decide (tb t i j = 0)) with
      | none => have := List.find?_eq_none.1 hc k (List.mem_range.2 hk); simp [k1] at this
      | some j =>
        have a1 := List.mem_range.1 (List.mem_of_find?_eq_some hc)
        have a2 := List.find?_some hc
        rw [h.uniq hi a1 hk (by simpa using a2) k2]
    rw [hf] at hl
    have hl' : loop (spec_l06Inverse.b0 n i t) 0 = some (.ret (k : Int)) := hl
    rw [hl']; rfl
  · unfold impl_Group_inverse.f
    rw [gn_eq, Option.bind_some]
    have hl := loop_find (f := impl_Group_inverse.b0 n n t i) (fun j => (j : Int)) n (fun j => decide (tb t i j = 0 ∧ tb t j i = 0)) (fun j => (j : Int)) (n : Int) (by omega) (fun j hj => by
      unfold impl_Group_inverse.b0
      simp only [dlt_nat, hj, decide_true, cond_true]
      rw [times_eq _ _ (by omega) (by omega), times_eq _ _ (by omega) (by omega)]
      simp only [Option.bind_some, beq_nat0, w64_succ (by omega : j < 4611686018427387904)]
      by_cases c1 : tb t i j = 0 <;> by_cases c2 : tb t j i = 0 <;> simp [c1, c2]) (by
      unfold impl_Group_inverse.b0
      simp)
    have hf : (List.range n).find? (fun j => decide (tb t i j = 0 ∧ tb t j i = 0)) = some k := by
      cases hc : (List.range n).find? (fun j => decide (tb t i j = 0 ∧ tb t j i = 0)) with
      | none => have := List.find?_eq_none.1 hc k (List.mem_range.2 hk); simp [k1, k2] at this
      | some j =>
        have a1 := List.mem_range.1 (List.mem_of_find?_eq_some hc)
        have a2 := List.find?_some hc
        simp only [decide_eq_true_eq] at a2
        rw [h.uniq hi a1 hk a2.1 k2]
    rw [hf] at hl
    have hl' : loop (impl_Group_inverse.b0 n n t i) 0 = some (.ret (k : Int)) := hl
    rw [hl']; rfl
theorem Grp.iv {n : Nat} {t : Nat → UInt8} (h : Grp n t) (hn : n ≤ 6) : ∃ iv : Nat → Nat, ∀ i, i < n → iv i < n ∧ spec_l06Inverse.f n t i = some (iv i : Int) ∧ impl_Group_inverse.f n t i = some (iv i : Int) := by
  refine ⟨fun i => if hi : i < n then Classical.choose (h.inverse hn hi) else 0, fun i hi => ?_⟩
  have := Classical.choose_spec (h.inverse hn hi)
  simp only [hi, dif_pos]
  exact ⟨this.1, this.2.2.1, this.2.2.2⟩
def com (t : Nat → UInt8) (iv : Nat → Nat) (a b : Nat) : Nat := tb t (tb t a b) (tb t (iv a) (iv b))
theorem times4 {n : Nat} {t : Nat → UInt8} (h : Grp n t) (hn : n ≤ 6) {iv : Nat → Nat} {a b : Nat} (ha : a < n) (hb : b < n) (ia : iv a < n) (ib : iv b < n) :
    spec_l06Times.f n t [(a : Int), (b : Int), (iv a : Int), (iv b : Int)] = some (com t iv a b : Int) := by
  unfold spec_l06Times.f
  have hab := h.ent a b ha hb
  have h3 := h.ent _ _ hab ia
  have key : ∀ (o : Nat) (i : Nat) (v : Nat), i < 4 → o < 6 → v < 6 → gt [(a : Int), (b : Int), (iv a : Int), (iv b : Int)] (i : Int) = (v : Int) → spec_l06Times.b0 [(a : Int), (b : Int), (iv a : Int), (iv b : Int)] t ((o : Int), (i : Int)) = some (.next ((tb t o v : Int), ((i + 1 : Nat) : Int))) := by
    intro o i v hi ho hv hg
    unfold spec_l06Times.b0
    have hl : (([(a : Int), (b : Int), (iv a : Int), (iv b : Int)].length : Nat) : Int) = ((4 : Nat) : Int) := rfl
    simp only [hl, dlt_nat, hi, decide_true, cond_true]
    rw [chk_in (by simp; omega), chk_in (by omega), hg, chk_in (by omega), w64_succ (by omega)]
    rfl
  have hl := loop1_upto (f := spec_l06Times.b0 [(a : Int), (b : Int), (iv a : Int), (iv b : Int)] t)
    (fun i => (((match i with | 0 => 0 | 1 => a | 2 => tb t a b | 3 => tb t (tb t a b) (iv a) | _ => com t iv a b : Nat) : Int), (i : Int))) 4 ((com t iv a b : Int), 4) (by omega) (fun i hi => by
      match i, hi with
      | 0, _ =>
        have := key 0 0 a (by omega) (by omega) (by omega) rfl
        rw [(h.one a ha).1] at this
        exact this
      | 1, _ => exact key a 1 b (by omega) (by omega) (by omega) rfl
      | 2, _ => exact key (tb t a b) 2 (iv a) (by omega) (by omega) (by omega) rfl
      | 3, _ =>
        have := key (tb t (tb t a b) (iv a)) 3 (iv b) (by omega) (by omega) (by omega) rfl
        rw [h.assoc _ _ _ hab ia ib] at this
        exact this) (by
      unfold spec_l06Times.b0
      rfl)
  have hl' : loop1 (spec_l06Times.b0 [(a : Int), (b : Int), (iv a : Int), (iv b : Int)] t) (0, 0) = some ((com t iv a b : Int), 4) := hl
  rw [hl']; rfl
def cmRow (t : Nat → UInt8) (iv : Nat → Nat) (a : Nat) (c : Nat → Nat) : Nat → (Nat → Nat)
  | 0 => c
  | j + 1 => bump (cmRow t iv a c j) (com t iv a j) 1
def cmAll (n : Nat) (t : Nat → UInt8) (iv : Nat → Nat) : Nat → (Nat → Nat)
  | 0 => fun _ => 0
  | i + 1 => cmRow t iv i (cmAll n t iv i) n
section
variable {n : Nat} {t : Nat → UInt8} {iv : Nat → Nat}
theorem com_lt (h : Grp n t) (hiv : ∀ i, i < n → iv i < n) {a b : Nat} (ha : a < n) (hb : b < n) : com t iv a b < n := h.ent _ _ (h.ent a b ha hb) (h.ent _ _ (hiv a ha) (hiv b hb))
theorem sm_cmRow (h : Grp n t) (hiv : ∀ i, i < n → iv i < n) {a : Nat} (ha : a < n) (c : Nat → Nat) : ∀ {j}, j ≤ n → sm (cmRow t iv a c j) n = sm c n + j
  | 0, _ => rfl
  | j + 1, hj => by simp only [cmRow]; rw [sm_bump _ (com_lt h hiv ha (by omega)), sm_cmRow h hiv ha c (by omega)]; omega
theorem sm_cmAll (h : Grp n t) (hiv : ∀ i, i < n → iv i < n) : ∀ {i}, i ≤ n → sm (cmAll n t iv i) n = i * n
  | 0, _ => by simp [cmAll, sm_zero]
  | i + 1, hi => by simp only [cmAll]; rw [sm_cmRow h hiv (by omega) _ (Nat.le_refl _), sm_cmAll h hiv (by omega), Nat.add_mul]; omega
theorem cm_small (h : Grp n t) (hn : n ≤ 6) (hiv : ∀ i, i < n → iv i < n) {a j : Nat} (ha : a < n) (hj : j < n) : cmRow t iv a (cmAll n t iv a) j (com t iv a j) + 1 < 4611686018427387904 := by
  have h1 := sm_cmRow h hiv ha (cmAll n t iv a) (j := j) (by omega)
  have h2 := sm_cmAll h hiv (i := a) (by omega)
  have h3 := le_sm (cmRow t iv a (cmAll n t iv a) j) (com_lt h hiv ha hj)
  have h4 : a * n ≤ 6 * 6 := Nat.mul_le_mul (by omega) hn
  omega
theorem specCom (h : Grp n t) (hn : n ≤ 6) (hiv : ∀ i, i < n → iv i < n ∧ spec_l06Inverse.f n t i = some (iv i : Int) ∧ impl_Group_inverse.f n t i = some (iv i : Int)) : spec_l06Commutators.f n t = some (cz (cmAll n t iv n)) := by
  have hv : ∀ i, i < n → iv i < n := fun i hi => (hiv i hi).1
  unfold spec_l06Commutators.f
  have ho := loop1_upto (f := spec_l06Commutators.b1 n t) (fun i => (cz (cmAll n t iv i), (i : Int))) n (cz (cmAll n t iv n), (n : Int)) (by omega) (fun a ha => by
    unfold spec_l06Commutators.b1
    simp only [dlt_nat, ha, decide_true, cond_true]
    have hi := loop1_upto (f := spec_l06Commutators.b0 n t a) (fun j => (cz (cmRow t iv a (cmAll n t iv a) j), (j : Int))) n (cz (cmRow t iv a (cmAll n t iv a) n), (n : Int)) (by omega) (fun j hj => by
      unfold spec_l06Commutators.b0
      simp only [dlt_nat, hj, decide_true, cond_true]
      rw [(hiv a ha).2.1, (hiv j hj).2.1, Option.bind_some, Option.bind_some, times4 h hn ha hj (hv a ha) (hv j hj), Option.bind_some]
      have hc := com_lt h hv ha hj
      rw [chk_in (by omega), w64_succ (by omega), Int.toNat_natCast]
      have := cz_bump (cmRow t iv a (cmAll n t iv a) j) (k := com t iv a j) (v := 1) (cm_small h hn hv ha hj)
      rw [show ((1 : Nat) : Int) = 1 from rfl] at this
      rw [this]; rfl) (by
      unfold spec_l06Commutators.b0
      simp)
    have hi' : loop1 (spec_l06Commutators.b0 n t a) (cz (cmAll n t iv a), 0) = some (cz (cmRow t iv a (cmAll n t iv a) n), (n : Int)) := hi
    rw [hi']
    simp only [Option.bind_some, w64_succ (by omega : a < 4611686018427387904)]
    rfl) (by
    unfold spec_l06Commutators.b1
    simp)
  have ho' : loop1 (spec_l06Commutators.b1 n t) ((fun _ => 0), 0) = some (cz (cmAll n t iv n), (n : Int)) := ho
  rw [ho']; rfl
theorem implCom (h : Grp n t) (hn : n ≤ 6) (hiv : ∀ i, i < n → iv i < n ∧ spec_l06Inverse.f n t i = some (iv i : Int) ∧ impl_Group_inverse.f n t i = some (iv i : Int)) : loop1 (impl_CountSurface.b1 n n t) (List.replicate n 0, 0) = some (clz n (cmAll n t iv n), (n : Int)) := by
  have hv : ∀ i, i < n → iv i < n := fun i hi => (hiv i hi).1
  have ho := loop1_upto (f := impl_CountSurface.b1 n n t) (fun i => (clz n (cmAll n t iv i), (i : Int))) n (clz n (cmAll n t iv n), (n : Int)) (by omega) (fun a ha => by
    unfold impl_CountSurface.b1
    simp only [dlt_nat, ha, decide_true, cond_true, gn_eq, Option.bind_some]
    have hi := loop1_upto (f := impl_CountSurface.b0 n n t a) (fun j => (clz n (cmRow t iv a (cmAll n t iv a) j), (j : Int))) n (clz n (cmRow t iv a (cmAll n t iv a) n), (n : Int)) (by omega) (fun j hj => by
      unfold impl_CountSurface.b0
      have e1 := h.ent a j ha hj
      have e2 := h.ent _ _ (hv a ha) (hv j hj)
      have v1 := hv a ha
      have v2 := hv j hj
      simp only [dlt_nat, hj, decide_true, cond_true]
      rw [times_eq _ _ (by omega) (by omega), Option.bind_some, (hiv a ha).2.2, Option.bind_some, (hiv j hj).2.2, Option.bind_some, times_eq _ _ (by omega) (by omega), Option.bind_some, times_eq _ _ (by omega) (by omega), Option.bind_some, clz_length]
      have hc := com_lt h hv ha hj
      have hcc : tb t (tb t a j) (tb t (iv a) (iv j)) = com t iv a j := rfl
      rw [hcc, chk_in (by omega), w64_succ (by omega)]
      have := clz_bump (cmRow t iv a (cmAll n t iv a) j) (k := com t iv a j) (v := 1) hc (cm_small h hn hv ha hj)
      rw [show ((1 : Nat) : Int) = 1 from rfl] at this
      rw [this]; rfl) (by
      unfold impl_CountSurface.b0
      simp)
    have hi' : loop1 (impl_CountSurface.b0 n n t a) (clz n (cmAll n t iv a), 0) = some (clz n (cmRow t iv a (cmAll n t iv a) n), (n : Int)) := hi
    rw [hi']
    simp only [Option.bind_some, w64_succ (by omega : a < 4611686018427387904)]
    rfl) (by
    unfold impl_CountSurface.b1
    simp)
  rw [rep_clz]
  exact ho
end
theorem pw36 : ∀ k, k < 8 → (36 : Nat) ^ (k + 1) ≤ 2821109907456 := by decide
theorem surf_b1 : spec_CountSurface.b1 = spec_CountSquares.b1 := rfl
theorem sf_same (g : Int) (t : Nat → UInt8) (h : Int) : ∃ r, spec_CountSurface.f g t h = some r ∧ impl_CountSurface.f g t h = some r := by
  obtain ⟨b, h1, h2, h3⟩ := isGroup_same g t
  unfold spec_CountSurface.f impl_CountSurface.f
  rw [h1, h2]
  cases b with
  | false => exact ⟨_, rfl, rfl⟩
  | true =>
    obtain ⟨n, rfl, k1, k2, k3⟩ := h3 rfl
    have hg := grp_of k2 k3
    have he := hg.ent
    obtain ⟨iv, hiv⟩ := hg.iv k2
    simp only [Option.bind_some, Bool.not_true, cond_false, in_eq, l01In_eq, gn_eq]
    by_cases hh : 0 ≤ h ∧ h ≤ 8
    · obtain ⟨m, rfl⟩ := Int.eq_ofNat_of_zero_le hh.1
      have hm : m ≤ 8 := by omega
      have hin : (decide ((m : Int) ≥ 0) && decide ((m : Int) ≤ 8)) = true := by simp; omega
      rw [hin]
      simp only [Bool.not_true, cond_false]
      rw [specCom hg k2 hiv]
      have hS : sm (cmAll n t iv n) n = n * n := sm_cmAll hg (fun i hi => (hiv i hi).1) (Nat.le_refl _)
      have hnn : n * n ≤ 36 := Nat.mul_le_mul k2 k2
      have hpow : ∀ k, k < m → (n * n) ^ (k + 1) < 4611686018427387904 := fun k hk => by
        have h1 := Nat.pow_le_pow_left hnn (k + 1)
        have h2 := pw36 k (by omega)
        omega
      have hspec : loop1 (spec_CountSurface.b2 n t (cz (cmAll n t iv n))) ((m : Int), upd (fun _ => 0) 0 1) = some (0, cz (pw t n (cmAll n t iv n) m)) := by
        refine downLoop m (by omega) (fun x k hk hx => ?_) (fun y => ?_)
        · unfold spec_CountSurface.b2
          have hd : decide ((((x + 1 : Nat)) : Int) > 0) = true := decide_eq_true (by omega)
          simp only [hd, cond_true]
          have hb := hpow k hk
          rw [Nat.pow_succ] at hb
          rw [surf_b1, specAll he k2 (by rw [sm_pw he k1, hS]; exact hb)]
          simp only [Option.bind_some]
          rw [w64_pred (by omega)]
          rfl
        · unfold spec_CountSurface.b2
          simp
      have himpl := implCom hg k2 hiv
      simp only [Option.bind_some, grd, Int.toNat_natCast]
      rw [hspec, show decide ((0 : Int) ≤ (n : Int)) = true by simp, cond_true, small_in (by omega), himpl]
      simp only [Option.bind_some]
      rw [products_eq he k1 k2 _ m (by omega) (by rw [hS]; exact hpow), Option.bind_some, clz_length, chk_in (by omega)]
      have g0 : gt (clz n (pw t n (cmAll n t iv n) m)) 0 = (pw t n (cmAll n t iv n) m 0 : Int) := clz_gt (k := 0) _ (by omega)
      have g1 : cz (pw t n (cmAll n t iv n) m) 0 = (pw t n (cmAll n t iv n) m 0 : Int) := rfl
      rw [g0]
      unfold impl_counted.f
      show ∃ r, (bif decide ((pw t n (cmAll n t iv n) m 0 : Int) > 1000000000000) then some (0, 3) else some ((pw t n (cmAll n t iv n) m 0 : Int), 0)) = some r ∧ _ = some r
      cases decide ((pw t n (cmAll n t iv n) m 0 : Int) > 1000000000000) <;> exact ⟨_, rfl, rfl⟩
    · have hin : (decide (h ≥ 0) && decide (h ≤ 8)) = false := by
        rw [Bool.and_eq_false_iff]
        simp only [decide_eq_false_iff_not]
        omega
      rw [hin]
      exact ⟨_, rfl, rfl⟩
theorem plain_FnExactCountSurface (g : Int) (t : Nat → UInt8) (h : Int) (_w : IntKind.i64.has g) (_w2 : IntKind.i64.has h) : laws_FnExactCountSurface.f g t h = some true := by
  obtain ⟨r, h1, h2⟩ := sf_same g (cut0 36 t) h
  unfold laws_FnExactCountSurface.f
  simp only [toGroup_eq, Option.bind_some, h1, h2]
  simp
end Go.Proofs.Ytcombgcjgdkbiaa.G
