/- The law of CountHomomorphisms tells true. -/
import Derived.Test.YtcombgcjgdkbiaaPProducts
import Derived.Test.YtcombgcjgdkbiaaPCopy
import Derived.Test.YtcombgcjgdkbiaaQ6
namespace Go.Proofs.Ytcombgcjgdkbiaa.G
open Go Go.Sx Go.Proofs
/-- A loop that goes on while all is good. -/
theorem loopGood {f : Bool × Int → Option (LB (Bool × Int))} {n : Nat} (bad : Nat → Bool) (hn : n < 1000000)
    (hs : ∀ j, j < n → f (true, (j : Int)) = some (.next (!bad j, ((j + 1 : Nat) : Int)))) (hb : ∀ j : Int, f (false, j) = some (.brk (false, j))) (he : f (true, (n : Int)) = some (.brk (true, (n : Int)))) :
    ∃ k, loop1 f (true, 0) = some (!(List.range n).any bad, k) := by
  have key : ∀ d i, i + d = n → ∃ k, loopN (ρ := Empty) (fun s => (f s).map LB.lr) (d + 2) (true, (i : Int)) = some (.brk (!(List.range' i d).any bad, k)) := by
    intro d
    induction d with
    | zero =>
      intro i hi
      obtain rfl : i = n := by omega
      exact ⟨_, by simp only [loopN, he]; rfl⟩
    | succ d ih =>
      intro i hi
      rw [loopN, hs i (by omega), List.range'_succ, List.any_cons]
      simp only [Option.map_some, LB.lr]
      cases hbi : bad i with
      | true => exact ⟨_, by simp only [loopN, Bool.not_true, hb]; rfl⟩
      | false =>
        obtain ⟨k, hk⟩ := ih (i + 1) (by omega)
        exact ⟨k, by simpa using hk⟩
  obtain ⟨k, hk⟩ := key n 0 (by omega)
  have hle : n + 2 ≤ 4611686018427387904 := by omega
  rw [← List.range_eq_range'] at hk
  exact ⟨k, loop1_of (loop_of hk hle)⟩
theorem w64_nat {a : Nat} (h : a < 4611686018427387904) : w64 (a : Int) = (a : Int) := w64_in (by omega)
def dg (m x i : Nat) : Nat := x / m ^ i % m
theorem dg_lt {m x i : Nat} (h : 1 ≤ m) : dg m x i < m := Nat.mod_lt _ h
def badH (m : Nat) (tg th : Nat → UInt8) (x i j : Nat) : Bool := decide (dg m x (tb tg i j) ≠ tb th (dg m x i) (dg m x j))
def badHs (n m : Nat) (tg th : Nat → UInt8) (x : Nat) : Bool := (List.range n).any fun i => (List.range n).any fun j => badH m tg th x i j
def homs (n m : Nat) (tg th : Nat → UInt8) (k : Nat) : Nat := (List.range k).countP fun x => !badHs n m tg th x
theorem homs_succ (n m : Nat) (tg th : Nat → UInt8) (k : Nat) : homs n m tg th (k + 1) = homs n m tg th k + (bif badHs n m tg th k then 0 else 1) := by
  unfold homs
  rw [List.range_succ, List.countP_append]
  cases h : badHs n m tg th k <;> simp [h]
theorem homs_le (n m : Nat) (tg th : Nat → UInt8) (k : Nat) : homs n m tg th k ≤ k := by
  have := List.countP_le_length (p := fun x => !badHs n m tg th x) (l := List.range k)
  simpa [homs] using this
theorem tdiv_nat (a b : Nat) : Int.tdiv (a : Int) (b : Int) = ((a / b : Nat) : Int) := by rw [Int.tdiv_eq_ediv_of_nonneg (by omega)]; rfl
theorem tmod_nat (a b : Nat) : Int.tmod (a : Int) (b : Int) = ((a % b : Nat) : Int) := by rw [Int.tmod_eq_emod_of_nonneg (by omega)]; rfl
theorem dg_next (m x i : Nat) : x / m ^ i / m = x / m ^ (i + 1) := by rw [Nat.div_div_eq_div_mul, Nat.pow_succ]
section
variable {n m : Nat} {tg th : Nat → UInt8}
def dcut (m x i : Nat) : Nat → Nat := fun q => if q < i then dg m x q else 0
theorem specDig (hn : n ≤ 6) (h1 : 1 ≤ m) (x : Nat) (hx : x < 4611686018427387904) : loop1 (spec_CountHomomorphisms.b1 n m) ((fun _ => 0), (x : Int), 0) = some (cz (dcut m x n), ((x / m ^ n : Nat) : Int), (n : Int)) := by
  have h := loop1_upto (f := spec_CountHomomorphisms.b1 n m) (fun i => (cz (dcut m x i), ((x / m ^ i : Nat) : Int), (i : Int))) n (cz (dcut m x n), ((x / m ^ n : Nat) : Int), (n : Int)) (by omega) (fun i hi => by
    unfold spec_CountHomomorphisms.b1
    simp only [dlt_nat, hi, decide_true, cond_true]
    have hd : x / m ^ i ≤ x := Nat.div_le_self _ _
    have hd2 : x / m ^ i / m ≤ x := Nat.le_trans (Nat.div_le_self _ _) hd
    rw [nz_in (by omega), chk_in (by omega), tmod_nat, tdiv_nat, w64_succ (by omega), w64_nat (Nat.lt_of_le_of_lt hd2 hx), dg_next, Int.toNat_natCast]
    have e : upd (cz (dcut m x i)) i ((x / m ^ i % m : Nat) : Int) = cz (dcut m x (i + 1)) := by
      funext q
      simp only [upd, cz, dcut]
      by_cases hq : q = i
      · subst hq; simp [dg]
      · rw [if_neg hq]
        by_cases hqi : q < i
        · rw [if_pos hqi, if_pos (by omega)]
        · rw [if_neg hqi, if_neg (by omega)]
    rw [e]) (by
    unfold spec_CountHomomorphisms.b1
    simp)
  have e : (fun _ => (0 : Int)) = cz (dcut m x 0) := by funext q; simp [cz, dcut]
  rw [e]
  simpa using h
theorem implDig (hn : n ≤ 6) (h1 : 1 ≤ m) (x : Nat) (hx : x < 4611686018427387904) (l : List Int) (hl : l.length = n) : loop1 (impl_CountHomomorphisms.b0 l m) (l, (x : Int), 0) = some (clz n (dg m x), ((x / m ^ n : Nat) : Int), (n : Int)) := by
  have h := loop1_upto (f := impl_CountHomomorphisms.b0 l m) (fun i => ((List.range n).map (fun q => if q < i then (dg m x q : Int) else l.getD q 0), ((x / m ^ i : Nat) : Int), (i : Int))) n (clz n (dg m x), ((x / m ^ n : Nat) : Int), (n : Int)) (by omega) (fun i hi => by
    unfold impl_CountHomomorphisms.b0
    simp only [hl, dlt_nat, hi, decide_true, cond_true]
    have hd : x / m ^ i ≤ x := Nat.div_le_self _ _
    have hd2 : x / m ^ i / m ≤ x := Nat.le_trans (Nat.div_le_self _ _) hd
    rw [nz_in (by omega), chk_in (by simp; omega), tmod_nat, tdiv_nat, w64_succ (by omega), w64_nat (Nat.lt_of_le_of_lt hd2 hx), dg_next, Int.toNat_natCast]
    have e : ((List.range n).map (fun q => if q < i then (dg m x q : Int) else l.getD q 0)).set i ((x / m ^ i % m : Nat) : Int) = (List.range n).map (fun q => if q < i + 1 then (dg m x q : Int) else l.getD q 0) := by
      apply List.ext_getElem?
      intro q
      simp only [List.getElem?_set, List.length_map, List.length_range, List.getElem?_map]
      by_cases hq : q < n
      · by_cases hqi : i = q
        · subst hqi; simp [hi, dg]
        · rw [if_neg hqi]
          by_cases hlt : q < i
          · simp [hq, hlt, show q < i + 1 by omega]
          · simp [hq, hlt, show ¬ q < i + 1 by omega]
      · by_cases hqi : i = q
        · omega
        · simp [hq, hqi]
    rw [e]) (by
    unfold impl_CountHomomorphisms.b0
    simp only [hl, dlt_nat, Nat.lt_irrefl, decide_false, cond_false]
    have e : (List.range n).map (fun q => if q < n then (dg m x q : Int) else l.getD q 0) = clz n (dg m x) := by
      unfold clz
      refine List.map_congr_left fun q hq => ?_
      rw [if_pos (List.mem_range.1 hq)]; rfl
    rw [e])
  have e : l = (List.range n).map (fun q => if q < 0 then (dg m x q : Int) else l.getD q 0) := by
    apply List.ext_getElem?
    intro q
    by_cases hq : q < n
    · have : q < l.length := by omega
      simp [hq, this]
    · have : l.length ≤ q := by omega
      simp [hq, this]
  have h2 : loop1 (impl_CountHomomorphisms.b0 l m) ((List.range n).map (fun q => if q < 0 then (dg m x q : Int) else l.getD q 0), (x : Int), 0) = some (clz n (dg m x), ((x / m ^ n : Nat) : Int), (n : Int)) := by simpa using h
  rw [← e] at h2
  exact h2
theorem specGood (hn : n ≤ 6) (hm : m ≤ 6) (h1 : 1 ≤ m) (eg : Ent n tg) (x : Nat) : ∃ k, loop1 (spec_CountHomomorphisms.b3 n tg (cz (dcut m x n)) th) (true, 0) = some (!badHs n m tg th x, k) := by
  refine loopGood (fun i => (List.range n).any fun j => badH m tg th x i j) (by omega) (fun i hi => ?_) (fun j => ?_) ?_
  · unfold spec_CountHomomorphisms.b3
    simp only [dlt_nat, hi, decide_true, Bool.and_true, cond_true]
    obtain ⟨k, hk⟩ := loopGood (f := spec_CountHomomorphisms.b2 n i tg (cz (dcut m x n)) th) (n := n) (fun j => badH m tg th x i j) (by omega) (fun j hj => by
      unfold spec_CountHomomorphisms.b2
      simp only [dlt_nat, hj, decide_true, Bool.and_true, cond_true]
      have e1 := eg i j hi hj
      have e2 : cz (dcut m x n) i = (dg m x i : Int) := by simp [cz, dcut, hi]
      have e3 : cz (dcut m x n) j = (dg m x j : Int) := by simp [cz, dcut, hj]
      have e4 : cz (dcut m x n) (tb tg i j) = (dg m x (tb tg i j) : Int) := by simp [cz, dcut, e1]
      have d1 := dg_lt (x := x) (i := i) h1
      have d2 := dg_lt (x := x) (i := j) h1
      have e5 : ((tg (((i : Nat) : Int).toNat * 6 + ((j : Nat) : Int).toNat)).toNat : Int) = (tb tg i j : Int) := rfl
      have e6 : (tg (((i : Nat) : Int).toNat * 6 + ((j : Nat) : Int).toNat)).toNat = tb tg i j := rfl
      rw [chk_in (by omega), chk_in (by omega), e5, chk_in (by omega), Int.toNat_natCast, Int.toNat_natCast, e2, e3, chk_in (by omega), chk_in (by omega), w64_succ (by omega)]
      have e6' : (tg (i * 6 + j)).toNat = tb tg i j := rfl
      rw [e6', e4, Int.toNat_natCast, Int.toNat_natCast]
      have e7 : ((th (dg m x i * 6 + dg m x j)).toNat : Int) = (tb th (dg m x i) (dg m x j) : Int) := rfl
      rw [e7, beq_nat]
      have e8 : decide (dg m x (tb tg i j) = tb th (dg m x i) (dg m x j)) = !badH m tg th x i j := by simp [badH]
      rw [e8]) (fun j => by
      unfold spec_CountHomomorphisms.b2
      simp) (by
      unfold spec_CountHomomorphisms.b2
      simp)
    rw [hk]
    simp only [Option.bind_some, w64_succ (by omega : i < 4611686018427387904)]
  · unfold spec_CountHomomorphisms.b3
    simp
  · unfold spec_CountHomomorphisms.b3
    simp
theorem implGood (hn : n ≤ 6) (hm : m ≤ 6) (h1 : 1 ≤ m) (eg : Ent n tg) (x : Nat) : impl_homomorphism.f n tg m th (clz n (dg m x)) = some (!badHs n m tg th x) := by
  unfold impl_homomorphism.f
  have ho := loop_any (f := impl_homomorphism.b1 (clz n (dg m x)) n tg m th) (fun i => (i : Int)) n (fun i => (List.range n).any fun j => badH m tg th x i j) false (n : Int) (by omega) (fun i hi => by
    unfold impl_homomorphism.b1
    simp only [clz_length, dlt_nat, hi, decide_true, cond_true]
    have hin := loop_any (f := impl_homomorphism.b0 (clz n (dg m x)) n tg i m th) (fun j => (j : Int)) n (fun j => badH m tg th x i j) (.ret false) (n : Int) (by omega) (fun j hj => by
      unfold impl_homomorphism.b0
      simp only [clz_length, dlt_nat, hj, decide_true, cond_true]
      have e1 := eg i j hi hj
      have d1 := dg_lt (x := x) (i := i) h1
      have d2 := dg_lt (x := x) (i := j) h1
      rw [times_eq _ _ (by omega) (by omega), Option.bind_some, chk_in (by omega), chk_in (by omega), chk_in (by omega), clz_gt _ hi, clz_gt _ hj, clz_gt _ e1, times_eq _ _ (by omega) (by omega), Option.bind_some, bne_nat, w64_succ (by omega)]
      have e8 : (!decide (dg m x (tb tg i j) = tb th (dg m x i) (dg m x j))) = badH m tg th x i j := by simp [badH]
      rw [e8]
      cases badH m tg th x i j <;> rfl) (by
      unfold impl_homomorphism.b0
      simp [clz_length])
    have hin' : loop (impl_homomorphism.b0 (clz n (dg m x)) n tg i m th) 0 = some (bif (List.range n).any (fun j => badH m tg th x i j) then .ret (.ret false) else .brk (n : Int)) := hin
    rw [hin']
    cases (List.range n).any (fun j => badH m tg th x i j) with
    | true => rfl
    | false =>
      simp only [cond_false, Option.bind_some, ln, w64_succ (by omega : i < 4611686018427387904)]) (by
    unfold impl_homomorphism.b1
    simp [clz_length])
  have ho' : loop (impl_homomorphism.b1 (clz n (dg m x)) n tg m th) 0 = some (bif badHs n m tg th x then .ret false else .brk (n : Int)) := ho
  rw [ho']
  cases badHs n m tg th x <;> rfl
end
theorem pow66 {n m : Nat} (hn : n ≤ 6) (hm : m ≤ 6) (h1 : 1 ≤ m) : m ^ n ≤ 46656 := by
  have a := Nat.pow_le_pow_left hm n
  have b : 6 ^ n ≤ 6 ^ 6 := Nat.pow_le_pow_right (by omega) hn
  omega
theorem specAllPow {n m : Nat} (hn : n ≤ 6) (hm : m ≤ 6) (h1 : 1 ≤ m) : loop1 (spec_CountHomomorphisms.b0 n m) (1, 0) = some (((m ^ n : Nat) : Int), (n : Int)) := by
  have h := loop1_upto (f := spec_CountHomomorphisms.b0 n m) (fun i => (((m ^ i : Nat) : Int), (i : Int))) n (((m ^ n : Nat) : Int), (n : Int)) (by omega) (fun i hi => by
    unfold spec_CountHomomorphisms.b0
    have := pow66 (n := i + 1) (m := m) (by omega) hm h1
    rw [Nat.pow_succ] at this
    simp only [dlt_nat, hi, decide_true, cond_true]
    rw [w64_mul (by omega), w64_succ (by omega), ← Nat.pow_succ]) (by
    unfold spec_CountHomomorphisms.b0
    simp)
  simpa using h
theorem powerAll_eq {n m : Nat} (hn : n ≤ 6) (hm : m ≤ 6) (h1 : 1 ≤ m) : impl_powerAll.f m n = some ((m ^ n : Nat) : Int) := by
  unfold impl_powerAll.f
  have h := loop1_upto (f := impl_powerAll.b0 n m) (fun i => (((m ^ i : Nat) : Int), (i : Int))) n (((m ^ n : Nat) : Int), (n : Int)) (by omega) (fun i hi => by
    unfold impl_powerAll.b0
    have := pow66 (n := i + 1) (m := m) (by omega) hm h1
    rw [Nat.pow_succ] at this
    simp only [dlt_nat, hi, decide_true, cond_true]
    rw [w64_mul (by omega), w64_succ (by omega), ← Nat.pow_succ]) (by
    unfold impl_powerAll.b0
    simp)
  have h' : loop1 (impl_powerAll.b0 n m) (1, 0) = some (((m ^ n : Nat) : Int), (n : Int)) := by simpa using h
  rw [h']; rfl
theorem ch_same (g : Int) (tg : Nat → UInt8) (h : Int) (th : Nat → UInt8) : ∃ r, spec_CountHomomorphisms.f g tg h th = some r ∧ impl_CountHomomorphisms.f g tg h th = some r := by
  obtain ⟨b, h1, h2, h3⟩ := isGroup_same g tg
  obtain ⟨c, j1, j2, j3⟩ := isGroup_same h th
  unfold spec_CountHomomorphisms.f impl_CountHomomorphisms.f
  rw [h1, h2, j1, j2]
  cases b with
  | false => exact ⟨_, rfl, rfl⟩
  | true =>
    cases c with
    | false => exact ⟨_, rfl, rfl⟩
    | true =>
      obtain ⟨n, rfl, k1, k2, k3⟩ := h3 rfl
      obtain ⟨m, rfl, l1, l2, l3⟩ := j3 rfl
      have eg := ent_of k2 k3
      have hp := pow66 k2 l2 l1
      simp only [Option.bind_some, Bool.not_true, cond_false, gn_eq, grd, Int.toNat_natCast]
      rw [specAllPow k2 l2 l1, powerAll_eq k2 l2 l1, show decide ((0 : Int) ≤ (n : Int)) = true by simp, cond_true, small_in (by omega)]
      simp only [Option.bind_some]
      have hs := loop1_upto (f := spec_CountHomomorphisms.b4 (m ^ n : Nat) n m tg th) (fun k => ((homs n m tg th k : Int), (k : Int))) (m ^ n) ((homs n m tg th (m ^ n) : Int), ((m ^ n : Nat) : Int)) (by omega) (fun k hk => by
        unfold spec_CountHomomorphisms.b4
        have hle := homs_le n m tg th k
        simp only [dlt_nat, hk, decide_true, cond_true]
        rw [specDig k2 l1 k (by omega)]
        simp only [Option.bind_some]
        obtain ⟨q, hq⟩ := specGood (th := th) k2 l2 l1 eg k
        rw [hq]
        simp only [Option.bind_some]
        rw [w64_succ (by omega : k < 4611686018427387904), homs_succ, w64_succ (by omega : homs n m tg th k < 4611686018427387904)]
        cases badHs n m tg th k <;> rfl) (by
        unfold spec_CountHomomorphisms.b4
        simp)
      have hi := loop1_upto (f := impl_CountHomomorphisms.b1 (m ^ n : Nat) m n tg th) (fun k => ((homs n m tg th k : Int), (match k with | 0 => List.replicate n 0 | k + 1 => clz n (dg m k)), (k : Int))) (m ^ n) ((homs n m tg th (m ^ n) : Int), (match m ^ n with | 0 => List.replicate n 0 | k + 1 => clz n (dg m k)), ((m ^ n : Nat) : Int)) (by omega) (fun k hk => by
        unfold impl_CountHomomorphisms.b1
        have hle := homs_le n m tg th k
        simp only [dlt_nat, hk, decide_true, cond_true]
        rw [implDig k2 l1 k (by omega) _ (by cases k <;> simp [clz_length])]
        simp only [Option.bind_some]
        rw [implGood (th := th) k2 l2 l1 eg k]
        simp only [Option.bind_some]
        rw [w64_succ (by omega : k < 4611686018427387904), homs_succ, w64_succ (by omega : homs n m tg th k < 4611686018427387904)]
        cases badHs n m tg th k <;> rfl) (by
        unfold impl_CountHomomorphisms.b1
        simp)
      have hs' : loop1 (spec_CountHomomorphisms.b4 (m ^ n : Nat) n m tg th) (0, 0) = some ((homs n m tg th (m ^ n) : Int), ((m ^ n : Nat) : Int)) := hs
      have hi' : loop1 (impl_CountHomomorphisms.b1 (m ^ n : Nat) m n tg th) (0, List.replicate n 0, 0) = some ((homs n m tg th (m ^ n) : Int), (match m ^ n with | 0 => List.replicate n 0 | k + 1 => clz n (dg m k)), ((m ^ n : Nat) : Int)) := hi
      rw [hs', hi']
      exact ⟨_, rfl, rfl⟩
theorem plain_FnExactCountHomomorphisms (g : Int) (tg : Nat → UInt8) (h : Int) (th : Nat → UInt8) (_w : IntKind.i64.has g) (_w2 : IntKind.i64.has h) : laws_FnExactCountHomomorphisms.f g tg h th = some true := by
  obtain ⟨r, h1, h2⟩ := ch_same g (cut0 36 tg) h (cut0 36 th)
  unfold laws_FnExactCountHomomorphisms.f
  simp only [toGroup_eq, Option.bind_some, h1, h2]
  simp
end Go.Proofs.Ytcombgcjgdkbiaa.G
