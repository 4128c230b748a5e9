/- Plain laws. -/
import Derived.Test.YtiiljfpbcanphaaMIsAlgebraP1
import Derived.ProofKit
import Derived.OpenShut
import Derived.ShutString
import Derived.ChangeOld
import Derived.Carry
import Derived.SizedLaws
import Derived.ChangeSlices
import Derived.Deep.Matrix
/- A table has a unit for the program where it has one for the reference. -/
namespace Go.Proofs.Ytiiljfpbcanphaa.G
open Go Go.Sx Go.Proofs
theorem sm_sub {p : Int} {f g : Nat → Int} : ∀ k, (∀ i, i < k → p ∣ f i - g i) → p ∣ sm f k - sm g k
  | 0, _ => ⟨0, by simp [sm]⟩
  | k + 1, h => by
    obtain ⟨a, ha⟩ := sm_sub k (fun i hi => h i (by omega))
    obtain ⟨b, hb⟩ := h k (by omega)
    simp only [sm]
    exact ⟨a + b, by rw [Int.mul_add, ← ha, ← hb]; omega⟩
theorem sm_add (f g : Nat → Int) : ∀ k, sm (fun i => f i + g i) k = sm f k + sm g k
  | 0 => rfl
  | k + 1 => by simp only [sm]; rw [sm_add f g k]; omega
theorem sm_mul (c : Int) (f : Nat → Int) : ∀ k, sm (fun i => c * f i) k = c * sm f k
  | 0 => by simp [sm]
  | k + 1 => by simp only [sm]; rw [sm_mul c f k, Int.mul_add]
theorem sm_swap (f : Nat → Nat → Int) (n : Nat) : ∀ k, sm (fun i => sm (fun j => f i j) n) k = sm (fun j => sm (fun i => f i j) k) n
  | 0 => by
    simp only [sm]
    rw [sm_zero n (fun _ _ => rfl)]
  | k + 1 => by
    simp only [sm]
    rw [sm_swap f n k, ← sm_add]
def LeftU (p : Int) (n : Nat) (T : Nat → UInt8) (U : Nat → Int) : Prop := ∀ m k, m < n → k < n → p ∣ sm (fun i => tn T i m k * U i) n - dl m k
def RightU (p : Int) (n : Nat) (T : Nat → UInt8) (U : Nat → Int) : Prop := ∀ m k, m < n → k < n → p ∣ sm (fun i => tn T m i k * U i) n - dl m k
theorem sm_dl (V : Nat → Int) {n k : Nat} (hk : k < n) : sm (fun i => V i * dl i k) n = V k := by
  rw [sm_pick (m := k) n hk (fun i _ hne => by unfold dl; rw [if_neg (fun e => hne e.symm), Int.mul_zero])]
  unfold dl
  rw [if_pos rfl, Int.mul_one]
/-- A left unit and a right unit are the same. -/
theorem uniq {p : Int} {n : Nat} {T : Nat → UInt8} {U V : Nat → Int} (hl : LeftU p n T V) (hr : RightU p n T U) : ∀ k, k < n → p ∣ V k - U k := by
  intro k hk
  have h1 : p ∣ sm (fun i => V i * sm (fun m => tn T i m k * U m) n) n - sm (fun i => V i * dl i k) n := sm_sub n (fun i hi => by
    obtain ⟨a, ha⟩ := hr i k hi hk
    exact ⟨V i * a, by rw [← Int.mul_sub, ha]; grind⟩)
  have h2 : p ∣ sm (fun m => U m * sm (fun i => tn T i m k * V i) n) n - sm (fun m => U m * dl m k) n := sm_sub n (fun m hm => by
    obtain ⟨a, ha⟩ := hl m k hm hk
    exact ⟨U m * a, by rw [← Int.mul_sub, ha]; grind⟩)
  rw [sm_dl V hk] at h1
  rw [sm_dl U hk] at h2
  have e1 : sm (fun i => V i * sm (fun m => tn T i m k * U m) n) n = sm (fun i => sm (fun m => V i * (tn T i m k * U m)) n) n := sm_congr n fun i _ => (sm_mul _ _ n).symm
  have e2 : sm (fun m => U m * sm (fun i => tn T i m k * V i) n) n = sm (fun m => sm (fun i => U m * (tn T i m k * V i)) n) n := sm_congr n fun m _ => (sm_mul _ _ n).symm
  have e3 : sm (fun i => sm (fun m => V i * (tn T i m k * U m)) n) n = sm (fun m => sm (fun i => U m * (tn T i m k * V i)) n) n := by
    rw [sm_swap (fun i m => V i * (tn T i m k * U m)) n n]
    exact sm_congr n fun m _ => sm_congr n fun i _ => by grind
  rw [e1, e3] at h1
  rw [e2] at h2
  obtain ⟨a, ha⟩ := h1
  obtain ⟨b, hb⟩ := h2
  exact ⟨b - a, by rw [Int.mul_sub, ← ha, ← hb]; omega⟩
section
variable {p n : Nat} (hp : primeN p = true) (h2 : 2 ≤ p ∧ p ≤ 13) (hn : 1 ≤ n ∧ n ≤ 6) (T F : Nat → UInt8) (hT : ∀ i j k, i < n → j < n → k < n → tn T i j k < p)
theorem dl_b (h2 : 2 ≤ p ∧ p ≤ 13) (m k : Nat) : 0 ≤ dl m k ∧ dl m k < (p : Int) := by
  unfold dl; split <;> omega
/-- Products with basis vectors. -/
theorem prd_l (v : Nat → UInt8) {i : Nat} (hi : i < n) (k : Nat) : prd T (bs i) v n k = sm (fun j => tn T i j k * vn v j) n := by
  unfold prd
  rw [sm_pick (m := i) n hi (fun i' _ hne => by
    unfold rowS
    exact sm_zero n fun j _ => by unfold trm; rw [vn_bs]; unfold dl; rw [if_neg hne, Int.zero_mul, Int.zero_mul])]
  unfold rowS
  exact sm_congr n fun j _ => by unfold trm; rw [vn_bs]; unfold dl; rw [if_pos rfl, Int.one_mul, Int.mul_comm]
theorem prd_ll {i m : Nat} (hi : i < n) (hm : m < n) (k : Nat) : prd T (bs i) (bs m) n k = tn T i m k := by
  rw [prd_l T (bs m) hi k, sm_pick (m := m) n hm (fun j _ hne => by rw [vn_bs]; unfold dl; rw [if_neg hne, Int.mul_zero])]
  rw [vn_bs]; unfold dl; rw [if_pos rfl, Int.mul_one]
include h2 hT
omit hn h2 in
theorem tm_bs {i m k : Nat} (hi : i < n) (hm : m < n) (hk : k < n) : vn (tmF p n T (bs i) (bs m)) k = tn T i m k := by
  have h1 := hT i m k hi hm hk
  have h3 := tn_b T i m k
  unfold vn tmF
  rw [if_pos hk, prd_ll T hi hm k, Int.emod_eq_of_lt h3.1 h1]
  exact ofInt_nat (by omega)
def mq (p n : Nat) (T F : Nat → UInt8) (q : Nat) : PFn := if q % 2 = 0 then behindP p n T F (bs (q / 2)) else aheadP p n T F (bs (q / 2))
def mvq (p n : Nat) (T : Nat → UInt8) (q i : Nat) : Nat → UInt8 := if q % 2 = 0 then tmF p n T (bs i) (bs (q / 2)) else tmF p n T (bs (q / 2)) (bs i)
include hp hn
theorem implUnit : ∃ w ok, impl_Algebra_findUnit.f p n T F = some (w, ok) ∧ (ok = true ↔ ∃ U : Nat → Int, U n = -1 ∧ LeftU p n T U ∧ RightU p n T U) := by
  have hp2 : (2 : Int) ≤ (p : Int) ∧ (p : Int) ≤ 13 := by omega
  have hn0 : 0 < n := hn.1
  unfold impl_Algebra_findUnit.f
  have en : impl_Algebra_n.f p n T F = some (n : Int) := rfl
  rw [en, Option.bind_some]
  have h := loop1_upto (f := impl_Algebra_findUnit.b0 n p n T F) (fun x => (rng (2 * x) (mq p n T F), rng (2 * x) (fun q => bs (q / 2)), (x : Int))) n (rng (2 * n) (mq p n T F), rng (2 * n) (fun q => bs (q / 2)), (n : Int)) (by omega) (fun x hx => by
    unfold impl_Algebra_findUnit.b0
    simp only [dlt_nat, hx, decide_true, cond_true]
    rw [implBasis (by omega)]
    simp only [Option.bind_some, rng_len]
    rw [small_in (by omega), small_in (by omega), w64_succ (by omega)]
    have e1 : mq p n T F (2 * x) = behindP p n T F (bs x) := by
      unfold mq; rw [if_pos (by omega), show 2 * x / 2 = x by omega]
    have e2 : mq p n T F (2 * x + 1) = aheadP p n T F (bs x) := by
      unfold mq; rw [if_neg (by omega), show (2 * x + 1) / 2 = x by omega]
    have e3 : rng (2 * x) (mq p n T F) ++ [behindP p n T F (bs x), aheadP p n T F (bs x)] = rng (2 * (x + 1)) (mq p n T F) := by
      rw [← e1, ← e2, show 2 * (x + 1) = 2 * x + 1 + 1 by omega, ← rng_push, ← rng_push, List.append_assoc]; rfl
    have e4 : rng (2 * x) (fun q => bs (q / 2)) ++ [bs x, bs x] = rng (2 * (x + 1)) (fun q => bs (q / 2)) := by
      rw [show 2 * (x + 1) = 2 * x + 1 + 1 by omega, ← rng_push, ← rng_push, List.append_assoc, show 2 * x / 2 = x by omega, show (2 * x + 1) / 2 = x by omega]; rfl
    rw [e3, e4]) (by
    unfold impl_Algebra_findUnit.b0
    simp)
  have h' : loop1 (impl_Algebra_findUnit.b0 n p n T F) (([] : List PFn), ([] : List (Nat → UInt8)), 0) = _ := h
  rw [h']
  simp only [Option.bind_some]
  obtain ⟨w, ok, e, hok⟩ := implSolved hp h2 hn T F (M := 2 * n) (by omega) (maps := rng (2 * n) (mq p n T F)) (rng_len _ _) (mvq p n T) (fun x i hx hi => by
      rw [rng_gt _ hx]
      unfold mq mvq
      split
      · unfold behindP impl_Algebra_behind_1.f
        rw [implTimes hp2 hn.2]; rfl
      · unfold aheadP impl_Algebra_ahead_1.f
        rw [implTimes hp2 hn.2]; rfl) (targets := rng (2 * n) (fun q => bs (q / 2))) (rng_len _ _) (fun q => bs (q / 2)) (fun x hx => rng_gt _ hx) (fun x i k hx hi hk => by
      unfold mvq
      have hx2 : x / 2 < n := by omega
      split
      · rw [tm_bs T hT hi hx2 hk]; exact hT _ _ _ hi hx2 hk
      · rw [tm_bs T hT hx2 hi hk]; exact hT _ _ _ hx2 hi hk) (fun x k hx hk => by rw [vn_bs]; exact (dl_b h2 _ _).2)
  rw [e]
  refine ⟨w, ok, rfl, hok.trans ?_⟩
  have hrow : ∀ q (U : Nat → Int), q < 2 * n * n → U n = -1 → dot U (zl n (fun i => vn (mvq p n T (q / n) i) (q % n)) ++ [vn (bs (q / n / 2)) (q % n)]) (n + 1) = (if q / n % 2 = 0 then sm (fun i => tn T i (q / n / 2) (q % n) * U i) n else sm (fun i => tn T (q / n / 2) i (q % n) * U i) n) - dl (q / n / 2) (q % n) := by
    intro q U hq hU
    have hdiv : q / n < 2 * n := (Nat.div_lt_iff_lt_mul hn0).2 hq
    have hmod : q % n < n := Nat.mod_lt _ hn0
    rw [dot_eq, hU, vn_bs, Int.mul_neg, Int.mul_one, ← Int.sub_eq_add_neg]
    congr 1
    unfold mvq
    split
    · exact sm_congr n fun i hi => by rw [tm_bs T hT hi (by omega) hmod]
    · exact sm_congr n fun i hi => by rw [tm_bs T hT (by omega) hi hmod]
  constructor
  · rintro ⟨U, hU, hs⟩
    have get : ∀ x k, x < 2 * n → k < n → (p : Int) ∣ (if x % 2 = 0 then sm (fun i => tn T i (x / 2) k * U i) n else sm (fun i => tn T (x / 2) i k * U i) n) - dl (x / 2) k := by
      intro x k hx hk
      have hq : x * n + k < 2 * n * n := by
        have : (x + 1) * n ≤ 2 * n * n := Nat.mul_le_mul_right n (by omega)
        rw [Nat.add_mul] at this; omega
      obtain ⟨d1, d2⟩ := div_at (x := x) hk
      have := hs _ (List.mem_map_of_mem (List.mem_range.2 hq))
      rw [hrow _ U hq hU, d1, d2] at this
      exact this
    refine ⟨U, hU, fun m k hm hk => ?_, fun m k hm hk => ?_⟩
    · have := get (2 * m) k (by omega) hk
      rwa [if_pos (by omega), show 2 * m / 2 = m by omega] at this
    · have := get (2 * m + 1) k (by omega) hk
      rwa [if_neg (by omega), show (2 * m + 1) / 2 = m by omega] at this
  · rintro ⟨U, hU, hl, hr⟩
    refine ⟨U, hU, fun r hr' => ?_⟩
    obtain ⟨q, hq, rfl⟩ := List.mem_map.1 hr'
    have hq' := List.mem_range.1 hq
    have hdiv : q / n < 2 * n := (Nat.div_lt_iff_lt_mul hn0).2 hq'
    have hmod : q % n < n := Nat.mod_lt _ hn0
    rw [hrow q U hq' hU]
    split
    · exact hl _ _ (by omega) hmod
    · exact hr _ _ (by omega) hmod
/-- The reference's rows. -/
def sR (n : Nat) (T : Nat → UInt8) : List (List Int) := rng (n * n) fun r => zl n (fun j => tn T j (r / n) (r % n)) ++ [dl (r / n) (r % n)]
omit hp h2 hT in
theorem specRows : loop1 (spec_l01Find.b2 n T) (([] : List (List Int)), 0) = some (sR n T, (n : Int)) := by
  have h := loop1_upto (f := spec_l01Find.b2 n T) (fun x => (rng (x * n) fun r => zl n (fun j => tn T j (r / n) (r % n)) ++ [dl (r / n) (r % n)], (x : Int))) n (sR n T, (n : Int)) (by omega) (fun x hx => by
    unfold spec_l01Find.b2
    have hxn : x * n + n ≤ 36 := by
      have : (x + 1) * n ≤ 6 * 6 := Nat.mul_le_mul (by omega) hn.2
      rw [Nat.add_mul] at this; omega
    simp only [dlt_nat, hx, decide_true, cond_true]
    have h1 := loop1_upto (f := spec_l01Find.b1 n x T) (fun k => (rng (x * n + k) fun r => zl n (fun j => tn T j (r / n) (r % n)) ++ [dl (r / n) (r % n)], (k : Int))) n (rng (x * n + n) fun r => zl n (fun j => tn T j (r / n) (r % n)) ++ [dl (r / n) (r % n)], (n : Int)) (by omega) (fun k hk => by
      unfold spec_l01Find.b1
      simp only [dlt_nat, hk, decide_true, cond_true]
      have h0 := loop1_upto (f := spec_l01Find.b0 n x k T) (fun j => (zl j (fun j => tn T j x k), (j : Int))) n (zl n (fun j => tn T j x k), (n : Int)) (by omega) (fun j hj => by
        unfold spec_l01Find.b0
        simp only [dlt_nat, hj, decide_true, cond_true]
        rw [chk_in (by omega), chk_in (by omega), chk_in (by omega), small_in (by rw [zl_length]; simp; omega)]
        simp only [Int.toNat_natCast]
        rw [show ((T (j * 36 + x * 6 + k)).toNat : Int) = tn T j x k from rfl, zl_push j (fun j => tn T j x k), w64_succ (by omega)]) (by
        unfold spec_l01Find.b0
        simp)
      have h0' : loop1 (spec_l01Find.b0 n x k T) (([] : List Int), 0) = _ := h0
      rw [h0']
      simp only [Option.bind_some]
      have ed : (bif ((x : Int) == (k : Int)) then small ((zl n (fun j => tn T j x k)).length + ([1] : List Int).length) (some (zl n (fun j => tn T j x k) ++ ([1] : List Int))) else small ((zl n (fun j => tn T j x k)).length + ([0] : List Int).length) (some (zl n (fun j => tn T j x k) ++ ([0] : List Int)))) = some (zl n (fun j => tn T j x k) ++ [dl x k]) := by
        rw [small_in (by rw [zl_length]; simp; omega), small_in (by rw [zl_length]; simp; omega), beq_nat]
        unfold dl
        by_cases a : x = k
        · rw [decide_eq_true a, if_pos a.symm]; rfl
        · rw [decide_eq_false a, if_neg (fun e => a e.symm)]; rfl
      rw [ed]
      simp only [Option.bind_some]
      obtain ⟨e1, e2⟩ := div_at (x := x) hk
      have e3 : zl n (fun j => tn T j x k) ++ [dl x k] = (fun r => zl n (fun j => tn T j (r / n) (r % n)) ++ [dl (r / n) (r % n)]) (x * n + k) := by
        simp only [e1, e2]
      rw [small_in (by rw [rng_len]; omega), e3, rng_push (x * n + k) (fun r => zl n (fun j => tn T j (r / n) (r % n)) ++ [dl (r / n) (r % n)]), w64_succ (by omega)]; rfl) (by
      unfold spec_l01Find.b1
      simp)
    have h1' : loop1 (spec_l01Find.b1 n x T) (rng (x * n) fun r => zl n (fun j => tn T j (r / n) (r % n)) ++ [dl (r / n) (r % n)], 0) = _ := h1
    rw [h1']
    simp only [Option.bind_some]
    rw [w64_succ (by omega), show (x + 1) * n = x * n + n by rw [Nat.add_mul]; omega]) (by
    unfold spec_l01Find.b2
    simp [sR])
  rw [← h]
  have e0 : (rng (0 * n) fun r => zl n (fun j => tn T j (r / n) (r % n)) ++ [dl (r / n) (r % n)]) = [] := by rw [Nat.zero_mul]; rfl
  rw [e0]; rfl
omit hp h2 hT in
theorem sat_sR {U : Nat → Int} (hU : U n = -1) : Sat (p : Int) (n + 1) U (sR n T) ↔ LeftU p n T U := by
  have hn0 : 0 < n := hn.1
  have hrow : ∀ q, dot U (zl n (fun j => tn T j (q / n) (q % n)) ++ [dl (q / n) (q % n)]) (n + 1) = sm (fun i => tn T i (q / n) (q % n) * U i) n - dl (q / n) (q % n) := fun q => by
    rw [dot_eq, hU, Int.mul_neg, Int.mul_one, ← Int.sub_eq_add_neg]
  constructor
  · intro hs m k hm hk
    have hq : m * n + k < n * n := by
      have : (m + 1) * n ≤ n * n := Nat.mul_le_mul_right n hm
      rw [Nat.add_mul] at this; omega
    obtain ⟨d1, d2⟩ := div_at (x := m) hk
    have := hs _ (List.mem_map_of_mem (List.mem_range.2 hq))
    rw [hrow, d1, d2] at this
    exact this
  · intro hl r hr'
    obtain ⟨q, hq, rfl⟩ := List.mem_map.1 hr'
    have hq' := List.mem_range.1 hq
    rw [hrow q]
    exact hl _ _ ((Nat.div_lt_iff_lt_mul hn0).2 hq') (Nat.mod_lt _ hn0)
theorem specUnit : ∃ w ok, spec_l01Find.f p n T F = some (w, ok) ∧ (ok = true ↔ ∃ U : Nat → Int, U n = -1 ∧ LeftU p n T U ∧ RightU p n T U) := by
  have hp2 : (2 : Int) ≤ (p : Int) ∧ (p : Int) ≤ 13 := by omega
  have hn0 : 0 < n := hn.1
  have hnn : 1 ≤ n * n ∧ n * n ≤ 36 := ⟨Nat.mul_pos hn0 hn0, Nat.mul_le_mul hn.2 hn.2⟩
  unfold spec_l01Find.f
  rw [specRows hn T]
  simp only [Option.bind_some]
  obtain ⟨v, ok, o, l, e, R, hs, hok, hv⟩ := specSolve (n := n) hp h2 hn.2 (rows := sR n T) (by unfold sR; rw [rng_len]; exact hnn.1) (by unfold sR; rw [rng_len]; omega) (fun r hr => by
    unfold sR rng at hr
    obtain ⟨q, hq, rfl⟩ := List.mem_map.1 hr
    have hq' := List.mem_range.1 hq
    exact eq_row (fun i hi => ⟨(tn_b _ _ _ _).1, hT _ _ _ hi ((Nat.div_lt_iff_lt_mul hn0).2 hq') (Nat.mod_lt _ hn0)⟩) (dl_b h2 _ _))
  rw [e]
  simp only [Option.bind_some]
  cases ok with
  | false =>
    refine ⟨_, false, rfl, nofun, ?_⟩
    rintro ⟨U, hU, hl, hr⟩
    obtain ⟨g1, g2⟩ := full (by omega) R hU ((hs U).2 ((sat_sR hn T hU).2 hl)) (fun V hV hsV k hk => uniq ((sat_sR hn T hV).1 ((hs V).1 hsV)) hr k hk)
    exact absurd (hok.2 ⟨g1, g2⟩) (by simp)
  | true =>
    obtain ⟨g1, g2⟩ := hok.1 rfl
    obtain rfl := hv rfl
    simp only [Bool.not_true, cond_false]
    have hnl : ∀ i, i < o.length → l i ≠ n := fun i hi => by rw [g2 i (by omega)]; omega
    have hsn : sol n o l n = -1 := by unfold sol; rw [if_pos rfl]
    have hsq : ∀ q, q < n → sol n o l q = gt (gt o (q : Int)) (n : Int) := fun q hq => by
      have := own_at R (i := q) (by omega)
      rw [g2 q hq] at this
      unfold sol
      rw [if_neg (by omega), this]
    have hleft : LeftU p n T (sol n o l) := (sat_sR hn T hsn).1 ((hs _).1 (sol_sat R hnl))
    have hsb : ∀ q, q < n → 0 ≤ sol n o l q ∧ sol n o l q < p := fun q hq => by
      rw [hsq q hq]
      exact (R.row q (by omega)).b n (by omega)
    obtain ⟨⟨y, x⟩, e3, hy⟩ := loop1_ex (f := spec_l01Find.b3 (zl n (fun i => gt (gt o (i : Int)) (n : Int)))) (fun k s => s.2 = (k : Int) ∧ ∀ q, q < k → vn s.1 q = sol n o l q) (fun s => ∀ q, q < n → vn s.1 q = sol n o l q) n (by omega) ((fun _ => (0 : UInt8)), 0) ⟨rfl, fun q h => by omega⟩
      (by
        rintro k ⟨y, x⟩ hk ⟨rfl, hy⟩
        simp only at hy
        refine ⟨(upd y k (UInt8.ofInt (gt (gt o (k : Int)) (n : Int))), ((k + 1 : Nat) : Int)), ?_, rfl, fun q hq => ?_⟩
        · unfold spec_l01Find.b3
          simp only [zl_length, dlt_nat, hk, decide_true, cond_true, Int.toNat_natCast]
          rw [chk_in (by omega), chk_in (by omega), zl_gt _ hk, w64_succ (by omega)]
        · simp only
          unfold vn upd
          by_cases a : q = k
          · subst a
            rw [if_pos rfl, ← hsq q hk]
            have := hsb q hk
            exact ofInt_nat (by omega)
          · rw [if_neg a]; exact hy q (by omega))
      (by
        rintro ⟨y, x⟩ ⟨rfl, hy⟩
        exact ⟨(y, (n : Int)), by unfold spec_l01Find.b3; simp only [zl_length, Int.lt_irrefl, decide_false, cond_false], hy⟩)
    rw [e3]
    simp only [Option.bind_some]
    simp only at hy
    have hb4 := loop_any (f := spec_l01Find.b4 n p T F y) (fun i => (i : Int)) n (fun i => !((List.range 6).all fun i_ => ((tmF p n T (bs i) y i_).toNat : Int) == ((bs i i_).toNat : Int))) ((fun _ => (0 : UInt8)), false) (n : Int) (by omega) (fun i hi => by
      unfold spec_l01Find.b4
      simp only [dlt_nat, hi, decide_true, cond_true]
      rw [specBasis (by omega)]
      simp only [Option.bind_some]
      rw [specTimes hp2 hn.2]
      simp only [Option.bind_some]
      rw [w64_succ (by omega)]
      cases (!((List.range 6).all fun i_ => ((tmF p n T (bs i) y i_).toNat : Int) == ((bs i i_).toNat : Int))) <;> rfl) (by
      unfold spec_l01Find.b4
      simp)
    have hb4' : loop (spec_l01Find.b4 n p T F y) 0 = _ := hb4
    rw [hb4']
    -- the last test tells whether it is a right unit
    have hval : ∀ i k, i < n → k < n → vn (tmF p n T (bs i) y) k = sm (fun j => tn T i j k * sol n o l j) n % (p : Int) := by
      intro i k hi hk
      unfold vn tmF
      rw [if_pos hk, prd_l T y hi k]
      have : sm (fun j => tn T i j k * vn y j) n = sm (fun j => tn T i j k * sol n o l j) n := sm_congr n fun j hj => by rw [hy j hj]
      rw [this]
      have h1 := Int.emod_nonneg (sm (fun j => tn T i j k * sol n o l j) n) (show (p : Int) ≠ 0 by omega)
      have h3 := Int.emod_lt_of_pos (sm (fun j => tn T i j k * sol n o l j) n) (show (0 : Int) < p by omega)
      exact ofInt_nat (by omega)
    have hdvd : ∀ (x : Int) i k, x % (p : Int) = dl i k ↔ (p : Int) ∣ x - dl i k := by
      intro x i k
      have hb := dl_b (p := p) h2 i k
      constructor
      · intro h
        rw [← h]
        exact Int.dvd_self_sub_of_emod_eq rfl
      · intro h
        have := Int.emod_emod_of_dvd x (Int.dvd_refl (p : Int))
        have h3 : x % (p : Int) = dl i k % (p : Int) := Int.emod_eq_emod_iff_emod_sub_eq_zero.2 (Int.emod_eq_zero_of_dvd h)
        rw [h3, Int.emod_eq_of_lt hb.1 hb.2]
    have htest : ((List.range n).any (fun i => !((List.range 6).all fun i_ => ((tmF p n T (bs i) y i_).toNat : Int) == ((bs i i_).toNat : Int))) = false) ↔ RightU p n T (sol n o l) := by
      rw [List.any_eq_false]
      constructor
      · intro h m k hm hk
        have h1 := h m (List.mem_range.2 hm)
        simp only [Bool.not_eq_true, Bool.not_eq_false'] at h1
        have h3 := List.all_eq_true.1 h1 k (List.mem_range.2 (by omega))
        have h4 : vn (tmF p n T (bs m) y) k = vn (bs m) k := eq_of_beq h3
        rw [hval m k hm hk, vn_bs] at h4
        exact (hdvd _ m k).1 h4
      · intro h m hm
        have hm' := List.mem_range.1 hm
        simp only [Bool.not_eq_true, Bool.not_eq_false']
        rw [List.all_eq_true]
        intro k hk
        have hk6 := List.mem_range.1 hk
        have goal : vn (tmF p n T (bs m) y) k = vn (bs m) k := by
          by_cases a : k < n
          · rw [hval m k hm' a, vn_bs]
            exact (hdvd _ m k).2 (h m k hm' a)
          · rw [vn_bs]
            unfold vn tmF dl
            rw [if_neg a, if_neg (by omega)]; rfl
        have : ((tmF p n T (bs m) y k).toNat : Int) = ((bs m k).toNat : Int) := goal
        rw [this]; simp
    cases hany : (List.range n).any (fun i => !((List.range 6).all fun i_ => ((tmF p n T (bs i) y i_).toNat : Int) == ((bs i i_).toNat : Int))) with
    | false =>
      exact ⟨y, true, rfl, fun _ => ⟨sol n o l, hsn, hleft, htest.1 hany⟩, fun _ => rfl⟩
    | true =>
      refine ⟨_, false, rfl, nofun, ?_⟩
      rintro ⟨U, hU, hl, hr⟩
      have hu := uniq hleft hr
      have : RightU p n T (sol n o l) := by
        intro m k hm hk
        obtain ⟨a, ha⟩ := hr m k hm hk
        obtain ⟨b, hb⟩ := sm_sub (p := (p : Int)) (f := fun i => tn T m i k * sol n o l i) (g := fun i => tn T m i k * U i) n (fun i hi => by
          obtain ⟨c, hc⟩ := hu i hi
          exact ⟨tn T m i k * c, by rw [← Int.mul_sub, hc]; grind⟩)
        exact ⟨a + b, by rw [Int.mul_add, ← ha, ← hb]; omega⟩
      have := htest.2 this
      rw [hany] at this; cases this
end
end Go.Proofs.Ytiiljfpbcanphaa.G

/- The law of IsAlgebra tells true. -/
namespace Go.Proofs.Ytiiljfpbcanphaa.G
open Go Go.Sx Go.Proofs
theorem toA666 (a : Nat → UInt8) : ∃ o, laws_toByteA6A6A6.f a = some o := by
  have h6 : ∀ b : Nat → UInt8, ∃ o, laws_toByteA6.f b = some o := by
    intro b
    unfold laws_toByteA6.f
    obtain ⟨⟨o, x⟩, e, _⟩ := loop1_ex (f := laws_toByteA6.b0 b) (fun k s => s.2 = (k : Int)) (fun _ => True) 6 (by omega) ((fun _ => (0 : UInt8)), 0) rfl
      (by
        rintro k ⟨o, x⟩ hk rfl
        refine ⟨(upd o k (b k), ((k + 1 : Nat) : Int)), ?_, rfl⟩
        unfold laws_toByteA6.b0
        simp only [Int.toNat_natCast]
        rw [show decide ((k : Int) < 6) = true from decide_eq_true (by omega), cond_true, chk_in (by omega), w64_succ (by omega)])
      (by rintro ⟨o, x⟩ rfl; exact ⟨(o, 6), by unfold laws_toByteA6.b0; rfl, trivial⟩)
    rw [e]; exact ⟨o, rfl⟩
  have h66 : ∀ b : Nat → UInt8, ∃ o, laws_toByteA6A6.f b = some o := by
    intro b
    unfold laws_toByteA6A6.f
    obtain ⟨⟨o, x⟩, e, _⟩ := loop1_ex (f := laws_toByteA6A6.b0 b) (fun k s => s.2 = (k : Int)) (fun _ => True) 6 (by omega) ((fun _ => (0 : UInt8)), 0) rfl
      (by
        rintro k ⟨o, x⟩ hk rfl
        obtain ⟨r, hr⟩ := h6 (sub b (k * 6))
        refine ⟨(updN o (k * 6) 6 r, ((k + 1 : Nat) : Int)), ?_, rfl⟩
        unfold laws_toByteA6A6.b0
        simp only [Int.toNat_natCast]
        rw [show decide ((k : Int) < 6) = true from decide_eq_true (by omega), cond_true, chk_in (by omega), hr, w64_succ (by omega)]; rfl)
      (by rintro ⟨o, x⟩ rfl; exact ⟨(o, 6), by unfold laws_toByteA6A6.b0; rfl, trivial⟩)
    rw [e]; exact ⟨o, rfl⟩
  unfold laws_toByteA6A6A6.f
  obtain ⟨⟨o, x⟩, e, _⟩ := loop1_ex (f := laws_toByteA6A6A6.b0 a) (fun k s => s.2 = (k : Int)) (fun _ => True) 6 (by omega) ((fun _ => (0 : UInt8)), 0) rfl
    (by
      rintro k ⟨o, x⟩ hk rfl
      obtain ⟨r, hr⟩ := h66 (sub a (k * 36))
      refine ⟨(updN o (k * 36) 36 r, ((k + 1 : Nat) : Int)), ?_, rfl⟩
      unfold laws_toByteA6A6A6.b0
      simp only [Int.toNat_natCast]
      rw [show decide ((k : Int) < 6) = true from decide_eq_true (by omega), cond_true, chk_in (by omega), hr, w64_succ (by omega)]; rfl)
    (by rintro ⟨o, x⟩ rfl; exact ⟨(o, 6), by unfold laws_toByteA6A6A6.b0; rfl, trivial⟩)
  rw [e]; exact ⟨o, rfl⟩
theorem toV (b : Nat → UInt8) : ∃ o, laws_toVector.f b = some o := by
  unfold laws_toVector.f
  obtain ⟨⟨o, x⟩, e, _⟩ := loop1_ex (f := laws_toVector.b0 b) (fun k s => s.2 = (k : Int)) (fun _ => True) 6 (by omega) ((fun _ => (0 : UInt8)), 0) rfl
    (by
      rintro k ⟨o, x⟩ hk rfl
      refine ⟨(upd o k (b k), ((k + 1 : Nat) : Int)), ?_, rfl⟩
      unfold laws_toVector.b0
      simp only [Int.toNat_natCast]
      rw [show decide ((k : Int) < 6) = true from decide_eq_true (by omega), cond_true, chk_in (by omega), w64_succ (by omega)])
    (by rintro ⟨o, x⟩ rfl; exact ⟨(o, 6), by unfold laws_toVector.b0; rfl, trivial⟩)
  rw [e]; exact ⟨o, rfl⟩
/-- A number of a vector that is wrong. -/
def badV (p n : Int) (v : Nat → UInt8) (i : Nat) : Bool := decide (vn v i ≥ p) || (decide ((i : Int) ≥ n) && (vn v i != 0))
def vb (p n : Int) (v : Nat → UInt8) : Bool := !(List.range 6).any (badV p n v)
theorem lt6' (i : Nat) : decide ((i : Int) < 6) = decide (i < 6) := dlt_nat i 6
theorem implVec (v : Nat → UInt8) (n p : Int) : impl_isVector.f v n p = some (vb p n v) := by
  unfold impl_isVector.f
  have h := loop_any (f := impl_isVector.b0 v p n) (fun i => (i : Int)) 6 (badV p n v) false 6 (by omega) (fun i hi => by
    unfold impl_isVector.b0
    simp only [lt6', hi, decide_true, cond_true]
    rw [chk_in (by omega), w64_succ (by omega)]
    simp only [Int.toNat_natCast]
    rw [show (decide (((v i).toNat : Int) ≥ p) || (decide ((i : Int) ≥ n) && (((v i).toNat : Int) != ((0 : UInt8).toNat : Int)))) = badV p n v i from rfl]
    cases badV p n v i <;> rfl) (by
    unfold impl_isVector.b0
    rfl)
  have h' : loop (impl_isVector.b0 v p n) 0 = _ := h
  rw [h']
  unfold vb
  cases (List.range 6).any (badV p n v) <;> rfl
theorem specVec (v : Nat → UInt8) (n p : Int) : spec_l01Small.f p n v = some (vb p n v) := by
  unfold spec_l01Small.f
  have h := loop_any (f := spec_l01Small.b0 v p n) (fun i => (i : Int)) 6 (badV p n v) false 6 (by omega) (fun i hi => by
    unfold spec_l01Small.b0
    simp only [lt6', hi, decide_true, cond_true]
    rw [chk_in (by omega), w64_succ (by omega)]
    simp only [Int.toNat_natCast]
    rw [show (decide (((v i).toNat : Int) ≥ p) || (decide ((i : Int) ≥ n) && (((v i).toNat : Int) != ((0 : UInt8).toNat : Int)))) = badV p n v i from rfl]
    cases badV p n v i <;> rfl) (by
    unfold spec_l01Small.b0
    rfl)
  have h' : loop (spec_l01Small.b0 v p n) 0 = _ := h
  rw [h']
  unfold vb
  cases (List.range 6).any (badV p n v) <;> rfl
theorem sub_sub_ (T : Nat → UInt8) (a b : Nat) : sub (sub T a) b = sub T (a + b) := by
  funext i
  unfold sub
  rw [Nat.add_assoc]
def zeroB (v : Nat → UInt8) : Bool := (List.range 6).all fun i_ => ((v i_).toNat : Int) == (((fun _ => (0 : UInt8)) i_ : UInt8).toNat : Int)
def badI (p n : Int) (T : Nat → UInt8) (i j : Nat) : Bool := !vb p n (sub T (i * 36 + j * 6)) || ((decide ((i : Int) ≥ n) || decide ((j : Int) ≥ n)) && !zeroB (sub T (i * 36 + j * 6)))
def badS (p n : Int) (T : Nat → UInt8) (i j : Nat) : Bool := !vb p (if (decide ((i : Int) ≥ n) || decide ((j : Int) ≥ n)) = true then 0 else n) (sub T (i * 36 + j * 6))
theorem implTable (p n : Int) (T F : Nat → UInt8) : impl_Algebra_tableOk.f p n T F = some (!((List.range 6).any fun i => (List.range 6).any fun j => badI p n T i j) && vb p n F) := by
  unfold impl_Algebra_tableOk.f
  have en : impl_Algebra_n.f p n T F = some n := rfl
  have h1 := loop_any (f := impl_Algebra_tableOk.b1 T n p F) (fun i => (i : Int)) 6 (fun i => (List.range 6).any fun j => badI p n T i j) false 6 (by omega) (fun i hi => by
    unfold impl_Algebra_tableOk.b1
    simp only [lt6', hi, decide_true, cond_true]
    rw [chk_in (by omega)]
    have h0 := loop_any (f := impl_Algebra_tableOk.b0 T i n p F) (fun j => (j : Int)) 6 (fun j => badI p n T i j) (.ret false) 6 (by omega) (fun j hj => by
      unfold impl_Algebra_tableOk.b0
      simp only [lt6', hj, decide_true, cond_true, Int.toNat_natCast, sub_sub_]
      rw [chk_in (by omega), implVec, w64_succ (by omega), en]
      simp only [Option.bind_some]
      rw [show ((List.range 6).all fun i_ => (((sub T (i * 36 + j * 6)) i_).toNat : Int) == (((fun _ => (0 : UInt8)) i_).toNat : Int)) = zeroB (sub T (i * 36 + j * 6)) from rfl]
      unfold badI
      cases vb p n (sub T (i * 36 + j * 6)) <;> cases decide ((i : Int) ≥ n) <;> cases decide ((j : Int) ≥ n) <;> cases zeroB (sub T (i * 36 + j * 6)) <;> rfl) (by
      unfold impl_Algebra_tableOk.b0
      rfl)
    have h0' : loop (impl_Algebra_tableOk.b0 T i n p F) 0 = _ := h0
    rw [h0', w64_succ (by omega)]
    cases (List.range 6).any (fun j => badI p n T i j) <;> rfl) (by
    unfold impl_Algebra_tableOk.b1
    rfl)
  have h1' : loop (impl_Algebra_tableOk.b1 T n p F) 0 = _ := h1
  rw [h1', implVec]
  cases (List.range 6).any (fun i => (List.range 6).any fun j => badI p n T i j) <;> rfl
theorem specTable (p n : Int) (T : Nat → UInt8) : (loop (spec_l01Shape.b1 n p T) 0).bind (ln (fun _ => some true)) = some (!((List.range 6).any fun i => (List.range 6).any fun j => badS p n T i j)) := by
  have h1 := loop_any (f := spec_l01Shape.b1 n p T) (fun i => (i : Int)) 6 (fun i => (List.range 6).any fun j => badS p n T i j) false 6 (by omega) (fun i hi => by
    unfold spec_l01Shape.b1
    simp only [lt6', hi, decide_true, cond_true]
    have h0 := loop_any (f := spec_l01Shape.b0 i n p T) (fun j => (j : Int)) 6 (fun j => badS p n T i j) (.ret false) 6 (by omega) (fun j hj => by
      unfold spec_l01Shape.b0
      simp only [lt6', hj, decide_true, cond_true, Int.toNat_natCast]
      have en : (bif (decide ((i : Int) ≥ n) || decide ((j : Int) ≥ n)) then some 0 else some n) = some (if (decide ((i : Int) ≥ n) || decide ((j : Int) ≥ n)) = true then 0 else n) := by
        cases decide ((i : Int) ≥ n) <;> cases decide ((j : Int) ≥ n) <;> rfl
      rw [en]
      simp only [Option.bind_some]
      rw [chk_in (by omega), chk_in (by omega), specVec, w64_succ (by omega)]
      simp only [Option.bind_some]
      unfold badS
      cases vb p (if (decide ((i : Int) ≥ n) || decide ((j : Int) ≥ n)) = true then 0 else n) (sub T (i * 36 + j * 6)) <;> rfl) (by
      unfold spec_l01Shape.b0
      rfl)
    have h0' : loop (spec_l01Shape.b0 i n p T) 0 = _ := h0
    rw [h0', w64_succ (by omega)]
    cases (List.range 6).any (fun j => badS p n T i j) <;> rfl) (by
    unfold spec_l01Shape.b1
    rfl)
  have h1' : loop (spec_l01Shape.b1 n p T) 0 = _ := h1
  rw [h1']
  cases (List.range 6).any (fun i => (List.range 6).any fun j => badS p n T i j) <;> rfl
theorem zero_iff {v : Nat → UInt8} : zeroB v = true ↔ ∀ i, i < 6 → vn v i = 0 := by
  unfold zeroB
  rw [List.all_eq_true]
  constructor
  · intro h i hi
    have := h i (List.mem_range.2 hi)
    exact eq_of_beq this
  · intro h i hi
    have h2 : ((v i).toNat : Int) = 0 := h i (List.mem_range.1 hi)
    rw [h2]; rfl
theorem vb_iff {p n : Int} {v : Nat → UInt8} : vb p n v = true ↔ ∀ i, i < 6 → vn v i < p ∧ ((i : Int) < n ∨ vn v i = 0) := by
  unfold vb
  rw [Bool.not_eq_true', List.any_eq_false]
  constructor
  · intro h i hi
    have := h i (List.mem_range.2 hi)
    unfold badV at this
    simp only [Bool.or_eq_true, Bool.and_eq_true, decide_eq_true_eq, bne_iff_ne, not_or, not_and, Classical.not_not] at this
    obtain ⟨h1, h2⟩ := this
    refine ⟨by omega, ?_⟩
    by_cases a : (i : Int) ≥ n
    · exact .inr (h2 a)
    · exact .inl (by omega)
  · intro h i hi
    have := h i (List.mem_range.1 hi)
    unfold badV
    simp only [Bool.or_eq_true, Bool.and_eq_true, decide_eq_true_eq, bne_iff_ne, not_or, not_and, Classical.not_not]
    exact ⟨by omega, fun a => by rcases this.2 with b | b <;> omega⟩
theorem bad_same {p n : Int} (hp : 2 ≤ p) (T : Nat → UInt8) (i j : Nat) : badI p n T i j = badS p n T i j := by
  unfold badI badS
  cases hc : (decide ((i : Int) ≥ n) || decide ((j : Int) ≥ n)) with
  | false => simp
  | true =>
    rw [if_pos rfl, Bool.true_and]
    rw [Bool.eq_iff_iff]
    simp only [Bool.or_eq_true, Bool.not_eq_true']
    have h1 : vb p 0 (sub T (i * 36 + j * 6)) = zeroB (sub T (i * 36 + j * 6)) := by
      rw [Bool.eq_iff_iff, vb_iff, zero_iff]
      constructor
      · intro h q hq
        rcases (h q hq).2 with a | a
        · omega
        · exact a
      · intro h q hq
        rw [h q hq]; exact ⟨by omega, .inr rfl⟩
    rw [h1]
    constructor
    · rintro (h | h)
      · cases hz : zeroB (sub T (i * 36 + j * 6)) with
        | false => rfl
        | true =>
          have := zero_iff.1 hz
          have h3 : vb p n (sub T (i * 36 + j * 6)) = true := vb_iff.2 fun q hq => by rw [this q hq]; exact ⟨by omega, .inr rfl⟩
          rw [h] at h3; cases h3
      · exact h
    · exact fun h => .inr h
theorem specShape {p n : Int} (hp : primeB p = true) (hn : 1 ≤ n ∧ n ≤ 6) (T F : Nat → UInt8) : spec_l01Shape.f p n T F = some (!((List.range 6).any fun i => (List.range 6).any fun j => badI p n T i j) && vb p n F) := by
  have hp2 := primeB_le hp
  unfold spec_l01Shape.f spec_l01In.f
  rw [specPrime, hp]
  simp only [Option.bind_some, Bool.not_true, cond_false]
  rw [decide_eq_true (show n ≥ 1 from hn.1), decide_eq_true (show n ≤ 6 from hn.2)]
  simp only [Bool.and_self, Bool.not_true, cond_false]
  rw [specVec, specTable p n T]
  have e : ((List.range 6).any fun i => (List.range 6).any fun j => badS p n T i j) = ((List.range 6).any fun i => (List.range 6).any fun j => badI p n T i j) := by
    refine any_congr fun i _ => any_congr fun j _ => (bad_same (by omega) T i j).symm
  rw [e]
  cases (List.range 6).any (fun i => (List.range 6).any fun j => badI p n T i j) <;> cases vb p n F <;> rfl
/-- Products that are not associative. -/
def asB (p : Int) (n : Nat) (T : Nat → UInt8) (i j k : Nat) : Bool := !((List.range 6).all fun i_ => (((tmF p n T (sub T (i * 36 + j * 6)) (bs k)) i_).toNat : Int) == (((tmF p n T (bs i) (sub T (j * 36 + k * 6))) i_).toNat : Int))
section
variable {p : Int} {n : Nat} (hp : 2 ≤ p ∧ p ≤ 13) (hn : n ≤ 6) (T F : Nat → UInt8)
include hp hn
theorem implAssoc : impl_Algebra_associative.f p n T F = some (!((List.range n).any fun i => (List.range n).any fun j => (List.range n).any fun k => asB p n T i j k)) := by
  unfold impl_Algebra_associative.f
  have en : impl_Algebra_n.f p n T F = some (n : Int) := rfl
  rw [en, Option.bind_some]
  have h2 := loop_any (f := impl_Algebra_associative.b2 n p n T F) (fun i => (i : Int)) n (fun i => (List.range n).any fun j => (List.range n).any fun k => asB p n T i j k) false (n : Int) (by omega) (fun i hi => by
    unfold impl_Algebra_associative.b2
    simp only [dlt_nat, hi, decide_true, cond_true]
    rw [en, Option.bind_some]
    have h1 := loop_any (f := impl_Algebra_associative.b1 n p n T F i) (fun j => (j : Int)) n (fun j => (List.range n).any fun k => asB p n T i j k) (.ret false) (n : Int) (by omega) (fun j hj => by
      unfold impl_Algebra_associative.b1
      simp only [dlt_nat, hj, decide_true, cond_true]
      rw [en, Option.bind_some]
      have h0 := loop_any (f := impl_Algebra_associative.b0 n i j p n T F) (fun k => (k : Int)) n (fun k => asB p n T i j k) (.ret (.ret false)) (n : Int) (by omega) (fun k hk => by
        unfold impl_Algebra_associative.b0
        simp only [dlt_nat, hk, decide_true, cond_true]
        rw [chk_in (by omega), chk_in (by omega), implBasis (by omega)]
        simp only [Option.bind_some, Int.toNat_natCast]
        rw [implTimes hp hn]
        simp only [Option.bind_some]
        rw [implBasis (by omega)]
        simp only [Option.bind_some]
        rw [chk_in (by omega), implTimes hp hn]
        simp only [Option.bind_some]
        rw [w64_succ (by omega)]
        unfold asB
        cases (!((List.range 6).all fun i_ => (((tmF p n T (sub T (i * 36 + j * 6)) (bs k)) i_).toNat : Int) == (((tmF p n T (bs i) (sub T (j * 36 + k * 6))) i_).toNat : Int))) <;> rfl) (by
        unfold impl_Algebra_associative.b0
        simp)
      have h0' : loop (impl_Algebra_associative.b0 n i j p n T F) 0 = _ := h0
      rw [h0', w64_succ (by omega)]
      cases (List.range n).any (fun k => asB p n T i j k) <;> rfl) (by
      unfold impl_Algebra_associative.b1
      simp)
    have h1' : loop (impl_Algebra_associative.b1 n p n T F i) 0 = _ := h1
    rw [h1', w64_succ (by omega)]
    cases (List.range n).any (fun j => (List.range n).any fun k => asB p n T i j k) <;> rfl) (by
    unfold impl_Algebra_associative.b2
    simp)
  have h2' : loop (impl_Algebra_associative.b2 n p n T F) 0 = _ := h2
  rw [h2']
  cases (List.range n).any (fun i => (List.range n).any fun j => (List.range n).any fun k => asB p n T i j k) <;> rfl
theorem specAssoc : loop (spec_l01Algebra.b2 n p T F) 0 = some (bif ((List.range n).any fun i => (List.range n).any fun j => (List.range n).any fun k => asB p n T i j k) then .ret false else .brk (n : Int)) := by
  have h2 := loop_any (f := spec_l01Algebra.b2 n p T F) (fun i => (i : Int)) n (fun i => (List.range n).any fun j => (List.range n).any fun k => asB p n T i j k) false (n : Int) (by omega) (fun i hi => by
    unfold spec_l01Algebra.b2
    simp only [dlt_nat, hi, decide_true, cond_true]
    have h1 := loop_any (f := spec_l01Algebra.b1 n i p T F) (fun j => (j : Int)) n (fun j => (List.range n).any fun k => asB p n T i j k) (.ret false) (n : Int) (by omega) (fun j hj => by
      unfold spec_l01Algebra.b1
      simp only [dlt_nat, hj, decide_true, cond_true]
      have h0 := loop_any (f := spec_l01Algebra.b0 n i j p T F) (fun k => (k : Int)) n (fun k => asB p n T i j k) (.ret (.ret false)) (n : Int) (by omega) (fun k hk => by
        unfold spec_l01Algebra.b0
        simp only [dlt_nat, hk, decide_true, cond_true]
        rw [chk_in (by omega), chk_in (by omega), specBasis (by omega)]
        simp only [Option.bind_some, Int.toNat_natCast]
        rw [specTimes hp hn]
        simp only [Option.bind_some]
        rw [specBasis (by omega)]
        simp only [Option.bind_some]
        rw [chk_in (by omega), specTimes hp hn]
        simp only [Option.bind_some]
        rw [w64_succ (by omega)]
        unfold asB
        cases (!((List.range 6).all fun i_ => (((tmF p n T (sub T (i * 36 + j * 6)) (bs k)) i_).toNat : Int) == (((tmF p n T (bs i) (sub T (j * 36 + k * 6))) i_).toNat : Int))) <;> rfl) (by
        unfold spec_l01Algebra.b0
        simp)
      have h0' : loop (spec_l01Algebra.b0 n i j p T F) 0 = _ := h0
      rw [h0', w64_succ (by omega)]
      cases (List.range n).any (fun k => asB p n T i j k) <;> rfl) (by
      unfold spec_l01Algebra.b1
      simp)
    have h1' : loop (spec_l01Algebra.b1 n i p T F) 0 = _ := h1
    rw [h1', w64_succ (by omega)]
    cases (List.range n).any (fun j => (List.range n).any fun k => asB p n T i j k) <;> rfl) (by
    unfold spec_l01Algebra.b2
    simp)
  exact h2
end
theorem ia_same (a1 a2 : Int) (T F : Nat → UInt8) : ∃ b, impl_IsAlgebra.f a1 a2 T F = some b ∧ spec_IsAlgebra.f a1 a2 T F = some b := by
  unfold impl_IsAlgebra.f spec_IsAlgebra.f spec_l01Algebra.f
  rw [implPrime]
  cases hp : primeB a1 with
  | false =>
    refine ⟨false, rfl, ?_⟩
    unfold spec_l01Shape.f
    rw [specPrime, hp]; rfl
  | true =>
    by_cases hn : 1 ≤ a2 ∧ a2 ≤ 6
    · obtain ⟨p, rfl, hpn, hp2, hp13⟩ := prime_nat hp
      obtain ⟨n, rfl⟩ := Int.eq_ofNat_of_zero_le (show 0 ≤ a2 by omega)
      have hp0 : (2 : Int) ≤ (p : Int) ∧ (p : Int) ≤ 13 := by omega
      rw [specShape hp hn T F]
      unfold impl_in.f
      simp only [Option.bind_some, Bool.not_true, cond_false]
      rw [decide_eq_true (show (n : Int) ≥ 1 from hn.1), decide_eq_true (show (n : Int) ≤ 6 from hn.2)]
      simp only [Bool.and_self, Bool.not_true, cond_false]
      rw [implTable]
      cases ht : (!((List.range 6).any fun i => (List.range 6).any fun j => badI p n T i j) && vb p n F) with
      | false => exact ⟨false, rfl, rfl⟩
      | true =>
        simp only [Option.bind_some, Bool.not_true, cond_false]
        rw [implAssoc hp0 (by omega), specAssoc hp0 (by omega)]
        cases ha : (List.range n).any (fun i => (List.range n).any fun j => (List.range n).any fun k => asB p n T i j k) with
        | true => exact ⟨false, rfl, rfl⟩
        | false =>
          have hT : ∀ i j k, i < n → j < n → k < n → tn T i j k < p := by
            intro i j k hi hj hk
            have h1 := (Bool.and_eq_true _ _ ▸ ht).1
            rw [Bool.not_eq_true', List.any_eq_false] at h1
            have h3 := h1 i (List.mem_range.2 (by omega))
            rw [Bool.not_eq_true, List.any_eq_false] at h3
            have h4 := h3 j (List.mem_range.2 (by omega))
            unfold badI at h4
            simp only [Bool.or_eq_true, Bool.not_eq_true', not_or, Bool.not_eq_false] at h4
            exact (vb_iff.1 h4.1 k (by omega)).1
          obtain ⟨w, ok, e1, h1⟩ := implUnit hpn ⟨hp2, hp13⟩ (by omega) T F hT
          obtain ⟨w', ok', e2, h2⟩ := specUnit hpn ⟨hp2, hp13⟩ (by omega) T F hT
          have hok : ok = ok' := by rw [Bool.eq_iff_iff, h1, h2]
          simp only [Option.bind_some, Bool.not_false, Bool.not_true, cond_false, ln]
          rw [e1, e2]
          exact ⟨ok, rfl, by rw [hok]; rfl⟩
    · refine ⟨false, ?_, ?_⟩
      · unfold impl_in.f
        have : (decide (a2 ≥ 1) && decide (a2 ≤ 6)) = false := by
          rw [Bool.and_eq_false_iff]; simp only [decide_eq_false_iff_not]; omega
        rw [this]; rfl
      · unfold spec_l01Shape.f spec_l01In.f
        have : (decide (a2 ≥ 1) && decide (a2 ≤ 6)) = false := by
          rw [Bool.and_eq_false_iff]; simp only [decide_eq_false_iff_not]; omega
        rw [specPrime, hp, this]; rfl
theorem plain_FnExactIsAlgebra (a1 a2 : Int) (a3 a4 : Nat → UInt8) (_w1 : IntKind.i64.has a1) (_w2 : IntKind.i64.has a2) : laws_FnExactIsAlgebra.f a1 a2 a3 a4 = some true := by
  unfold laws_FnExactIsAlgebra.f laws_toAlgebra.f
  obtain ⟨T, hT⟩ := toA666 a3
  obtain ⟨F, hF⟩ := toV a4
  rw [hT]
  simp only [Option.bind_some]
  rw [hF]
  simp only [Option.bind_some]
  obtain ⟨b, e1, e2⟩ := ia_same a1 a2 T F
  rw [e2]
  simp only [Option.bind_some]
  rw [e1]
  simp
end Go.Proofs.Ytiiljfpbcanphaa.G

/- Arg: a law's arguments, as they come in, in the calculus' own words. -/
namespace Go.Sx
open Go.RowKit

theorem okWide_agg {P : Program} {W : World} {r : Reach} {base : Nat} {t : TypeId} {v : Value} {ts : List TypeId} (ht : (match P.underlying t with | some (.struct _) | some (.array _ _) => true | _ => false) = true) (hts : P.cellTypes P.depth t = some ts) (h : Value.okWide P W r base t v) :
    ∃ cs, v = .agg cs ∧ cs.size = P.cellsOf t ∧ ∀ i u, cs[i]? = some u → ∃ k, ts[i % ts.length]? = some k ∧ Cell.okWide P W r base k u := by
  unfold Value.okWide at h
  split at h
  · obtain ⟨cs, h1, h2, ts', h3, _, h4⟩ := h
    rw [hts] at h3; obtain rfl := Option.some.inj h3
    exact ⟨cs, h1, h2, h4⟩
  · obtain ⟨cs, h1, h2, ts', h3, _, h4⟩ := h
    rw [hts] at h3; obtain rfl := Option.some.inj h3
    exact ⟨cs, h1, h2, h4⟩
  · rename_i h1 h2
    exfalso
    split at ht
    · exact h1 _ ‹_›
    · exact h2 _ _ ‹_›
    · cases ht

theorem okWide_int {P : Program} {W : World} {r : Reach} {base : Nat} {t : TypeId} {k : IntKind} {v : Value} (ht : P.underlying t = some (.int k)) (h : Cell.okWide P W r base t v) : ∃ n, v = .int k n ∧ k.has n := by
  unfold Cell.okWide at h
  rw [ht] at h
  unfold Cell.ok at h
  rw [ht] at h
  cases v <;> simp at h
  rename_i k' n
  obtain ⟨rfl, h2⟩ := h
  exact ⟨n, rfl, h2⟩

theorem u8block (cs : Array Value) (o m : Nat) (h : ∀ i, o ≤ i → i < o + m → ∃ n, cs[i]? = some (.int .u8 n) ∧ IntKind.u8.has n) : ∃ t : Nat → UInt8, (cs.toList.drop o).take m = flat [.arr m (enf u8v t)] := by
  refine ⟨fun k => match cs[o + k]? with | some (.int _ n) => UInt8.ofInt n | _ => 0, ?_⟩
  apply List.ext_getElem?
  intro i
  simp only [flat, Seg.cells, List.append_nil, List.getElem?_take, List.getElem?_drop, List.getElem?_map]
  by_cases hi : i < m
  · obtain ⟨n, hn, hw⟩ := h (o + i) (by omega) (by omega)
    have hn' : cs.toList[o + i]? = some (.int .u8 n) := by simpa using hn
    rw [if_pos hi, List.getElem?_range hi, hn']
    simp only [Option.map_some, enf, hn]
    congr 1
    rw [← conv_i64_u8]
    congr 1
    have hw' : 0 ≤ n ∧ n ≤ 255 := by
      simp only [IntKind.has, IntKind.min, IntKind.max, IntKind.signed, IntKind.bits] at hw
      simpa using hw
    rw [IntKind.wrap_u8]; omega
  · rw [if_neg hi]
    simp [hi]

theorem okWideV_int {P : Program} {W : World} {r : Reach} {base : Nat} {t : TypeId} {k : IntKind} {v : Value} (ht : P.underlying t = some (.int k)) (h : Value.okWide P W r base t v) : ∃ n, v = .int k n ∧ k.has n := by
  unfold Value.okWide at h
  rw [ht] at h
  exact okWide_int ht h
theorem okWideV_string {P : Program} {W : World} {r : Reach} {base : Nat} {t : TypeId} {v : Value} (ht : P.underlying t = some .string) (h : Value.okWide P W r base t v) : ∃ l : Str, v = strv l := by
  unfold Value.okWide at h
  rw [ht] at h
  simp only at h
  unfold Cell.okWide at h
  rw [ht] at h
  unfold Cell.ok at h
  rw [ht] at h
  cases v <;> simp at h
  rename_i s
  exact ⟨s.data.toList, by simp [strv]⟩
theorem i64cell (cs : Array Value) (o : Nat) (ho : o < cs.size) (h : ∀ u, cs[o]? = some u → ∃ n, u = .int .i64 n ∧ IntKind.i64.has n) : ∃ x, (cs.toList.drop o).take 1 = flat [.one (.int .i64 x)] ∧ IntKind.i64.has x := by
  obtain ⟨n, hn, hw⟩ := h cs[o] (by simp [ho])
  refine ⟨n, ?_, hw⟩
  have hl : o < cs.toList.length := by simpa using ho
  rw [List.drop_eq_getElem_cons hl, List.take_succ_cons, List.take_zero]
  simp [flat, Seg.cells, hn]
def pieces (l : List Value) : Nat → List Nat → List Value
  | _, [] => []
  | o, m :: r => (l.drop o).take m ++ pieces l (o + m) r
theorem pieces_eq (l : List Value) : ∀ (ns : List Nat) (o : Nat), l.length = o + ns.sum → pieces l o ns = l.drop o
  | [], o, h => by
    simp only [List.sum_nil, Nat.add_zero] at h
    simp [pieces, h]
  | m :: r, o, h => by
    simp only [List.sum_cons] at h
    rw [pieces, pieces_eq l r (o + m) (by omega), ← List.drop_drop, List.take_append_drop]

theorem encs_ints (ys : List Int) : encs Ei ys = ys.map (Value.int .i64) := by
  induction ys with
  | nil => rfl
  | cons y ys ih => simp only [encs, List.flatMap_cons, List.map_cons] at ih ⊢; rw [ih]; rfl
theorem okWideV_slice {P : Program} {W : World} {r : Reach} {base : Nat} {t e : TypeId} {v : Value} (ht : P.underlying t = some (.slice e)) (h : Value.okWide P W r base t v) : ∃ a n c, v = .slice a n c := by
  unfold Value.okWide at h
  rw [ht] at h
  simp only at h
  unfold Cell.okWide at h
  rw [ht] at h
  simp only at h
  unfold Cell.ok at h
  rw [ht] at h
  cases v <;> simp at h
  exact ⟨_, _, _, rfl⟩
/-- A slice of whole numbers that comes in. -/
theorem okWideV_ints {H : Type} {r : Reach} {base : Nat} {enc : TypeId × Value → H} {P : Program} {W : World} {sp : Nat → Bool} {held : Bool} {t e : TypeId} {v : Value} {d : DataW H} {p : List MemPlace} (ht : P.underlying t = some (.slice e)) (he : P.underlying e = some (.int .i64)) (hc : P.cellsOf e = 1)
    (hv : Value.okWide P W r base t v) (h : DataW.Trod enc P W 0 sp held t v d p) : ∃ (s : SV) (ys : List Int) (el spare : List (DataW H)), v = s.v ∧ Reads Ei (hp W) s ys ∧ (∀ x ∈ ys, IntKind.i64.has x) ∧ ((d = .nil ∧ ys = []) ∨ (d = .slice el spare ∧ ys.length = el.length + 0)) := by
  obtain ⟨m, hm⟩ := h
  obtain ⟨a1, n1, c1, rfl⟩ := okWideV_slice ht hv
  have hcl : (Value.slice a1 n1 c1).cells.toList = [Value.slice a1 n1 c1] := rfl
  rw [hcl] at hm
  rcases ChangeShapes.open_ints ht he hc hm with ⟨h1, h2⟩ | ⟨a, len, cap, zs, h1, _, h3, h4, h5, h6, h7, h8⟩
  · injection h1 with h1
    injection h2 with h2
    exact ⟨⟨none, 0, 0⟩, [], [], [], h1, ⟨rfl, Nat.le_refl _, by simp [maxLen], .inl rfl⟩, by simp, .inl ⟨h2, rfl⟩⟩
  · injection h1 with h1
    injection h6 with h6
    have hlen : len ≤ zs.length := by rw [h5]; split <;> omega
    refine ⟨⟨some a, len, cap⟩, zs.take len, _, _, h1, ⟨by simp; omega, h3, h4, ?_⟩, ?_, .inr ⟨h6, by simp [ChangeShapes.lits]⟩⟩
    · by_cases hl : len = 0
      · left; subst hl; simp
      · right
        have h0 := h7 0 (by omega)
        obtain ⟨b, o, sp'⟩ := a
        have e0 : (⟨b, o, sp'⟩ : Addr).add 0 = ⟨b, o, sp'⟩ := by simp [Addr.add]
        rw [e0] at h0
        unfold World.cell? at h0
        split at h0
        · rename_i cs T fr hb
          have hsp : sp' = none := by
            cases sp' with
            | none => rfl
            | some x => simp at h0
          subst hsp
          refine ⟨b, o, cs, T, fr, rfl, hb, ?_⟩
          intro j u hu
          rw [encs_ints, List.getElem?_map, List.getElem?_take] at hu
          split at hu
          · rename_i hj
            have hz := h7 j (by omega)
            rw [add_none, cell_at hb] at hz
            rw [hz, ← hu]
            have : zs[j]? = some (zs[j]'(by omega)) := List.getElem?_eq_getElem _
            simp [List.getD, this]
          · simp at hu
        · cases h0
    · intro x hx
      have := h8 x (List.mem_of_mem_take hx)
      simp only [Lit.wf, Bool.and_eq_true, decide_eq_true_eq] at this
      exact this

theorem reads_of {β : Type} {E : FE β} {W : World} {a : Addr} {n cap : Nat} {ys : List β} (hn : n = ys.length) (hpos : 0 < E.sz) (hc : ∀ (j : Nat) (u : Value), (encs E ys)[j]? = some u → W.cell? (a.add j) = some u) (h1 : n ≤ cap) (h2 : cap ≤ maxLen) : Reads E (hp W) ⟨some a, n, cap⟩ ys := by
  subst hn
  refine ⟨rfl, h1, h2, ?_⟩
  cases ys with
  | nil => exact .inl rfl
  | cons y ys =>
    right
    have hl : 0 < (encs E (y :: ys)).length := by rw [encs_length, List.length_cons, Nat.add_mul]; omega
    have h0 := hc 0 _ (List.getElem?_eq_getElem hl)
    obtain ⟨b, o, sp'⟩ := a
    have e0 : (⟨b, o, sp'⟩ : Addr).add 0 = ⟨b, o, sp'⟩ := by simp [Addr.add]
    rw [e0] at h0
    unfold World.cell? at h0
    split at h0
    · rename_i cs T fr hb
      have hsp : sp' = none := by
        cases sp' with
        | none => rfl
        | some x => simp at h0
      subst hsp
      refine ⟨b, o, cs, T, fr, rfl, hb, ?_⟩
      intro j u hu
      have := hc j u hu
      rwa [add_none, cell_at hb] at this
    · cases h0
theorem encs_svs (ys : List SV) : encs Ev ys = ys.map SV.v := by
  induction ys with
  | nil => rfl
  | cons y ys ih => simp only [encs, List.flatMap_cons, List.map_cons] at ih ⊢; rw [ih]; rfl
theorem Reads.len_le {β : Type} {E : FE β} {I : Hp} {s : SV} {ys : List β} (h : Reads E I s ys) : ys.length ≤ 9223372036854775807 := by
  obtain ⟨h0, h1, h2, _⟩ := h
  have : maxLen = 9223372036854775807 := rfl
  omega
/-- A slice of slices of whole numbers that comes in. -/
theorem okWideV_introws {H : Type} {r : Reach} {base : Nat} {enc : TypeId × Value → H} {P : Program} {W : World} {held : Bool} {t e q : TypeId} {v : Value} {d : DataW H} {p : List MemPlace} (ht : P.underlying t = some (.slice e)) (he : P.underlying e = some (.slice q)) (hq : P.underlying q = some (.int .i64)) (ce : P.cellsOf e = 1) (cq : P.cellsOf q = 1)
    (hv : Value.okWide P W r base t v) (h : DataW.Trod enc P W 0 (fun _ => true) held t v d p) : ∃ (s : SV) (ss : List SV) (yss : List (List Int)), v = s.v ∧ ReadsM Ei (hp W) s ss yss ∧ (∀ r ∈ yss, ∀ x ∈ r, IntKind.i64.has x) ∧ (∀ r ∈ yss, r.length ≤ 9223372036854775807) ∧ yss.length ≤ 9223372036854775807 := by
  obtain ⟨m, hm⟩ := h
  obtain ⟨a1, n1, c1, rfl⟩ := okWideV_slice ht hv
  have hcl : (Value.slice a1 n1 c1).cells.toList = [Value.slice a1 n1 c1] := rfl
  rw [hcl] at hm
  rcases Deep.open_int_rows ht he hq ce cq hm with ⟨h1, h2⟩ | ⟨a, len, cap, A, L, C, Z, h1, _, h3, h4, _, h5⟩
  · injection h1 with h1
    exact ⟨⟨none, 0, 0⟩, [], [], h1, ⟨⟨rfl, Nat.le_refl _, by simp [maxLen], .inl rfl⟩, rfl, by simp⟩, by simp, by simp, by simp⟩
  · injection h1 with h1
    have key : ∀ r, r < len → Reads Ei (hp W) ⟨A r, L r, C r⟩ ((Z r).take (L r)) := by
      intro r hr
      obtain ⟨g1, g2, g3, g4, g5, g6, g7⟩ := h5 r (by omega)
      cases hA : A r with
      | none =>
        have := g6 hA
        have hL : L r = 0 := by omega
        rw [hL]
        exact ⟨rfl, Nat.zero_le _, g3, .inl rfl⟩
      | some a' =>
        refine reads_of (by simp; omega) (by decide) ?_ g2 g3
        intro j u hu
        rw [encs_ints, List.getElem?_map, List.getElem?_take] at hu
        split at hu
        · rename_i hj
          have hz := (g7 a' hA).2 j (by omega)
          rw [hz, ← hu]
          have : (Z r)[j]? = some ((Z r)[j]'(by omega)) := List.getElem?_eq_getElem _
          simp [List.getD, this]
        · simp at hu
    have hM : ReadsM Ei (hp W) ⟨some a, len, cap⟩ ((List.range len).map fun r => ⟨A r, L r, C r⟩) ((List.range len).map fun r => (Z r).take (L r)) := by
      refine ⟨reads_of (by simp) (by decide) ?_ h3 h4, by simp, ?_⟩
      · intro j u hu
        rw [encs_svs, List.map_map, List.getElem?_map] at hu
        by_cases hj : j < len
        · rw [List.getElem?_range hj] at hu
          have := (h5 j (by omega)).1
          rw [this, ← hu]; rfl
        · simp [hj] at hu
      · intro j u ys h1 h2
        by_cases hj : j < len
        · rw [List.getElem?_map, List.getElem?_range hj] at h1 h2
          obtain rfl := Option.some.inj h1
          obtain rfl := Option.some.inj h2
          exact key j hj
        · simp [hj] at h1
    refine ⟨⟨some a, len, cap⟩, _, _, h1, hM, ?_, ?_, hM.2.1 ▸ hM.1.len_le⟩
    · intro r hr x hx
      obtain ⟨i, hi, rfl⟩ := List.mem_map.1 hr
      have := (h5 i (by have := List.mem_range.1 hi; omega)).2.2.2.2.1 x (List.mem_of_mem_take hx)
      simp only [Lit.wf, Bool.and_eq_true, decide_eq_true_eq] at this
      exact this
    · intro r hr
      obtain ⟨i, hi, rfl⟩ := List.mem_map.1 hr
      exact (key i (List.mem_range.1 hi)).len_le

theorem mapM_get {α β : Type} {f : α → Option β} : ∀ {l : List α} {xs : List β}, l.mapM f = some xs → ∀ {i : Nat} {a : α}, l[i]? = some a → ∃ y, f a = some y
  | [], _, _, _, _, h => by simp at h
  | a :: l, xs, hm, i, b, h => by
    rw [List.mapM_cons] at hm
    obtain ⟨y, hy, h2⟩ := Option.bind_eq_some_iff.1 hm
    obtain ⟨ys, hys, _⟩ := Option.bind_eq_some_iff.1 h2
    cases i with
    | zero => simp at h; subst h; exact ⟨y, hy⟩
    | succ i => exact mapM_get hys (by simpa using h)
/-- A slice of whole numbers that is a field of a struct that comes in. -/
theorem structInts {H : Type} {enc : TypeId × Value → H} {P : Program} {W : World} {sp : Nat → Bool} {held : Bool} {t e : TypeId} {fs : Array Field} {f : Field} {cs : Array Value} {d : DataW H} {p : List MemPlace} (ht : P.underlying t = some (.struct fs)) (h : DataW.Trod enc P W 0 sp held t (.agg cs) d p) (i : Nat) (hf : fs[i]? = some f)
    (hu : P.underlying f.type = some (.slice e)) (he : P.underlying e = some (.int .i64)) (hc : P.cellsOf e = 1) (h1 : P.cellsOf f.type = 1) {o : Nat} (ho : f.offset = o) :
    ∃ (s : SV) (ys : List Int), (cs.toList.drop o).take 1 = flat [.one (SV.v s)] ∧ Reads Ei (hp W) s ys ∧ (∀ x ∈ ys, IntKind.i64.has x) := by
  obtain ⟨m, hm⟩ := h
  have hcl : (Value.agg cs).cells.toList = cs.toList := rfl
  rw [hcl] at hm
  cases m with
  | zero => simp [DataW.trod] at hm
  | succ m =>
    unfold DataW.trod at hm
    rw [ht] at hm
    simp only at hm
    split at hm
    · obtain ⟨xs, hxs, _⟩ := Option.map_eq_some_iff.1 hm
      obtain ⟨y, hy⟩ := mapM_get hxs (i := i) (a := f) (by simpa using hf)
      rw [h1, ho] at hy
      rcases ChangeShapes.open_ints hu he hc hy with ⟨g1, g2⟩ | ⟨a, len, cap, zs, g1, _, g3, g4, g5, g6, g7, g8⟩
      · exact ⟨⟨none, 0, 0⟩, [], by rw [g1]; rfl, ⟨rfl, Nat.le_refl _, by simp [maxLen], .inl rfl⟩, by simp⟩
      · have hlen : len ≤ zs.length := by rw [g5]; split <;> omega
        refine ⟨⟨some a, len, cap⟩, zs.take len, by rw [g1]; rfl, reads_of (by simp; omega) (by decide) ?_ g3 g4, ?_⟩
        · intro j u hu'
          rw [encs_ints, List.getElem?_map, List.getElem?_take] at hu'
          split at hu'
          · rename_i hj
            have hz := g7 j (by omega)
            rw [hz, ← hu']
            have : zs[j]? = some (zs[j]'(by omega)) := List.getElem?_eq_getElem _
            simp [List.getD, this]
          · simp at hu'
        · intro x hx
          have := g8 x (List.mem_of_mem_take hx)
          simp only [Lit.wf, Bool.and_eq_true, decide_eq_true_eq] at this
          exact this
    · cases hm

/-- The cells of an array of bytes that comes in. -/
theorem trod_u8s {H : Type} {enc : TypeId × Value → H} {P : Program} {W : World} {base : Nat} {sp : Nat → Bool} {held : Bool} {e q : TypeId} {N n : Nat} {cs : List Value} {x : DataW H × List MemPlace} (he : P.underlying e = some (.array N q)) (hq : P.underlying q = some (.int .u8)) (cq : P.cellsOf q = 1) (ce : P.cellsOf e = N)
    (h : DataW.trod enc P W base sp held n e cs = some x) : ∃ t : Nat → UInt8, cs = flat [.arr N (enf u8v t)] := by
  cases n with
  | zero => simp [DataW.trod] at h
  | succ n =>
    unfold DataW.trod at h
    rw [he] at h
    simp only at h
    split at h
    · rename_i hlen
      rw [ce] at hlen
      obtain ⟨xs, hxs, _⟩ := Option.map_eq_some_iff.1 h
      obtain ⟨t, ht⟩ := u8block cs.toArray 0 N (fun i _ hi => by
        obtain ⟨y, hy⟩ := mapM_get hxs (i := i) (a := i) (by rw [List.getElem?_range (by omega)])
        rw [cq, Nat.mul_one] at hy
        have hi' : i < cs.length := by omega
        rw [List.drop_eq_getElem_cons hi', List.take_succ_cons, List.take_zero] at hy
        cases n with
        | zero => simp [DataW.trod] at hy
        | succ n =>
          unfold DataW.trod at hy
          rw [hq] at hy
          cases hc : cs[i] <;> rw [hc] at hy <;> simp only at hy <;> try cases hy
          rename_i k' z
          split at hy
          · rename_i hw
            obtain ⟨rfl, hw⟩ := hw
            refine ⟨z, by simp [hi', hc], ?_⟩
            simp only [Lit.wf, Bool.and_eq_true, decide_eq_true_eq] at hw
            exact hw
          · cases hy)
      refine ⟨t, ?_⟩
      rw [← ht, List.drop_zero]
      exact (List.take_of_length_le (by omega)).symm
    · cases h
/-- A slice of arrays of bytes that comes in. -/
theorem okWideV_vecs {H : Type} {r : Reach} {base : Nat} {enc : TypeId × Value → H} {P : Program} {W : World} {held : Bool} {sp : Nat → Bool} {t e q : TypeId} {N : Nat} {v : Value} {d : DataW H} {p : List MemPlace} (ht : P.underlying t = some (.slice e)) (he : P.underlying e = some (.array N q)) (hq : P.underlying q = some (.int .u8)) (ce : P.cellsOf e = N) (cq : P.cellsOf q = 1) (hN : 0 < N)
    (hv : Value.okWide P W r base t v) (h : DataW.Trod enc P W 0 sp held t v d p) : ∃ (s : SV) (ys : List (Nat → UInt8)), v = s.v ∧ Reads (Evec N) (hp W) s ys ∧ ys.length ≤ 9223372036854775807 := by
  obtain ⟨m, hm⟩ := h
  obtain ⟨a1, n1, c1, rfl⟩ := okWideV_slice ht hv
  have hcl : (Value.slice a1 n1 c1).cells.toList = [Value.slice a1 n1 c1] := rfl
  rw [hcl] at hm
  rcases Deep.open_slice ht hm with ⟨h1, h2⟩ | ⟨a, len, cap, m', n', D, Pl, h1, _, h3, h4, h5, _, h7⟩
  · injection h1 with h1
    exact ⟨⟨none, 0, 0⟩, [], h1, ⟨rfl, Nat.le_refl _, by simp [maxLen], .inl rfl⟩, by simp⟩
  · injection h1 with h1
    have hlen : len ≤ m' := by rw [h5]; split <;> omega
    obtain ⟨T, hT⟩ := Deep.choose_lt (n := len) (α := Nat → UInt8) (p := fun i t => W.cells? 0 (a.add (i * N)) N = some (flat [.arr N (enf u8v t)])) (fun i hi => by
      obtain ⟨cs', g1, g2⟩ := h7 i (by omega)
      obtain ⟨t, rfl⟩ := trod_u8s he hq cq ce g2
      rw [ce] at g1
      exact ⟨t, g1⟩)
    have hR : Reads (Evec N) (hp W) ⟨some a, len, cap⟩ ((List.range len).map T) := by
      refine reads_of (by simp) hN ?_ h3 h4
      intro j u hu
      have hjl : j < len * N := by
        have := (List.getElem?_eq_some_iff.1 hu).1
        rw [encs_length] at this
        simpa [Evec] using this
      have hjd : j / N < len := by rw [Nat.div_lt_iff_lt_mul hN]; exact hjl
      have hjm : j % N < N := Nat.mod_lt _ hN
      have e1 : j / N * (Evec N).sz + j % N = j := by
        have := Nat.div_add_mod j N
        show j / N * N + j % N = j
        rw [Nat.mul_comm]; exact this
      have h8 := encs_get (Evec N) ((List.range len).map T) (j / N) (j % N) (T (j / N)) (by simp [hjd]) hjm
      rw [e1, hu] at h8
      obtain ⟨_, _, g3⟩ := World.cells?_some (hT (j / N) hjd)
      have h9 := (g3 (j % N) hjm).trans h8.symm
      rw [Deep.add_add] at h9
      rw [show j / N * N + j % N = j from e1] at h9
      exact h9
    exact ⟨⟨some a, len, cap⟩, _, h1, hR, hR.len_le⟩
theorem u8v_of {z : Int} (h : IntKind.u8.has z) : u8v (UInt8.ofInt z) = .int .u8 z := by
  have hw' : 0 ≤ z ∧ z ≤ 255 := by
    simp only [IntKind.has, IntKind.min, IntKind.max, IntKind.signed, IntKind.bits] at h
    simpa using h
  rw [← conv_i64_u8]
  congr 1
  rw [IntKind.wrap_u8]; omega
theorem encs_bytes (ys : List UInt8) : encs Eu ys = ys.map u8v := by
  induction ys with
  | nil => rfl
  | cons y ys ih => simp only [encs, List.flatMap_cons, List.map_cons] at ih ⊢; rw [ih]; rfl
/-- A slice of bytes that comes in. -/
theorem okWideV_bytes {H : Type} {r : Reach} {base : Nat} {enc : TypeId × Value → H} {P : Program} {W : World} {sp : Nat → Bool} {held : Bool} {t e : TypeId} {v : Value} {d : DataW H} {p : List MemPlace} (ht : P.underlying t = some (.slice e)) (he : P.underlying e = some (.int .u8)) (hc : P.cellsOf e = 1)
    (hv : Value.okWide P W r base t v) (h : DataW.Trod enc P W 0 sp held t v d p) : ∃ (s : SV) (ys : List UInt8), v = s.v ∧ Reads Eu (hp W) s ys := by
  obtain ⟨m, hm⟩ := h
  obtain ⟨a1, n1, c1, rfl⟩ := okWideV_slice ht hv
  have hcl : (Value.slice a1 n1 c1).cells.toList = [Value.slice a1 n1 c1] := rfl
  rw [hcl] at hm
  rcases ChangeShapes.open_ints ht he hc hm with ⟨h1, h2⟩ | ⟨a, len, cap, zs, h1, _, h3, h4, h5, h6, h7, h8⟩
  · injection h1 with h1
    exact ⟨⟨none, 0, 0⟩, [], h1, ⟨rfl, Nat.le_refl _, by simp [maxLen], .inl rfl⟩⟩
  · injection h1 with h1
    have hlen : len ≤ zs.length := by rw [h5]; split <;> omega
    refine ⟨⟨some a, len, cap⟩, (zs.take len).map UInt8.ofInt, h1, reads_of (by simp; omega) (by decide) ?_ h3 h4⟩
    intro j u hu
    rw [encs_bytes, List.map_map, List.getElem?_map, List.getElem?_take] at hu
    split at hu
    · rename_i hj
      have hz := h7 j (by omega)
      have hg : zs[j]? = some (zs[j]'(by omega)) := List.getElem?_eq_getElem _
      have hw : IntKind.u8.has (zs[j]'(by omega)) := by
        have := h8 _ (List.getElem_mem (l := zs) (n := j) (by omega))
        simp only [Lit.wf, Bool.and_eq_true, decide_eq_true_eq] at this
        exact this
      rw [hg] at hu
      simp only [Option.map_some, Function.comp_apply, u8v_of hw] at hu
      rw [hz, ← hu]
      simp [List.getD, hg]
    · simp at hu
end Go.Sx
