/- Plain laws. -/
import Derived.Test.YtnppkcemnjkboaaMGenusOf4
import Derived.ProofKit
import Derived.OpenShut
import Derived.ShutString
import Derived.ChangeOld
import Derived.Carry
import Derived.SizedLaws
import Derived.ChangeSlices
import Derived.Deep.Matrix
/- Pl: plain laws of the loops, and of whole numbers. -/
namespace Go.Sx

theorem loopN_mono {σ ρ : Type} {f : σ → Option (LR σ ρ)} : ∀ {k s o}, loopN f k s = some o → ∀ {k'}, k ≤ k' → loopN f k' s = some o
  | 0, _, _, h, _, _ => by cases h
  | k + 1, s, o, h, k', hk => by
    obtain ⟨j, rfl⟩ : ∃ j, k' = j + 1 := ⟨k' - 1, by omega⟩
    simp only [loopN] at h ⊢
    split at h
    · cases h
    · exact loopN_mono h (by omega)
    · exact h
    · exact h

theorem loop_run {σ ρ : Type} {f : σ → Option (LR σ ρ)} (Inv : σ → Prop) (m : σ → Nat) (Q : LO σ ρ → Prop)
    (h : ∀ s, Inv s → (∃ s', f s = some (.next s') ∧ Inv s' ∧ m s' < m s) ∨ (∃ s', f s = some (.brk s') ∧ Q (.brk s')) ∨ (∃ r, f s = some (.ret r) ∧ Q (.ret r)))
    (s : σ) (hs : Inv s) (hm : m s < 4611686018427387904) : ∃ o, loop f s = some o ∧ Q o := by
  have key : ∀ k s, Inv s → m s < k → ∃ o, loopN f k s = some o ∧ Q o := by
    intro k
    induction k with
    | zero => intro s _ h; omega
    | succ k ih =>
      intro s hs hm
      rcases h s hs with ⟨s', h1, h2, h3⟩ | ⟨s', h1, h2⟩ | ⟨r, h1, h2⟩
      · obtain ⟨o, ho, hq⟩ := ih s' h2 (by omega)
        exact ⟨o, by simp only [loopN, h1]; exact ho, hq⟩
      · exact ⟨_, by simp only [loopN, h1], h2⟩
      · exact ⟨_, by simp only [loopN, h1], h2⟩
  obtain ⟨o, ho, hq⟩ := key (m s + 1) s hs (by omega)
  exact ⟨o, loopN_mono ho (by unfold FUEL; omega), hq⟩

theorem loop1_of {σ : Type} {f : σ → Option (LB σ)} {s s' : σ} (h : loop (ρ := Empty) (fun s => (f s).map LB.lr) s = some (.brk s')) : loop1 f s = some s' := by
  unfold loop1; rw [h]

theorem loop1_run {σ : Type} {f : σ → Option (LB σ)} (Inv : σ → Prop) (m : σ → Nat) (Q : σ → Prop)
    (h : ∀ s, Inv s → (∃ s', f s = some (.next s') ∧ Inv s' ∧ m s' < m s) ∨ (∃ s', f s = some (.brk s') ∧ Q s'))
    (s : σ) (hs : Inv s) (hm : m s < 4611686018427387904) : ∃ o, loop1 f s = some o ∧ Q o := by
  obtain ⟨o, ho, hq⟩ := loop_run (ρ := Empty) (f := fun s => (f s).map LB.lr) Inv m (fun o => match o with | .brk s => Q s | .ret r => nomatch r) (by
    intro s hs
    rcases h s hs with ⟨s', h1, h2, h3⟩ | ⟨s', h1, h2⟩
    · exact .inl ⟨s', by rw [h1]; rfl, h2, h3⟩
    · exact .inr (.inl ⟨s', by rw [h1]; rfl, h2⟩)) s hs hm
  cases o with
  | brk s' => exact ⟨s', loop1_of ho, hq⟩
  | ret r => exact nomatch r

theorem loop_of {σ ρ : Type} {f : σ → Option (LR σ ρ)} {s : σ} {o : LO σ ρ} {k : Nat} (h : loopN f k s = some o) (hk : k ≤ 4611686018427387904) : loop f s = some o :=
  loopN_mono h (by unfold FUEL; omega)

/-- A loop that counts up to n, and leaves by its end. -/
theorem loop_upto {σ ρ : Type} {f : σ → Option (LR σ ρ)} (S : Nat → σ) (n : Nat) (b : σ) (hn : n < 4611686018427387904) (step : ∀ i, i < n → f (S i) = some (.next (S (i + 1)))) (fin : f (S n) = some (.brk b)) : loop f (S 0) = some (.brk b) := by
  have key : ∀ d i, i + d = n → loopN f (d + 1) (S i) = some (.brk b) := by
    intro d
    induction d with
    | zero => intro i hi; obtain rfl : i = n := by omega
              simp only [loopN, fin]
    | succ d ih => intro i hi; rw [loopN, step i (by omega)]; exact ih (i + 1) (by omega)
  exact loop_of (key n 0 (by omega)) (by omega)
theorem loop1_upto {σ : Type} {f : σ → Option (LB σ)} (S : Nat → σ) (n : Nat) (b : σ) (hn : n < 4611686018427387904) (step : ∀ i, i < n → f (S i) = some (.next (S (i + 1)))) (fin : f (S n) = some (.brk b)) : loop1 f (S 0) = some b :=
  loop1_of (loop_upto (ρ := Empty) (f := fun s => (f s).map LB.lr) S n b hn (fun i hi => by rw [step i hi]; rfl) (by rw [fin]; rfl))

/-- A loop that counts up to n and looks for something. -/
theorem loop_find {σ ρ : Type} {f : σ → Option (LR σ ρ)} (S : Nat → σ) (n : Nat) (bad : Nat → Bool) (r : Nat → ρ) (b : σ) (hn : n < 4611686018427387904)
    (step : ∀ i, i < n → f (S i) = some (bif bad i then .ret (r i) else .next (S (i + 1)))) (fin : f (S n) = some (.brk b)) :
    loop f (S 0) = some (match (List.range n).find? bad with | some i => .ret (r i) | none => .brk b) := by
  have key : ∀ d i, i + d = n → loopN f (d + 1) (S i) = some (match (List.range' i d).find? bad with | some i => .ret (r i) | none => .brk b) := by
    intro d
    induction d with
    | zero => intro i hi; obtain rfl : i = n := by omega
              simp only [loopN, fin]; rfl
    | succ d ih =>
      intro i hi
      rw [loopN, step i (by omega), List.range'_succ, List.find?_cons]
      cases hb : bad i with
      | true => rfl
      | false => exact ih (i + 1) (by omega)
  rw [List.range_eq_range']
  exact loop_of (key n 0 (by omega)) (by omega)
theorem loop_any {σ ρ : Type} {f : σ → Option (LR σ ρ)} (S : Nat → σ) (n : Nat) (bad : Nat → Bool) (r : ρ) (b : σ) (hn : n < 4611686018427387904)
    (step : ∀ i, i < n → f (S i) = some (bif bad i then .ret r else .next (S (i + 1)))) (fin : f (S n) = some (.brk b)) :
    loop f (S 0) = some (bif (List.range n).any bad then .ret r else .brk b) := by
  rw [loop_find S n bad (fun _ => r) b hn step fin]
  cases hf : (List.range n).find? bad with
  | none =>
    have : (List.range n).any bad = false := by
      rw [List.any_eq_false]; intro x hx; have := List.find?_eq_none.1 hf x hx; simpa using this
    rw [this]; rfl
  | some i =>
    have : (List.range n).any bad = true := List.any_eq_true.2 ⟨i, List.mem_of_find?_eq_some hf, List.find?_some hf⟩
    rw [this]; rfl

theorem w64_in {x : Int} (h : -9223372036854775808 ≤ x ∧ x ≤ 9223372036854775807) : w64 x = x := IntWalk.i64_in x h
theorem w64_succ {i : Nat} (h : i < 4611686018427387904) : w64 ((i : Int) + 1) = ((i + 1 : Nat) : Int) := by rw [w64_in (by omega)]; omega
theorem w64_pred {i : Nat} (h : i < 4611686018427387904) : w64 (((i + 1 : Nat) : Int) - 1) = (i : Int) := by rw [w64_in (by omega)]; omega
theorem chk_in {α : Type} {i : Int} {n : Nat} {k : Option α} (h : 0 ≤ i ∧ i < n) : chk i n k = k := if_pos h
theorem nz_in {α : Type} {b : Int} {k : Option α} (h : b ≠ 0) : nz b k = k := if_neg h
theorem small_in {α : Type} {n : Nat} {k : Option α} (h : n ≤ 1099511627776) : small n k = k := if_pos h
theorem dlt_nat (i n : Nat) : decide ((i : Int) < (n : Int)) = decide (i < n) := by simp
theorem beq_nat (a b : Nat) : ((a : Int) == (b : Int)) = decide (a = b) := by rw [Bool.eq_iff_iff]; simp; omega
theorem beq_nat0 (a : Nat) : ((a : Int) == 0) = decide (a = 0) := by rw [Bool.eq_iff_iff]; simp
theorem bne_nat (a b : Nat) : ((a : Int) != (b : Int)) = !decide (a = b) := by rw [bne, beq_nat]
theorem bne_nat0 (a : Nat) : ((a : Int) != 0) = !decide (a = 0) := by rw [bne, beq_nat0]
theorem any_congr {n : Nat} {p q : Nat → Bool} (h : ∀ i, i < n → p i = q i) : (List.range n).any p = (List.range n).any q := by
  rw [Bool.eq_iff_iff]
  simp only [List.any_eq_true, List.mem_range]
  constructor
  · rintro ⟨i, hi, hp⟩; exact ⟨i, hi, by rw [← h i hi]; exact hp⟩
  · rintro ⟨i, hi, hp⟩; exact ⟨i, hi, by rw [h i hi]; exact hp⟩
end Go.Sx

/- So many numbers, told by a function. -/
namespace Go.Proofs.Ytnppkcemnjkboaa.G
open Go Go.Sx Go.Proofs
/-- So many numbers. -/
def lz (n : Nat) (g : Nat → Nat) : List Int := (List.range n).map fun k => (g k : Int)
theorem lz_length (n : Nat) (g : Nat → Nat) : (lz n g).length = n := by simp [lz]
theorem lz_gt {n : Nat} (g : Nat → Nat) {k : Nat} (hk : k < n) : gt (lz n g) (k : Int) = (g k : Int) := by simp [gt, lz, List.getD, hk]
theorem lz_set {n : Nat} (g : Nat → Nat) {k v : Nat} (hk : k < n) : (lz n g).set k (v : Int) = lz n (fun x => if x = k then v else g x) := by
  apply List.ext_getElem?
  intro q
  simp only [lz, List.getElem?_set, List.length_map, List.length_range, List.getElem?_map]
  by_cases hq : q < n
  · by_cases h : k = q
    · subst h; simp [hk]
    · have : ¬ q = k := fun e => h e.symm
      simp [hq, h, this]
  · by_cases h : k = q
    · omega
    · simp [hq, h]
theorem lz_congr {n : Nat} {g h : Nat → Nat} (e : ∀ i, i < n → g i = h i) : lz n g = lz n h := by
  unfold lz
  refine List.map_congr_left fun i hi => ?_
  rw [e i (List.mem_range.1 hi)]
theorem lz_succ (n : Nat) (g : Nat → Nat) : lz (n + 1) g = lz n g ++ [(g n : Int)] := by simp [lz, List.range_succ]

end Go.Proofs.Ytnppkcemnjkboaa.G

/- Things that hang together: the pool and the leaders tell the same. -/
namespace Go.Proofs.Ytnppkcemnjkboaa.G
open Go Go.Sx Go.Proofs
/-! ### roots -/
def rt (g : Nat → Nat) (i : Nat) : Nat := if g i < i then rt g (g i) else i
termination_by i
theorem rt_step {g : Nat → Nat} {i : Nat} (h : g i < i) : rt g i = rt g (g i) := by rw [rt, if_pos h]
theorem rt_stop {g : Nat → Nat} {i : Nat} (h : ¬ g i < i) : rt g i = i := by rw [rt, if_neg h]
theorem rt_le (g : Nat → Nat) : ∀ i, rt g i ≤ i := by
  intro i
  induction i using Nat.strongRecOn with
  | _ i ih =>
    by_cases h : g i < i
    · rw [rt_step h]; have := ih (g i) h; omega
    · rw [rt_stop h]; exact Nat.le_refl _
theorem rt_root (g : Nat → Nat) : ∀ i, ¬ g (rt g i) < rt g i := by
  intro i
  induction i using Nat.strongRecOn with
  | _ i ih =>
    by_cases h : g i < i
    · rw [rt_step h]; exact ih (g i) h
    · rw [rt_stop h]; exact h
theorem rt_rt (g : Nat → Nat) (i : Nat) : rt g (rt g i) = rt g i := rt_stop (rt_root g i)
def PoolOk (n : Nat) (g : Nat → Nat) : Prop := ∀ i, i < n → g i ≤ i
theorem find_eq' {n : Nat} {g : Nat → Nat} (hg : PoolOk n g) (hn : n ≤ 1000000) {i : Nat} (hi : i < n) : impl_pool_find.f (lz n g) i = some (rt g i : Int) := by
  unfold impl_pool_find.f
  obtain ⟨o, ho, hq⟩ := loop1_run (f := impl_pool_find.b0 (lz n g)) (fun s => ∃ j : Nat, s = (j : Int) ∧ j < n ∧ rt g j = rt g i) (fun s => s.toNat) (fun o => o = (rt g i : Int)) (by
    rintro s ⟨j, rfl, hj, hr⟩
    unfold impl_pool_find.b0
    rw [lz_length, chk_in (by omega), lz_gt g hj, bne_nat]
    have h1 := hg j hj
    by_cases h : g j = j
    · right
      have h2 : rt g j = j := rt_stop (by omega)
      rw [decide_eq_true h]
      exact ⟨_, rfl, by rw [← hr, h2]⟩
    · left
      have h2 : g j < j := by omega
      rw [decide_eq_false h]
      exact ⟨_, rfl, ⟨g j, rfl, by omega, by rw [← rt_step h2]; exact hr⟩, by simp; omega⟩) (i : Int) ⟨i, rfl, hi, rfl⟩ (by simp; omega)
  rw [ho, hq]; rfl
def jn2 (g : Nat → Nat) (i k : Nat) : Nat → Nat := fun x => if x = max (rt g i) (rt g k) then min (rt g i) (rt g k) else g x
theorem rt_jn (g : Nat → Nat) (hg : ∀ i, g i ≤ i) (i k : Nat) : ∀ x, rt (jn2 g i k) x = if rt g x = max (rt g i) (rt g k) then min (rt g i) (rt g k) else rt g x := by
  have ra : rt g (rt g i) = rt g i := rt_rt g i
  have rb : rt g (rt g k) = rt g k := rt_rt g k
  have rmx : rt g (max (rt g i) (rt g k)) = max (rt g i) (rt g k) := by
    rcases Nat.le_total (rt g i) (rt g k) with h | h
    · rw [Nat.max_eq_right h]; exact rb
    · rw [Nat.max_eq_left h]; exact ra
  have gmn : ¬ g (min (rt g i) (rt g k)) < min (rt g i) (rt g k) := by
    rcases Nat.le_total (rt g i) (rt g k) with h | h
    · rw [Nat.min_eq_left h]; exact rt_root g i
    · rw [Nat.min_eq_right h]; exact rt_root g k
  have hmm : min (rt g i) (rt g k) ≤ max (rt g i) (rt g k) := by omega
  intro x
  induction x using Nat.strongRecOn with
  | _ x ih =>
    by_cases hx : x = max (rt g i) (rt g k)
    · subst hx
      rw [rmx, if_pos rfl]
      have e : jn2 g i k (max (rt g i) (rt g k)) = min (rt g i) (rt g k) := by simp [jn2]
      by_cases hlt : min (rt g i) (rt g k) < max (rt g i) (rt g k)
      · rw [rt_step (by rw [e]; exact hlt), e]
        refine rt_stop ?_
        have : jn2 g i k (min (rt g i) (rt g k)) = g (min (rt g i) (rt g k)) := by
          unfold jn2; rw [if_neg (by omega)]
        rw [this]; exact gmn
      · have : min (rt g i) (rt g k) = max (rt g i) (rt g k) := by omega
        rw [rt_stop (by rw [e]; exact hlt), this]
    · have e : jn2 g i k x = g x := by unfold jn2; rw [if_neg hx]
      by_cases hlt : g x < x
      · rw [rt_step (by rw [e]; exact hlt), e, ih (g x) hlt, rt_step hlt]
      · rw [rt_stop (by rw [e]; exact hlt), rt_stop hlt, if_neg hx]

/-! ### what hangs together -/
def conn : List (Nat × Nat) → Nat → Nat → Prop
  | [], x, y => x = y
  | (i, k) :: ps, x, y => conn ps x y ∨ (conn ps x i ∧ conn ps y k) ∨ (conn ps x k ∧ conn ps y i)
theorem conn_eqv (ps : List (Nat × Nat)) : (∀ x, conn ps x x) ∧ (∀ x y, conn ps x y → conn ps y x) ∧ (∀ x y z, conn ps x y → conn ps y z → conn ps x z) := by
  induction ps with
  | nil => exact ⟨fun _ => rfl, fun _ _ h => h.symm, fun _ _ _ h h' => h.trans h'⟩
  | cons p ps ih =>
    obtain ⟨i, k⟩ := p
    obtain ⟨r, s, t⟩ := ih
    refine ⟨fun x => .inl (r x), fun x y h => ?_, fun x y z h h' => ?_⟩
    · rcases h with h | ⟨h1, h2⟩ | ⟨h1, h2⟩
      · exact .inl (s _ _ h)
      · exact .inr (.inr ⟨h2, h1⟩)
      · exact .inr (.inl ⟨h2, h1⟩)
    · rcases h with h | ⟨h1, h2⟩ | ⟨h1, h2⟩ <;> rcases h' with h' | ⟨g1, g2⟩ | ⟨g1, g2⟩
      · exact .inl (t _ _ _ h h')
      · exact .inr (.inl ⟨t _ _ _ h g1, g2⟩)
      · exact .inr (.inr ⟨t _ _ _ h g1, g2⟩)
      · exact .inr (.inl ⟨h1, t _ _ _ (s _ _ h') h2⟩)
      · exact .inr (.inl ⟨h1, g2⟩)
      · exact .inl (t _ _ _ h1 (s _ _ g2))
      · exact .inr (.inr ⟨h1, t _ _ _ (s _ _ h') h2⟩)
      · exact .inl (t _ _ _ h1 (s _ _ g2))
      · exact .inr (.inr ⟨h1, g2⟩)
theorem conn_mem : ∀ {ps : List (Nat × Nat)} {p : Nat × Nat}, p ∈ ps → conn ps p.1 p.2
  | q :: ps, p, h => by
    rcases List.mem_cons.1 h with rfl | h
    · exact .inr (.inl ⟨(conn_eqv ps).1 _, (conn_eqv ps).1 _⟩)
    · exact .inl (conn_mem h)
theorem conn_least {ps : List (Nat × Nat)} {E : Nat → Nat → Prop} (r : ∀ x, E x x) (s : ∀ x y, E x y → E y x) (t : ∀ x y z, E x y → E y z → E x z) (hp : ∀ p ∈ ps, E p.1 p.2) : ∀ x y, conn ps x y → E x y := by
  induction ps with
  | nil => intro x y h; have : x = y := h; subst this; exact r x
  | cons p ps ih =>
    obtain ⟨i, k⟩ := p
    have ih := ih fun q hq => hp q (List.mem_cons_of_mem _ hq)
    have hik : E i k := hp (i, k) (by simp)
    intro x y h
    rcases h with h | ⟨h1, h2⟩ | ⟨h1, h2⟩
    · exact ih x y h
    · exact t _ _ _ (ih _ _ h1) (t _ _ _ hik (s _ _ (ih _ _ h2)))
    · exact t _ _ _ (ih _ _ h1) (t _ _ _ (s _ _ hik) (s _ _ (ih _ _ h2)))
theorem conn_same {ps qs : List (Nat × Nat)} (h1 : ∀ p ∈ ps, conn qs p.1 p.2) (h2 : ∀ p ∈ qs, conn ps p.1 p.2) (x y : Nat) : conn ps x y ↔ conn qs x y :=
  ⟨conn_least (conn_eqv qs).1 (conn_eqv qs).2.1 (conn_eqv qs).2.2 h1 x y, conn_least (conn_eqv ps).1 (conn_eqv ps).2.1 (conn_eqv ps).2.2 h2 x y⟩
/-- Two things have the same mark just where they hang together. -/
def Marks (n : Nat) (f : Nat → Nat) (ps : List (Nat × Nat)) : Prop := ∀ x y, x < n → y < n → (f x = f y ↔ conn ps x y)
theorem marks_join {n : Nat} {f f' : Nat → Nat} {ps : List (Nat × Nat)} (h : Marks n f ps) {i k : Nat} (hi : i < n) (hk : k < n) (hf : ∀ x y, x < n → y < n → (f' x = f' y ↔ (f x = f y ∨ (f x = f i ∧ f y = f k) ∨ (f x = f k ∧ f y = f i)))) : Marks n f' ((i, k) :: ps) := by
  intro x y hx hy
  rw [hf x y hx hy, h x y hx hy, h x i hx hi, h y k hy hk, h x k hx hk, h y i hy hi]
  rfl
structure Pool (n : Nat) (g : Nat → Nat) (ps : List (Nat × Nat)) : Prop where
  le : ∀ i, g i ≤ i
  marks : Marks n (rt g) ps
theorem Pool.join {n : Nat} {g : Nat → Nat} {ps : List (Nat × Nat)} (h : Pool n g ps) (hn : n ≤ 1000000) {i k : Nat} (hi : i < n) (hk : k < n) : ∃ g', impl_pool_join.f (lz n g) i k = some (lz n g') ∧ Pool n g' ((i, k) :: ps) := by
  refine ⟨jn2 g i k, ?_, fun x => ?_, marks_join h.marks hi hk fun x y hx hy => ?_⟩
  · unfold impl_pool_join.f
    rw [find_eq' (fun i _ => h.le i) hn hi, find_eq' (fun i _ => h.le i) hn hk]
    simp only [Option.bind_some]
    have h1 := rt_le g i
    have h2 := rt_le g k
    have e1 : (if (rt g k : Int) > (rt g i : Int) then (rt g k : Int) else (rt g i : Int)) = ((max (rt g i) (rt g k) : Nat) : Int) := by split <;> omega
    have e2 : (if (rt g k : Int) < (rt g i : Int) then (rt g k : Int) else (rt g i : Int)) = ((min (rt g i) (rt g k) : Nat) : Int) := by split <;> omega
    rw [e1, e2, lz_length, chk_in (by omega), Int.toNat_natCast, lz_set g (by omega)]
    rfl
  · unfold jn2
    have := h.le x
    split <;> omega
  · rw [rt_jn g h.le, rt_jn g h.le]
    rcases Nat.le_total (rt g i) (rt g k) with hl | hl
    · rw [Nat.max_eq_right hl, Nat.min_eq_left hl]
      split <;> split <;> omega
    · rw [Nat.max_eq_left hl, Nat.min_eq_right hl]
      split <;> split <;> omega
theorem Pool.start (n : Nat) : Pool n id [] := ⟨fun _ => Nat.le_refl _, fun x y _ _ => by
  rw [rt_stop (by simp), rt_stop (by simp)]; rfl⟩
theorem poolOf_eq (n : Nat) (hn : n ≤ 1000000) : impl_poolOf.f n = some (lz n id) := by
  unfold impl_poolOf.f
  have hl := loop1_upto (f := impl_poolOf.b0 n) (fun i => (lz i id, (i : Int))) n (lz n id, (n : Int)) (by omega) (fun i hi => by
    unfold impl_poolOf.b0 impl_pool_add.f
    simp only [dlt_nat, hi, decide_true, cond_true, lz_length]
    rw [small_in (by simp; omega), Option.bind_some, w64_succ (by omega), lz_succ]
    rfl) (by
    unfold impl_poolOf.b0
    simp)
  have hl' : loop1 (impl_poolOf.b0 n) ([], 0) = some (lz n id, (n : Int)) := hl
  rw [hl']; rfl
theorem numbers_eq (n : Nat) (hn : n ≤ 1000000) : spec_l07Numbers.f n = some (lz n id) := by
  unfold spec_l07Numbers.f
  have hl := loop1_upto (f := spec_l07Numbers.b0 n) (fun i => (lz i id, (i : Int))) n (lz n id, (n : Int)) (by omega) (fun i hi => by
    unfold spec_l07Numbers.b0
    simp only [dlt_nat, hi, decide_true, cond_true, lz_length]
    rw [small_in (by simp; omega), w64_succ (by omega), lz_succ]
    rfl) (by
    unfold spec_l07Numbers.b0
    simp)
  have hl' : loop1 (spec_l07Numbers.b0 n) ([], 0) = some (lz n id, (n : Int)) := hl
  rw [hl']; rfl
theorem Marks.start (n : Nat) : Marks n id [] := fun _ _ _ _ => Iff.rfl
theorem Marks.join {n : Nat} {f : Nat → Nat} {ps : List (Nat × Nat)} (h : Marks n f ps) (hn : n ≤ 1000000) {i k : Nat} (hi : i < n) (hk : k < n) : ∃ f', spec_l07Join.f (lz n f) i k = some (lz n f') ∧ Marks n f' ((i, k) :: ps) := by
  refine ⟨fun x => if f x = f k then f i else f x, ?_, marks_join h hi hk fun x y hx hy => ?_⟩
  · unfold spec_l07Join.f spec_l01Own.f
    rw [small_in (by rw [lz_length]; simp; omega), Option.bind_some, lz_length, chk_in (by omega), chk_in (by omega)]
    have hl := loop1_upto (f := spec_l07Join.b0 (lz n f) k i) (fun j => (lz n (fun x => if x < j then (if f x = f k then f i else f x) else f x), (j : Int))) n (lz n (fun x => if f x = f k then f i else f x), (n : Int)) (by omega) (fun j hj => by
      unfold spec_l07Join.b0
      simp only [lz_length, dlt_nat, hj, decide_true, cond_true]
      rw [chk_in (by omega), lz_gt _ hj, lz_gt _ hk, lz_gt _ hi, if_neg (Nat.lt_irrefl j), beq_nat, w64_succ (by omega), Int.toNat_natCast]
      by_cases he : f j = f k
      · rw [decide_eq_true he, cond_true, Option.bind_some, lz_set _ hj]
        congr 3
        refine lz_congr fun x hx => ?_
        by_cases hxj : x = j
        · subst hxj; simp [he]
        · have : x < j ↔ x < j + 1 := by omega
          simp [hxj, this]
      · rw [decide_eq_false he, cond_false, Option.bind_some]
        congr 3
        refine lz_congr fun x hx => ?_
        by_cases hxj : x = j
        · subst hxj; simp [he]
        · have : x < j ↔ x < j + 1 := by omega
          simp [this]) (by
      unfold spec_l07Join.b0
      simp only [lz_length, dlt_nat, Nat.lt_irrefl, decide_false, cond_false]
      congr 3
      refine lz_congr fun x hx => ?_
      simp [hx])
    have e0 : lz n (fun x => if x < 0 then (if f x = f k then f i else f x) else f x) = [] ++ lz n f := by
      rw [List.nil_append]
      exact lz_congr fun x _ => by simp
    have hl' : loop1 (spec_l07Join.b0 (lz n f) k i) ([] ++ lz n f, 0) = some (lz n (fun x => if f x = f k then f i else f x), (n : Int)) := by rw [← e0]; exact hl
    rw [hl']; rfl
  · show ((if f x = f k then f i else f x) = (if f y = f k then f i else f y)) ↔ _
    split <;> split <;> omega
/-- How many pieces. -/
def roots (n : Nat) (p : Nat → Bool) : Nat := (List.range n).countP p
theorem roots_succ (n : Nat) (p : Nat → Bool) : roots (n + 1) p = roots n p + (bif p n then 1 else 0) := by
  unfold roots
  rw [List.range_succ, List.countP_append]
  cases h : p n <;> simp [h]
theorem roots_le (n : Nat) (p : Nat → Bool) : roots n p ≤ n := by have := List.countP_le_length (p := p) (l := List.range n); simpa [roots] using this
def isRoot (g : Nat → Nat) (i : Nat) : Bool := decide (rt g i = i)
def isFirst (f : Nat → Nat) (i : Nat) : Bool := (List.range i).all fun k => decide (f k ≠ f i)
theorem distinct_eq {n : Nat} {g : Nat → Nat} (hg : ∀ i, g i ≤ i) (hn : n ≤ 1000000) : impl_pool_distinct.f (lz n g) = some (roots n (isRoot g) : Int) := by
  unfold impl_pool_distinct.f
  have hl := loop1_upto (f := impl_pool_distinct.b0 (lz n g)) (fun i => ((roots i (isRoot g) : Int), (i : Int))) n ((roots n (isRoot g) : Int), (n : Int)) (by omega) (fun i hi => by
    unfold impl_pool_distinct.b0
    have h1 := roots_le i (isRoot g)
    simp only [lz_length, dlt_nat, hi, decide_true, cond_true]
    rw [find_eq' (fun i _ => hg i) hn hi, Option.bind_some, beq_nat, w64_succ (by omega : i < _), w64_succ (by omega : roots i (isRoot g) < _), roots_succ]
    have : decide (rt g i = i) = isRoot g i := rfl
    rw [this]
    cases isRoot g i <;> rfl) (by
    unfold impl_pool_distinct.b0
    simp [lz_length])
  have hl' : loop1 (impl_pool_distinct.b0 (lz n g)) (0, 0) = some ((roots n (isRoot g) : Int), (n : Int)) := hl
  rw [hl']; rfl
theorem different_eq {n : Nat} {f : Nat → Nat} (hn : n ≤ 1000000) : spec_l07Different.f (lz n f) = some (roots n (isFirst f) : Int) := by
  unfold spec_l07Different.f
  have hl := loop1_upto (f := spec_l07Different.b1 (lz n f)) (fun i => ((roots i (isFirst f) : Int), (i : Int))) n ((roots n (isFirst f) : Int), (n : Int)) (by omega) (fun i hi => by
    unfold spec_l07Different.b1
    have h1 := roots_le i (isFirst f)
    simp only [lz_length, dlt_nat, hi, decide_true, cond_true]
    have hin := loop1_upto (f := spec_l07Different.b0 i (lz n f)) (fun k => ((List.range k).all (fun q => decide (f q ≠ f i)), (k : Int))) i ((List.range i).all (fun q => decide (f q ≠ f i)), (i : Int)) (by omega) (fun k hk => by
      unfold spec_l07Different.b0
      simp only [dlt_nat, hk, decide_true, cond_true]
      rw [lz_length, chk_in (by omega), chk_in (by omega), lz_gt _ (by omega), lz_gt _ hi, w64_succ (by omega), List.range_succ, List.all_append]
      have e : ((f k : Int) != (f i : Int)) = decide (f k ≠ f i) := by rw [bne_nat]; simp
      rw [e]
      cases (List.range k).all (fun q => decide (f q ≠ f i)) <;> simp) (by
      unfold spec_l07Different.b0
      simp)
    have hin' : loop1 (spec_l07Different.b0 i (lz n f)) (true, 0) = some (isFirst f i, (i : Int)) := hin
    rw [hin', Option.bind_some, w64_succ (by omega : i < _), w64_succ (by omega : roots i (isFirst f) < _), roots_succ]
    cases isFirst f i <;> rfl) (by
    unfold spec_l07Different.b1
    simp [lz_length])
  have hl' : loop1 (spec_l07Different.b1 (lz n f)) (0, 0) = some ((roots n (isFirst f) : Int), (n : Int)) := hl
  rw [hl']; rfl
theorem count_same {n : Nat} {g f : Nat → Nat} {ps qs : List (Nat × Nat)} (hp : Pool n g ps) (hm : Marks n f qs) (hc : ∀ x y, conn ps x y ↔ conn qs x y) : roots n (isRoot g) = roots n (isFirst f) := by
  unfold roots
  refine List.countP_congr fun i hi => ?_
  have hi' := List.mem_range.1 hi
  unfold isRoot isFirst
  simp only [decide_eq_true_eq, List.all_eq_true, List.mem_range, ne_eq]
  constructor
  · intro h k hk he
    have h1 := (hm k i (by omega) hi').1 he
    have h2 := (hp.marks k i (by omega) hi').2 ((hc k i).2 h1)
    have := rt_le g k
    omega
  · intro h
    have h1 := rt_le g i
    by_cases hr : rt g i = i
    · exact hr
    · exfalso
      have hlt : rt g i < i := by omega
      refine h (rt g i) hlt ?_
      rw [hm (rt g i) i (by omega) hi', ← hc, ← hp.marks (rt g i) i (by omega) hi']
      exact rt_rt g i
end Go.Proofs.Ytnppkcemnjkboaa.G

/- Slices of numbers that come in: how large they are, and their copies. -/
namespace Go.Proofs.Ytnppkcemnjkboaa.G
open Go Go.Sx Go.Proofs
theorem toS (a : List Int) (h : a.length ≤ 1048576) : laws_toInt64S.f a = some a := by
  unfold laws_toInt64S.f
  rw [small_in (by omega), Int.toNat_natCast]
  have hl := loop1_upto (f := laws_toInt64S.b0 a) (fun i => (a.take i ++ List.replicate (a.length - i) 0, (i : Int))) a.length (a, (a.length : Int)) (by omega) (fun i hi => by
    unfold laws_toInt64S.b0
    have e : (a.take i ++ List.replicate (a.length - i) (0 : Int)).length = a.length := by simp; omega
    simp only [dlt_nat, hi, decide_true, cond_true]
    rw [chk_in (by omega), e, chk_in (by omega), w64_succ (by omega), Int.toNat_natCast]
    have hg : gt a (i : Int) = a[i] := by simp [gt, List.getD, hi]
    have hm : (a.take i).length = i := by simp; omega
    have e2 : (a.take i ++ List.replicate (a.length - i) (0 : Int)).set i (gt a (i : Int)) = a.take (i + 1) ++ List.replicate (a.length - (i + 1)) 0 := by
      rw [hg, List.set_append_right _ _ (by omega), hm, Nat.sub_self, show a.length - i = (a.length - (i + 1)) + 1 by omega, List.replicate_succ, List.set_cons_zero, List.take_add_one, List.getElem?_eq_getElem hi]
      simp only [Option.toList_some, List.append_assoc, List.singleton_append]
    rw [e2]) (by
    unfold laws_toInt64S.b0
    simp)
  have hl' : loop1 (laws_toInt64S.b0 a) (List.replicate a.length 0, 0) = some (a, (a.length : Int)) := by simpa using hl
  rw [hl']; rfl
theorem szS (a : List Int) (l : Nat) (hl : l ≤ 1048576) (h : a.length ≤ 9223372036854775807) : (laws_szInt64S.f a l = some (-1) ∧ l < a.length) ∨ (laws_szInt64S.f a l = some ((l - a.length : Nat) : Int) ∧ a.length ≤ l) := by
  unfold laws_szInt64S.f
  rw [w64_in (by omega)]
  by_cases hc : a.length ≤ l
  · right
    have : decide (((l : Int) - (a.length : Int)) < 0) = false := by simp; omega
    rw [this]
    exact ⟨by rw [cond_false]; congr 1; omega, hc⟩
  · left
    have : decide (((l : Int) - (a.length : Int)) < 0) = true := by simp; omega
    rw [this]
    exact ⟨rfl, by omega⟩
end Go.Proofs.Ytnppkcemnjkboaa.G

/- Rows of numbers that come in: how large they are, and their copies. -/
namespace Go.Proofs.Ytnppkcemnjkboaa.G
open Go Go.Sx Go.Proofs
theorem gt_at {α : Type} [Inhabited α] {a : List α} {i : Nat} (h : i < a.length) : gt a (i : Int) = a[i] := by simp [gt, List.getD, h]
theorem toSS (a : List (List Int)) (h : a.length ≤ 1048576) (hr : ∀ r ∈ a, r.length ≤ 1048576) : laws_toInt64SS.f a = some a := by
  unfold laws_toInt64SS.f
  rw [small_in (by omega), Int.toNat_natCast]
  have hl := loop1_upto (f := laws_toInt64SS.b0 a) (fun i => (a.take i ++ List.replicate (a.length - i) [], (i : Int))) a.length (a, (a.length : Int)) (by omega) (fun i hi => by
    unfold laws_toInt64SS.b0
    have e : (a.take i ++ List.replicate (a.length - i) ([] : List Int)).length = a.length := by simp; omega
    simp only [dlt_nat, hi, decide_true, cond_true]
    rw [chk_in (by omega), gt_at hi, toS _ (hr _ (List.getElem_mem hi)), Option.bind_some, e, chk_in (by omega), w64_succ (by omega), Int.toNat_natCast]
    have hm : (a.take i).length = i := by simp; omega
    have e2 : (a.take i ++ List.replicate (a.length - i) ([] : List Int)).set i a[i] = a.take (i + 1) ++ List.replicate (a.length - (i + 1)) [] := by
      rw [List.set_append_right _ _ (by omega), hm, Nat.sub_self, show a.length - i = (a.length - (i + 1)) + 1 by omega, List.replicate_succ, List.set_cons_zero, List.take_add_one, List.getElem?_eq_getElem hi]
      simp only [Option.toList_some, List.append_assoc, List.singleton_append]
    rw [e2]) (by
    unfold laws_toInt64SS.b0
    simp)
  have hl' : loop1 (laws_toInt64SS.b0 a) (List.replicate a.length [], 0) = some (a, (a.length : Int)) := by simpa using hl
  rw [hl']; rfl
theorem szSS (a : List (List Int)) (l : Nat) (hl : l ≤ 1048576) (h : a.length ≤ 9223372036854775807) (hr : ∀ r ∈ a, r.length ≤ 9223372036854775807) :
    ∃ q, laws_szInt64SS.f a l = some q ∧ (q < 0 ∨ (0 ≤ q ∧ a.length ≤ l ∧ (∀ r ∈ a, r.length ≤ l) ∧ (a.map List.length).sum ≤ l)) := by
  unfold laws_szInt64SS.f
  rw [w64_in (by omega)]
  by_cases hc : a.length ≤ l
  · have e : decide (((l : Int) - (a.length : Int)) < 0) = false := by simp; omega
    rw [e, cond_false]
    obtain ⟨o, ho, hq⟩ := loop_run (f := laws_szInt64SS.b0 a) (fun s => ∃ (i k : Nat), s = ((k : Int), (i : Int)) ∧ i ≤ a.length ∧ k + ((a.take i).map List.length).sum ≤ l ∧ ∀ r ∈ a.take i, r.length ≤ l) (fun s => a.length - s.2.toNat)
      (fun o => match o with | .brk s => ∃ k : Nat, s.1 = (k : Int) ∧ (∀ r ∈ a, r.length ≤ l) ∧ (a.map List.length).sum ≤ l | .ret r => r = -1) (by
      rintro s ⟨i, k, rfl, hi, hk, hrs⟩
      unfold laws_szInt64SS.b0
      by_cases hlt : i < a.length
      · simp only [dlt_nat, hlt, decide_true, cond_true]
        rw [chk_in (by omega), gt_at hlt]
        rcases szS a[i] k (by omega) (hr _ (List.getElem_mem hlt)) with ⟨h1, h2⟩ | ⟨h1, h2⟩
        · rw [h1]
          exact .inr (.inr ⟨-1, rfl, rfl⟩)
        · rw [h1, Option.bind_some]
          have : decide (((k - a[i].length : Nat) : Int) < 0) = false := decide_eq_false (by omega)
          rw [this, cond_false, w64_succ (by omega)]
          have hsum : ((a.take (i + 1)).map List.length).sum = ((a.take i).map List.length).sum + a[i].length := by
            rw [List.take_add_one, List.getElem?_eq_getElem hlt, List.map_append, List.sum_append]
            simp only [Option.toList_some, List.map_cons, List.map_nil, List.sum_cons, List.sum_nil, Nat.add_zero]
          refine .inl ⟨_, rfl, ⟨i + 1, k - a[i].length, rfl, by omega, by rw [hsum]; omega, ?_⟩, by simp; omega⟩
          intro r hr'
          rw [List.take_add_one, List.getElem?_eq_getElem hlt] at hr'
          rcases List.mem_append.1 hr' with h | h
          · exact hrs r h
          · have : r = a[i] := by simpa using h
            subst this; omega
      · have hia : i = a.length := by omega
        subst hia
        simp only [dlt_nat, Nat.lt_irrefl, decide_false, cond_false]
        rw [List.take_length] at hrs hk
        exact .inr (.inl ⟨_, rfl, k, rfl, hrs, by omega⟩)) (((l : Int) - (a.length : Int)), 0) ⟨0, l - a.length, by simp; omega, by omega, by simp, by simp⟩ (by simp; omega)
    rw [ho]
    cases o with
    | brk s =>
      obtain ⟨k, hk, hrs, hsm⟩ := hq
      exact ⟨_, rfl, .inr ⟨by show 0 ≤ s.1; omega, hc, hrs, hsm⟩⟩
    | ret r => exact ⟨_, rfl, .inl (by simp only at hq; omega)⟩
  · have e : decide (((l : Int) - (a.length : Int)) < 0) = true := by simp; omega
    rw [e]
    exact ⟨_, rfl, .inl (by omega)⟩
end Go.Proofs.Ytnppkcemnjkboaa.G

/- What a surface is, told by both. -/
namespace Go.Proofs.Ytnppkcemnjkboaa.G
open Go Go.Sx Go.Proofs
theorem any_at {α : Type} [Inhabited α] (a : List α) (p : α → Bool) : (List.range a.length).any (fun (i : Nat) => p (gt a (i : Int))) = a.any p := by
  rw [Bool.eq_iff_iff, List.any_eq_true, List.any_eq_true]
  constructor
  · rintro ⟨i, hi, h⟩
    have hi' := List.mem_range.1 hi
    exact ⟨a[i], List.getElem_mem _, by rwa [gt_at hi'] at h⟩
  · rintro ⟨x, hx, h⟩
    obtain ⟨i, hi, rfl⟩ := List.mem_iff_getElem.1 hx
    exact ⟨i, List.mem_range.2 hi, by rw [gt_at hi]; exact h⟩
theorem containsInts (a : List Int) (h : a.length < 1000000) (f : Int → Option Bool) (p : Int → Bool) (hf : ∀ x ∈ a, f x = some (p x)) : slices_ContainsFunc_int64_int64.f a f = some (a.any p) := by
  unfold slices_ContainsFunc_int64_int64.f slices_IndexFunc_int64_int64.f
  have hl := loop_find (f := slices_IndexFunc_int64_int64.b0 a f) (fun i => (i : Int)) a.length (fun (i : Nat) => p (gt a (i : Int))) (fun i => (i : Int)) (a.length : Int) (by omega) (fun i hi => by
    unfold slices_IndexFunc_int64_int64.b0
    simp only [dlt_nat, hi, decide_true, cond_true]
    rw [chk_in (by omega), hf _ (by rw [gt_at hi]; exact List.getElem_mem _), Option.bind_some, w64_succ (by omega)]
    cases p (gt a (i : Int)) <;> rfl) (by
    unfold slices_IndexFunc_int64_int64.b0
    simp)
  have hl' : loop (slices_IndexFunc_int64_int64.b0 a f) 0 = _ := hl
  rw [hl', ← any_at a p]
  cases hfd : (List.range a.length).find? (fun (i : Nat) => p (gt a (i : Int))) with
  | none =>
    have : (List.range a.length).any (fun (i : Nat) => p (gt a (i : Int))) = false := by
      rw [List.any_eq_false]; intro x hx; have := List.find?_eq_none.1 hfd x hx; simpa using this
    rw [this]; rfl
  | some i =>
    have : (List.range a.length).any (fun (i : Nat) => p (gt a (i : Int))) = true := List.any_eq_true.2 ⟨i, List.mem_of_find?_eq_some hfd, List.find?_some (p := fun (i : Nat) => p (gt a (i : Int))) hfd⟩
    rw [this]
    have hd : decide ((i : Int) ≥ 0) = true := by simp
    simp only [Option.bind_some, ln, hd]
theorem containsSides (a : List (List (Int × Int))) (h : a.length < 1000000) (f : List (Int × Int) → Option Bool) (p : List (Int × Int) → Bool) (hf : ∀ x ∈ a, f x = some (p x)) : slices_ContainsFunc_impl_sided_impl_sided.f a f = some (a.any p) := by
  unfold slices_ContainsFunc_impl_sided_impl_sided.f slices_IndexFunc_impl_sided_impl_sided.f
  have hl := loop_find (f := slices_IndexFunc_impl_sided_impl_sided.b0 a f) (fun i => (i : Int)) a.length (fun (i : Nat) => p (gt a (i : Int))) (fun i => (i : Int)) (a.length : Int) (by omega) (fun i hi => by
    unfold slices_IndexFunc_impl_sided_impl_sided.b0
    simp only [dlt_nat, hi, decide_true, cond_true]
    rw [chk_in (by omega), hf _ (by rw [gt_at hi]; exact List.getElem_mem _), Option.bind_some, w64_succ (by omega)]
    cases p (gt a (i : Int)) <;> rfl) (by
    unfold slices_IndexFunc_impl_sided_impl_sided.b0
    simp)
  have hl' : loop (slices_IndexFunc_impl_sided_impl_sided.b0 a f) 0 = _ := hl
  rw [hl', ← any_at a p]
  cases hfd : (List.range a.length).find? (fun (i : Nat) => p (gt a (i : Int))) with
  | none =>
    have : (List.range a.length).any (fun (i : Nat) => p (gt a (i : Int))) = false := by
      rw [List.any_eq_false]; intro x hx; have := List.find?_eq_none.1 hfd x hx; simpa using this
    rw [this]; rfl
  | some i =>
    have : (List.range a.length).any (fun (i : Nat) => p (gt a (i : Int))) = true := List.any_eq_true.2 ⟨i, List.mem_of_find?_eq_some hfd, List.find?_some (p := fun (i : Nat) => p (gt a (i : Int))) hfd⟩
    rw [this]
    have hd : decide ((i : Int) ≥ 0) = true := by simp
    simp only [Option.bind_some, ln, hd]

/-! ### the sides of the edges -/
abbrev Side := (Int × Int) × Int
def entry (s : List (List Int)) (i q : Nat) : Int := gt (gt s (i : Int)) (q : Int)
def rowP (s : List (List Int)) (i : Nat) : Nat → List Side
  | 0 => []
  | j + 1 => rowP s i j ++ [(((i : Int), (j : Int)), entry s i j)]
def preP (s : List (List Int)) : Nat → List Side
  | 0 => []
  | i + 1 => preP s i ++ rowP s i 3
def sdl (P : List Side) (k : Nat) : List (Int × Int) := (P.filter fun p => p.2.natAbs == k).map (·.1)
def tab (m : Nat) (P : List Side) : List (List (Int × Int)) := (List.range (m + 1)).map (sdl P)
def cnt (m : Nat) (P : List Side) : List Int := (List.range (m + 1)).map fun k => ((sdl P k).length : Int)
theorem rowP_length (s : List (List Int)) (i : Nat) : ∀ j, (rowP s i j).length = j
  | 0 => rfl
  | j + 1 => by simp only [rowP, List.length_append, rowP_length s i j]; rfl
theorem preP_length (s : List (List Int)) : ∀ i, (preP s i).length = 3 * i
  | 0 => rfl
  | i + 1 => by simp only [preP, List.length_append, preP_length s i, rowP_length]; omega
theorem sdl_le (P : List Side) (k : Nat) : (sdl P k).length ≤ P.length := by
  unfold sdl; rw [List.length_map]; exact List.length_filter_le _ _
theorem sdl_add (P : List Side) (a : Int × Int) (x : Int) (k : Nat) : sdl (P ++ [(a, x)]) k = if x.natAbs = k then sdl P k ++ [a] else sdl P k := by
  unfold sdl
  rw [List.filter_append, List.map_append]
  by_cases h : x.natAbs = k
  · rw [if_pos h]
    simp [List.filter, h]
  · rw [if_neg h]
    have : (x.natAbs == k) = false := by simpa using h
    simp [List.filter, this]
theorem tab_length (m : Nat) (P : List Side) : (tab m P).length = m + 1 := by simp [tab]
theorem cnt_length (m : Nat) (P : List Side) : (cnt m P).length = m + 1 := by simp [cnt]
theorem tab_gt {m k : Nat} (P : List Side) (h : k ≤ m) : gt (tab m P) (k : Int) = sdl P k := by
  have : k < m + 1 := by omega
  simp [gt, tab, List.getD, this]
theorem cnt_gt {m k : Nat} (P : List Side) (h : k ≤ m) : gt (cnt m P) (k : Int) = ((sdl P k).length : Int) := by
  have : k < m + 1 := by omega
  simp [gt, cnt, List.getD, this]
theorem tab_add {m : Nat} (P : List Side) (a : Int × Int) (x : Int) : (tab m P).set x.natAbs (sdl P x.natAbs ++ [a]) = tab m (P ++ [(a, x)]) := by
  apply List.ext_getElem?
  intro q
  simp only [tab, List.getElem?_set, List.length_map, List.length_range, List.getElem?_map]
  by_cases hq : q < m + 1
  · by_cases hx : x.natAbs = q
    · subst hx; simp [hq, sdl_add]
    · simp [hq, hx, sdl_add]
  · by_cases hx : x.natAbs = q
    · subst hx; simp [hq]
    · simp [hq, hx]
theorem cnt_add {m : Nat} (P : List Side) (a : Int × Int) (x : Int) : (cnt m P).set x.natAbs (((sdl P x.natAbs).length + 1 : Nat) : Int) = cnt m (P ++ [(a, x)]) := by
  apply List.ext_getElem?
  intro q
  simp only [cnt, List.getElem?_set, List.length_map, List.length_range, List.getElem?_map]
  by_cases hq : q < m + 1
  · by_cases hx : x.natAbs = q
    · subst hx; simp [hq, sdl_add]
    · simp [hq, hx, sdl_add]
  · by_cases hx : x.natAbs = q
    · subst hx; simp [hq]
    · simp [hq, hx]
def entB (m : Nat) (x : Int) : Bool := decide (x ≠ 0) && decide (-(m : Int) ≤ x) && decide (x ≤ (m : Int))
def rowB (m : Nat) (t : List Int) : Bool := decide (t.length = 3) && t.all (entB m)
theorem size_abs {m : Nat} (hm : m ≤ 100) {x : Int} (h : entB m x = true) : (if (w64 (0 - x)) > x then (w64 (0 - x)) else x) = (x.natAbs : Int) := by
  unfold entB at h
  simp only [Bool.and_eq_true, decide_eq_true_eq] at h
  rw [w64_in (by omega)]
  split <;> omega
theorem abs_le {m : Nat} {x : Int} (h : entB m x = true) : x.natAbs ≤ m := by
  unfold entB at h
  simp only [Bool.and_eq_true, decide_eq_true_eq] at h
  omega
def ed (n : Nat) : Nat := n * 3 / 2
theorem edges_eq {n : Nat} (h : n ≤ 100) : w64 (Int.tdiv (w64 ((n : Int) * 3)) 2) = (ed n : Int) := by
  have e1 : w64 ((n : Int) * 3) = (n : Int) * 3 := w64_in (by omega)
  rw [e1, Int.tdiv_eq_ediv_of_nonneg (by omega), w64_in (by omega)]
  unfold ed; omega
theorem row_entry {m : Nat} {s : List (List Int)} {i : Nat} (h : rowB m (gt s (i : Int)) = true) {q : Nat} (hq : q < 3) : entB m (entry s i q) = true ∧ (gt s (i : Int)).length = 3 := by
  unfold rowB at h
  simp only [Bool.and_eq_true, decide_eq_true_eq, List.all_eq_true] at h
  refine ⟨h.2 _ ?_, h.1⟩
  unfold entry
  have e : gt (gt s (i : Int)) (q : Int) = (gt s (i : Int))[q]'(by omega) := gt_at (by omega)
  rw [e]
  exact List.getElem_mem _
/-- The program's list of sides, where all rows are good. -/
theorem sides_eq {s : List (List Int)} (hn : s.length ≤ 100) (hr : ∀ i, i < s.length → rowB (ed s.length) (gt s (i : Int)) = true) : impl_sidesOfEdges.f s = some (tab (ed s.length) (preP s s.length)) := by
  have hm : ed s.length ≤ 150 := by unfold ed; omega
  have hm2 : ed s.length ≤ 100 ∨ True := .inr trivial
  unfold impl_sidesOfEdges.f impl_edgesOf.f
  rw [Option.bind_some, edges_eq hn, w64_succ (by omega), show decide ((0 : Int) ≤ ((ed s.length + 1 : Nat) : Int)) = true by simp; omega]
  simp only [grd, cond_true, Int.toNat_natCast]
  rw [small_in (by omega)]
  have ho := loop1_upto (f := impl_sidesOfEdges.b1 s) (fun i => (tab (ed s.length) (preP s i), (i : Int))) s.length (tab (ed s.length) (preP s s.length), (s.length : Int)) (by omega) (fun i hi => by
    unfold impl_sidesOfEdges.b1
    simp only [dlt_nat, hi, decide_true, cond_true]
    rw [chk_in (by omega)]
    have h3 := (row_entry (hr i hi) (q := 0) (by omega)).2
    have hin := loop1_upto (f := impl_sidesOfEdges.b0 s i) (fun j => (tab (ed s.length) (preP s i ++ rowP s i j), (j : Int))) 3 (tab (ed s.length) (preP s i ++ rowP s i 3), 3) (by omega) (fun j hj => by
      unfold impl_sidesOfEdges.b0
      have he := (row_entry (hr i hi) hj).1
      have hle := abs_le he
      simp only [h3]
      rw [show (((3 : Nat) : Int)) = ((3 : Nat) : Int) from rfl]
      simp only [dlt_nat, hj, decide_true, cond_true]
      rw [chk_in (by omega)]
      have hsz : impl_size.f (gt (gt s (i : Int)) (j : Int)) = some ((entry s i j).natAbs : Int) := by
        unfold impl_size.f
        have : entB (ed s.length) (gt (gt s (i : Int)) (j : Int)) = true := he
        have h2 : (if (w64 (0 - gt (gt s (i : Int)) (j : Int))) > gt (gt s (i : Int)) (j : Int) then (w64 (0 - gt (gt s (i : Int)) (j : Int))) else gt (gt s (i : Int)) (j : Int)) = ((entry s i j).natAbs : Int) := by
          unfold entB at this
          simp only [Bool.and_eq_true, decide_eq_true_eq] at this
          rw [w64_in (by omega)]
          unfold entry
          split <;> omega
        rw [h2]
      rw [hsz, Option.bind_some, tab_length, chk_in (by omega), tab_gt _ hle]
      have hlen : (sdl (preP s i ++ rowP s i j) (entry s i j).natAbs).length + 1 ≤ 1099511627776 := by
        have h1 := sdl_le (preP s i ++ rowP s i j) (entry s i j).natAbs
        rw [List.length_append, preP_length, rowP_length] at h1
        omega
      rw [small_in (by simpa using hlen), Int.toNat_natCast, tab_add, w64_succ (by omega)]
      simp only [rowP, List.append_assoc]) (by
      unfold impl_sidesOfEdges.b0
      simp [h3])
    have hin' : loop1 (impl_sidesOfEdges.b0 s i) (tab (ed s.length) (preP s i), 0) = some (tab (ed s.length) (preP s i ++ rowP s i 3), 3) := by simpa [rowP] using hin
    rw [hin']
    simp only [Option.bind_some, w64_succ (by omega : i < 4611686018427387904)]
    rfl) (by
    unfold impl_sidesOfEdges.b1
    simp)
  have e : List.replicate (ed s.length + 1) ([] : List (Int × Int)) = tab (ed s.length) (preP s 0) := by
    apply List.ext_getElem?
    intro q
    by_cases hq : q < ed s.length + 1 <;> simp [tab, preP, sdl, hq]
  rw [e]
  have ho' : loop1 (impl_sidesOfEdges.b1 s) (tab (ed s.length) (preP s 0), 0) = some (tab (ed s.length) (preP s s.length), (s.length : Int)) := ho
  rw [ho']; rfl
def badRows (s : List (List Int)) : Bool := s.any fun t => !rowB (ed s.length) t
def badEdges (s : List (List Int)) : Bool := (List.range (ed s.length)).any fun k => decide ((sdl (preP s s.length) (k + 1)).length ≠ 2)
/-- What both tell. -/
def surfB (s : List (List Int)) : Bool := decide (2 ≤ s.length) && decide (s.length ≤ 12) && decide (s.length % 2 = 0) && !badRows s && !badEdges s
theorem good_rows {s : List (List Int)} (h : badRows s = false) : ∀ i, i < s.length → rowB (ed s.length) (gt s (i : Int)) = true := by
  intro i hi
  unfold badRows at h
  rw [List.any_eq_false] at h
  have := h (gt s (i : Int)) (by rw [gt_at hi]; exact List.getElem_mem _)
  simpa using this
theorem is1_eq {s : List (List Int)} (hn : s.length ≤ 100) (x : Int) : impl_IsSurface_1.f x s = some (!entB (ed s.length) x) := by
  have hm : ed s.length ≤ 150 := by unfold ed; omega
  unfold impl_IsSurface_1.f impl_edgesOf.f impl_in.f
  rw [edges_eq hn]
  simp only [Option.bind_some]
  rw [w64_in (by omega)]
  unfold entB
  by_cases h0 : x = 0
  · subst h0; simp
  · have : (x == 0) = false := by simpa using h0
    rw [this, cond_false]
    congr 2
    have : decide (x ≠ 0) = true := by simpa using h0
    rw [this, Bool.true_and]
    congr 1
    · congr 1
      apply propext
      constructor <;> intro h <;> omega
theorem drop_tab (m : Nat) (P : List Side) : ((tab m P).drop 1).take ((tab m P).length - 1) = (List.range m).map fun k => sdl P (k + 1) := by
  rw [List.take_of_length_le (by simp)]
  apply List.ext_getElem?
  intro q
  simp only [tab, List.getElem?_drop, List.getElem?_map]
  by_cases hq : q < m
  · rw [List.getElem?_range hq, List.getElem?_range (by omega)]
    simp [Nat.add_comm]
  · rw [List.getElem?_eq_none (by simp; omega), List.getElem?_eq_none (by simp; omega)]
    rfl
theorem implSurf {s : List (List Int)} (hn : s.length ≤ 1048576) : impl_IsSurface.f s = some (surfB s) := by
  unfold impl_IsSurface.f impl_in.f
  rw [Option.bind_some]
  by_cases h : 2 ≤ s.length ∧ s.length ≤ 12 ∧ s.length % 2 = 0
  · obtain ⟨h1, h2, h3⟩ := h
    have e1 : (decide ((s.length : Int) ≥ 2) && decide ((s.length : Int) ≤ 12)) = true := by simp; omega
    have e2 : (Int.tmod (s.length : Int) 2 != 0) = false := by rw [Int.tmod_eq_emod_of_nonneg (by omega)]; simp; omega
    rw [e1, e2]
    simp only [Bool.not_true, Bool.or_false, cond_false]
    have hm : ed s.length ≤ 18 := by unfold ed; omega
    have hl := loop_any (f := impl_IsSurface.b0 s) (fun i => (i : Int)) s.length (fun i => !rowB (ed s.length) (gt s (i : Int))) false (s.length : Int) (by omega) (fun i hi => by
      unfold impl_IsSurface.b0
      simp only [dlt_nat, hi, decide_true, cond_true]
      rw [chk_in (by omega), w64_succ (by omega)]
      unfold rowB
      by_cases h3 : (gt s (i : Int)).length = 3
      · have e3 : (((gt s (i : Int)).length : Int) != 3) = false := by rw [h3]; rfl
        rw [e3, cond_false, containsInts _ (by omega) _ (fun x => !entB (ed s.length) x) (fun x _ => is1_eq (by omega) x)]
        simp only [Option.bind_some, h3, decide_true, Bool.true_and]
        have : (gt s (i : Int)).any (fun x => !entB (ed s.length) x) = !(gt s (i : Int)).all (entB (ed s.length)) := by rw [List.all_eq_not_any_not, Bool.not_not]
        rw [this]
        cases (gt s (i : Int)).all (entB (ed s.length)) <;> rfl
      · have e3 : (((gt s (i : Int)).length : Int) != 3) = true := by simp; omega
        rw [e3, cond_true, Option.bind_some, cond_true]
        have : decide ((gt s (i : Int)).length = 3) = false := by simpa using h3
        rw [this]; rfl) (by
      unfold impl_IsSurface.b0
      simp)
    have hl' : loop (impl_IsSurface.b0 s) 0 = some (bif badRows s then .ret false else .brk (s.length : Int)) := by
      have := any_at s (fun t => !rowB (ed s.length) t)
      unfold badRows
      rw [← this]; exact hl
    rw [hl']
    unfold surfB
    have f1 : decide (2 ≤ s.length) = true := decide_eq_true h1
    have f2 : decide (s.length ≤ 12) = true := decide_eq_true h2
    have f3 : decide (s.length % 2 = 0) = true := decide_eq_true h3
    rw [f1, f2, f3]
    cases hb : badRows s with
    | true => rfl
    | false =>
      simp only [cond_false, Option.bind_some, ln]
      rw [sides_eq (by omega) (good_rows hb), Option.bind_some]
      have e4 : (decide (0 ≤ 1) && decide (1 ≤ ((tab (ed s.length) (preP s s.length)).length : Int)) && decide (((tab (ed s.length) (preP s s.length)).length : Int) ≤ ((tab (ed s.length) (preP s s.length)).length : Int))) = true := by
        rw [tab_length]; simp; omega
      rw [e4]
      simp only [grd, cond_true]
      rw [drop_tab, containsSides _ (by simp; omega) _ (fun l => decide (l.length ≠ 2)) (fun l _ => by
        unfold impl_IsSurface_2.f
        congr 1
        rw [Bool.eq_iff_iff]; simp; omega)]
      simp only [Option.bind_some, Bool.true_and, Bool.not_false]
      rw [List.any_map]
      rfl
  · have e : (!(decide ((s.length : Int) ≥ 2) && decide ((s.length : Int) ≤ 12)) || (Int.tmod (s.length : Int) 2 != 0)) = true := by
      rw [Int.tmod_eq_emod_of_nonneg (by omega)]
      by_cases h1 : 2 ≤ s.length
      · by_cases h2 : s.length ≤ 12
        · have : ¬ s.length % 2 = 0 := fun h3 => h ⟨h1, h2, h3⟩
          simp; omega
        · simp; omega
      · simp; omega
    rw [e, cond_true]
    unfold surfB
    have : (decide (2 ≤ s.length) && decide (s.length ≤ 12) && decide (s.length % 2 = 0)) = false := by
      rw [Bool.eq_false_iff]
      intro hc
      simp only [Bool.and_eq_true, decide_eq_true_eq] at hc
      exact h ⟨hc.1.1, hc.1.2, hc.2⟩
    rw [this]; rfl
theorem specSurf {s : List (List Int)} (hn : s.length ≤ 1048576) : spec_l07Is.f s = some (surfB s) := by
  unfold spec_l07Is.f
  by_cases h : 2 ≤ s.length ∧ s.length ≤ 12 ∧ s.length % 2 = 0
  · obtain ⟨h1, h2, h3⟩ := h
    have e1 : (((decide ((s.length : Int) < 2)) || (decide ((s.length : Int) > 12))) || ((Int.tmod (s.length : Int) 2) != 0)) = false := by
      rw [Int.tmod_eq_emod_of_nonneg (by omega)]; simp; omega
    have hm : ed s.length ≤ 18 := by unfold ed; omega
    rw [e1, cond_false, edges_eq (by omega), w64_succ (by omega), show decide ((0 : Int) ≤ ((ed s.length + 1 : Nat) : Int)) = true by simp; omega]
    simp only [grd, cond_true, Int.toNat_natCast]
    rw [small_in (by omega)]
    have hl := loop_any (f := spec_l07Is.b1 s) (fun i => (cnt (ed s.length) (preP s i), (i : Int))) s.length (fun i => !rowB (ed s.length) (gt s (i : Int))) false (cnt (ed s.length) (preP s s.length), (s.length : Int)) (by omega) (fun i hi => by
      unfold spec_l07Is.b1
      simp only [dlt_nat, hi, decide_true, cond_true]
      rw [chk_in (by omega), w64_succ (by omega)]
      by_cases h3 : (gt s (i : Int)).length = 3
      · have e3 : (((gt s (i : Int)).length : Int) != 3) = false := by rw [h3]; rfl
        rw [e3, cond_false]
        have hin := loop_any (f := spec_l07Is.b0 s i) (fun j => (cnt (ed s.length) (preP s i ++ rowP s i j), (j : Int))) 3 (fun j => !entB (ed s.length) (entry s i j)) (.ret false) (cnt (ed s.length) (preP s i ++ rowP s i 3), 3) (by omega) (fun j hj => by
          unfold spec_l07Is.b0
          have hj' : decide ((j : Int) < 3) = true := by simp; omega
          simp only [hj', cond_true]
          rw [chk_in (by omega), edges_eq (by omega)]
          unfold spec_l01In.f
          rw [Option.bind_some, w64_in (x := 0 - (ed s.length : Int)) (by omega)]
          have eb : (!(decide (gt (gt s (i : Int)) (j : Int) ≥ 0 - (ed s.length : Int)) && decide (gt (gt s (i : Int)) (j : Int) ≤ (ed s.length : Int))) || (gt (gt s (i : Int)) (j : Int) == 0)) = !entB (ed s.length) (entry s i j) := by
            unfold entB entry
            rw [Bool.eq_iff_iff]
            simp only [Bool.or_eq_true, Bool.not_eq_true', Bool.and_eq_false_iff, decide_eq_false_iff_not, beq_iff_eq, ne_eq]
            omega
          rw [eb]
          cases hb : entB (ed s.length) (entry s i j) with
          | false => rfl
          | true =>
            simp only [Bool.not_true, cond_false]
            have hle := abs_le hb
            have hsz := size_abs (m := ed s.length) (by omega) hb
            unfold entry at hsz
            rw [hsz]
            have hen : ((gt (gt s (i : Int)) (j : Int)).natAbs) = (entry s i j).natAbs := rfl
            rw [hen, cnt_length, chk_in (by omega), cnt_gt _ hle, Int.toNat_natCast, w64_succ (by
              have h1 := sdl_le (preP s i ++ rowP s i j) (entry s i j).natAbs
              rw [List.length_append, preP_length, rowP_length] at h1
              omega), cnt_add (a := ((i : Int), (j : Int))), w64_succ (by omega)]
            simp only [rowP, List.append_assoc]) (by
          unfold spec_l07Is.b0
          rfl)
        have hin' : loop (spec_l07Is.b0 s i) (cnt (ed s.length) (preP s i), 0) = some (bif (List.range 3).any (fun j => !entB (ed s.length) (entry s i j)) then .ret (.ret false) else .brk (cnt (ed s.length) (preP s i ++ rowP s i 3), 3)) := by simpa [rowP] using hin
        rw [hin']
        have ea : (List.range 3).any (fun j => !entB (ed s.length) (entry s i j)) = !rowB (ed s.length) (gt s (i : Int)) := by
          have := any_at (gt s (i : Int)) (fun x => !entB (ed s.length) x)
          rw [h3] at this
          unfold entry
          rw [this]
          unfold rowB
          rw [h3, List.all_eq_not_any_not]
          simp
        rw [ea]
        cases rowB (ed s.length) (gt s (i : Int)) <;> rfl
      · have e3 : (((gt s (i : Int)).length : Int) != 3) = true := by simp; omega
        rw [e3, cond_true]
        have : rowB (ed s.length) (gt s (i : Int)) = false := by
          unfold rowB
          have : decide ((gt s (i : Int)).length = 3) = false := by simpa using h3
          rw [this]; rfl
        rw [this]; rfl) (by
      unfold spec_l07Is.b1
      simp)
    have e0 : List.replicate (ed s.length + 1) (0 : Int) = cnt (ed s.length) (preP s 0) := by
      apply List.ext_getElem?
      intro q
      by_cases hq : q < ed s.length + 1 <;> simp [cnt, preP, sdl, hq]
    rw [e0]
    have hl' : loop (spec_l07Is.b1 s) (cnt (ed s.length) (preP s 0), 0) = some (bif badRows s then .ret false else .brk (cnt (ed s.length) (preP s s.length), (s.length : Int))) := by
      have := any_at s (fun t => !rowB (ed s.length) t)
      unfold badRows
      rw [← this]; exact hl
    rw [hl']
    unfold surfB
    have f1 : decide (2 ≤ s.length) = true := decide_eq_true h1
    have f2 : decide (s.length ≤ 12) = true := decide_eq_true h2
    have f3 : decide (s.length % 2 = 0) = true := decide_eq_true h3
    rw [f1, f2, f3]
    cases hb : badRows s with
    | true => rfl
    | false =>
      simp only [cond_false, Option.bind_some, ln]
      have hk := loop_any (f := spec_l07Is.b2 s (cnt (ed s.length) (preP s s.length))) (fun k => ((k + 1 : Nat) : Int)) (ed s.length) (fun k => decide ((sdl (preP s s.length) (k + 1)).length ≠ 2)) false ((ed s.length + 1 : Nat) : Int) (by omega) (fun k hk => by
        unfold spec_l07Is.b2
        rw [edges_eq (by omega)]
        have hd : decide (((k + 1 : Nat) : Int) ≤ (ed s.length : Int)) = true := by simp; omega
        rw [hd, cond_true, cnt_length, chk_in (by omega), cnt_gt _ (by omega), w64_succ (by omega)]
        have : ((((sdl (preP s s.length) (k + 1)).length : Nat) : Int) != 2) = decide ((sdl (preP s s.length) (k + 1)).length ≠ 2) := by
          rw [Bool.eq_iff_iff]; simp; omega
        rw [this]
        cases decide ((sdl (preP s s.length) (k + 1)).length ≠ 2) <;> rfl) (by
        unfold spec_l07Is.b2
        rw [edges_eq (by omega)]
        have hd : decide (((ed s.length + 1 : Nat) : Int) ≤ (ed s.length : Int)) = false := by simp; omega
        rw [hd]; rfl)
      have hk' : loop (spec_l07Is.b2 s (cnt (ed s.length) (preP s s.length))) 1 = some (bif badEdges s then .ret false else .brk ((ed s.length + 1 : Nat) : Int)) := hk
      rw [hk']
      cases badEdges s <;> rfl
  · have e : (((decide ((s.length : Int) < 2)) || (decide ((s.length : Int) > 12))) || ((Int.tmod (s.length : Int) 2) != 0)) = true := by
      rw [Int.tmod_eq_emod_of_nonneg (by omega)]
      by_cases h1 : 2 ≤ s.length
      · by_cases h2 : s.length ≤ 12
        · have : ¬ s.length % 2 = 0 := fun h3 => h ⟨h1, h2, h3⟩
          simp; omega
        · simp; omega
      · simp; omega
    rw [e, cond_true]
    unfold surfB
    have : (decide (2 ≤ s.length) && decide (s.length ≤ 12) && decide (s.length % 2 = 0)) = false := by
      rw [Bool.eq_false_iff]
      intro hc
      simp only [Bool.and_eq_true, decide_eq_true_eq] at hc
      exact h ⟨hc.1.1, hc.1.2, hc.2⟩
    rw [this]; rfl
end Go.Proofs.Ytnppkcemnjkboaa.G

/- Surfaces that are oriented, told by both. -/
namespace Go.Proofs.Ytnppkcemnjkboaa.G
open Go Go.Sx Go.Proofs
def fl (P : List Side) (k : Nat) : List Side := P.filter fun p => p.2.natAbs == k
theorem sdl_fl (P : List Side) (k : Nat) : sdl P k = (fl P k).map (·.1) := rfl
def sn (x : Int) : Int := if x > 0 then 1 else -1
def sg (P : List Side) (k : Nat) : Int := ((fl P k).map fun p => sn p.2).sum
def sgs (m : Nat) (P : List Side) : List Int := (List.range (m + 1)).map (sg P)
theorem fl_add (P : List Side) (a : Int × Int) (x : Int) (k : Nat) : fl (P ++ [(a, x)]) k = if x.natAbs = k then fl P k ++ [(a, x)] else fl P k := by
  unfold fl
  rw [List.filter_append]
  by_cases h : x.natAbs = k
  · rw [if_pos h]; simp [List.filter, h]
  · rw [if_neg h]
    have : (x.natAbs == k) = false := by simpa using h
    simp [List.filter, this]
theorem sg_add (P : List Side) (a : Int × Int) (x : Int) (k : Nat) : sg (P ++ [(a, x)]) k = if x.natAbs = k then sg P k + sn x else sg P k := by
  unfold sg
  rw [fl_add]
  by_cases h : x.natAbs = k
  · rw [if_pos h, if_pos h]; simp
  · rw [if_neg h, if_neg h]
theorem sum_le : ∀ l : List Side, -(l.length : Int) ≤ (l.map fun p => sn p.2).sum ∧ (l.map fun p => sn p.2).sum ≤ l.length
  | [] => by simp
  | p :: l => by
    have := sum_le l
    simp only [List.map_cons, List.sum_cons, List.length_cons]
    have h : sn p.2 = 1 ∨ sn p.2 = -1 := by unfold sn; split <;> simp
    rcases h with h | h <;> rw [h] <;> omega
theorem sg_le (P : List Side) (k : Nat) : -(P.length : Int) ≤ sg P k ∧ sg P k ≤ P.length := by
  have h1 := sum_le (fl P k)
  have h2 : (fl P k).length ≤ P.length := List.length_filter_le _ _
  unfold sg; omega
theorem sgs_length (m : Nat) (P : List Side) : (sgs m P).length = m + 1 := by simp [sgs]
theorem sgs_gt {m k : Nat} (P : List Side) (h : k ≤ m) : gt (sgs m P) (k : Int) = sg P k := by
  have : k < m + 1 := by omega
  simp [gt, sgs, List.getD, this]
theorem sgs_add {m : Nat} (P : List Side) (a : Int × Int) (x : Int) : (sgs m P).set x.natAbs (sg P x.natAbs + sn x) = sgs m (P ++ [(a, x)]) := by
  apply List.ext_getElem?
  intro q
  simp only [sgs, List.getElem?_set, List.length_map, List.length_range, List.getElem?_map]
  by_cases hq : q < m + 1
  · by_cases hx : x.natAbs = q
    · subst hx; simp [hq, sg_add]
    · simp [hq, hx, sg_add]
  · by_cases hx : x.natAbs = q
    · subst hx; simp [hq]
    · simp [hq, hx]
theorem mem_rowP {s : List (List Int)} {i : Nat} : ∀ {j} {p : Side}, p ∈ rowP s i j → ∃ q : Nat, q < j ∧ p = (((i : Int), (q : Int)), entry s i q)
  | 0, _, h => by cases h
  | j + 1, p, h => by
    rcases List.mem_append.1 h with h | h
    · obtain ⟨q, hq, e⟩ := mem_rowP h; exact ⟨q, by omega, e⟩
    · exact ⟨j, by omega, by simpa using h⟩
theorem mem_preP {s : List (List Int)} : ∀ {n} {p : Side}, p ∈ preP s n → ∃ i q : Nat, i < n ∧ q < 3 ∧ p = (((i : Int), (q : Int)), entry s i q)
  | 0, _, h => by cases h
  | n + 1, p, h => by
    rcases List.mem_append.1 h with h | h
    · obtain ⟨i, q, hi, hq, e⟩ := mem_preP h; exact ⟨i, q, by omega, hq, e⟩
    · obtain ⟨q, hq, e⟩ := mem_rowP h; exact ⟨n, q, by omega, hq, e⟩
structure Surf (s : List (List Int)) : Prop where
  two : 2 ≤ s.length
  most : s.length ≤ 12
  even : s.length % 2 = 0
  row : ∀ i, i < s.length → rowB (ed s.length) (gt s (i : Int)) = true
  edge : ∀ k, k < ed s.length → (sdl (preP s s.length) (k + 1)).length = 2
theorem surf_of {s : List (List Int)} (h : surfB s = true) : Surf s := by
  unfold surfB at h
  simp only [Bool.and_eq_true, decide_eq_true_eq, Bool.not_eq_true'] at h
  refine ⟨h.1.1.1.1, h.1.1.1.2, h.1.1.2, good_rows h.1.2, fun k hk => ?_⟩
  have := h.2
  unfold badEdges at this
  rw [List.any_eq_false] at this
  have := this k (List.mem_range.2 hk)
  simpa using this
theorem Surf.edge2 {s : List (List Int)} (h : Surf s) {k : Nat} (hk : k < ed s.length) : ∃ p q, fl (preP s s.length) (k + 1) = [p, q] ∧ p ∈ preP s s.length ∧ q ∈ preP s s.length ∧ p.2.natAbs = k + 1 ∧ q.2.natAbs = k + 1 := by
  have h1 := h.edge k hk
  rw [sdl_fl, List.length_map] at h1
  match hf : fl (preP s s.length) (k + 1), h1 with
  | [p, q], _ =>
    have hp : p ∈ fl (preP s s.length) (k + 1) := by rw [hf]; simp
    have hq : q ∈ fl (preP s s.length) (k + 1) := by rw [hf]; simp
    unfold fl at hp hq
    rw [List.mem_filter] at hp hq
    exact ⟨p, q, rfl, hp.1, hq.1, by simpa using hp.2, by simpa using hq.2⟩
/-- One edge is passed twice in the same direction. -/
def sameE (s : List (List Int)) (k : Nat) : Bool := decide (sg (preP s s.length) (k + 1) ≠ 0)
def orB (s : List (List Int)) : Bool := !(List.range (ed s.length)).any (sameE s)
theorem at_side {s : List (List Int)} (h : Surf s) {p : Side} (hp : p ∈ preP s s.length) {α : Type} (k : Int → Option α) : chk p.1.1 s.length (chk p.1.2 ((gt s p.1.1).length) (k (gt (gt s p.1.1) p.1.2))) = k p.2 := by
  obtain ⟨i, q, hi, hq, rfl⟩ := mem_preP hp
  have h3 := (row_entry (h.row i hi) (q := 0) (by omega)).2
  rw [chk_in (by simp only; omega), chk_in (by simp only; omega)]
  rfl
theorem oriented1 {s : List (List Int)} (h : Surf s) {k : Nat} (hk : k < ed s.length) : impl_oriented_1.f (sdl (preP s s.length) (k + 1)) s = some (sameE s k) := by
  obtain ⟨p, q, hf, hp, hq, ap, aq⟩ := h.edge2 hk
  unfold impl_oriented_1.f
  have e : sdl (preP s s.length) (k + 1) = [p.1, q.1] := by rw [sdl_fl, hf]; rfl
  rw [e]
  have g0 : gt [p.1, q.1] 0 = p.1 := rfl
  have g1 : gt [p.1, q.1] 1 = q.1 := rfl
  rw [chk_in (by simp), g0, g1]
  have := at_side h hp (fun x => chk 1 [p.1, q.1].length (chk q.1.1 s.length (chk q.1.2 ((gt s q.1.1).length) (some (x == (gt (gt s q.1.1) q.1.2))))))
  rw [this, chk_in (by simp)]
  have := at_side h hq (fun y => some (p.2 == y))
  rw [this]
  congr 1
  unfold sameE sg
  rw [hf]
  simp only [List.map_cons, List.map_nil, List.sum_cons, List.sum_nil]
  rw [Bool.eq_iff_iff, beq_iff_eq, decide_eq_true_iff]
  unfold sn
  split <;> split <;> omega
theorem implOr {s : List (List Int)} (h : Surf s) : impl_oriented.f s = some (orB s) := by
  have h2 := h.most
  have hm : ed s.length ≤ 18 := by unfold ed; omega
  unfold impl_oriented.f
  rw [sides_eq (by omega) h.row, Option.bind_some]
  have e4 : (decide (0 ≤ 1) && decide (1 ≤ ((tab (ed s.length) (preP s s.length)).length : Int)) && decide (((tab (ed s.length) (preP s s.length)).length : Int) ≤ ((tab (ed s.length) (preP s s.length)).length : Int))) = true := by
    rw [tab_length]; simp; omega
  rw [e4]
  simp only [grd, cond_true]
  have hc := containsSides ((List.range (ed s.length)).map fun k => sdl (preP s s.length) (k + 1)) (by simp; omega) (fun x0_ => impl_oriented_1.f x0_ s) (fun l => (impl_oriented_1.f l s).getD false) (fun l hl => by
    obtain ⟨k, hk, rfl⟩ := List.mem_map.1 hl
    rw [oriented1 h (List.mem_range.1 hk)]; rfl)
  rw [drop_tab, hc]
  simp only [Option.bind_some]
  congr 2
  rw [List.any_map]
  refine any_congr fun k hk => ?_
  show (impl_oriented_1.f (sdl (preP s s.length) (k + 1)) s).getD false = _
  rw [oriented1 h hk]; rfl
theorem specOr {s : List (List Int)} (h : Surf s) : spec_l07Oriented.f s = some (orB s) := by
  have h2 := h.most
  have hm : ed s.length ≤ 18 := by unfold ed; omega
  unfold spec_l07Oriented.f
  rw [edges_eq (by omega), w64_succ (by omega), show decide ((0 : Int) ≤ ((ed s.length + 1 : Nat) : Int)) = true by simp; omega]
  simp only [grd, cond_true, Int.toNat_natCast]
  rw [small_in (by omega)]
  have hl := loop1_upto (f := spec_l07Oriented.b1 s) (fun i => (sgs (ed s.length) (preP s i), (i : Int))) s.length (sgs (ed s.length) (preP s s.length), (s.length : Int)) (by omega) (fun i hi => by
    unfold spec_l07Oriented.b1
    simp only [dlt_nat, hi, decide_true, cond_true]
    have h3 := (row_entry (h.row i hi) (q := 0) (by omega)).2
    have hin := loop1_upto (f := spec_l07Oriented.b0 i s) (fun j => (sgs (ed s.length) (preP s i ++ rowP s i j), (j : Int))) 3 (sgs (ed s.length) (preP s i ++ rowP s i 3), 3) (by omega) (fun j hj => by
      unfold spec_l07Oriented.b0
      have hj' : decide ((j : Int) < 3) = true := by simp; omega
      have he := (row_entry (h.row i hi) hj).1
      have hle := abs_le he
      have hsg := sg_le (preP s i ++ rowP s i j) (entry s i j).natAbs
      rw [List.length_append, preP_length, rowP_length] at hsg
      have hen : gt (gt s (i : Int)) (j : Int) = entry s i j := rfl
      simp only [hj', cond_true]
      rw [chk_in (by omega), chk_in (by omega), hen]
      have hne : entry s i j ≠ 0 := by
        unfold entB at he
        simp only [Bool.and_eq_true, decide_eq_true_eq] at he
        exact he.1.1
      by_cases hpos : entry s i j > 0
      · have ea : entry s i j = ((entry s i j).natAbs : Int) := by omega
        have hs : sn (entry s i j) = 1 := by unfold sn; rw [if_pos hpos]
        have := sgs_add (m := ed s.length) (preP s i ++ rowP s i j) ((i : Int), (j : Int)) (entry s i j)
        rw [hs] at this
        have e1 : gt (sgs (ed s.length) (preP s i ++ rowP s i j)) (entry s i j) = sg (preP s i ++ rowP s i j) (entry s i j).natAbs := by
          conv => lhs; rw [ea]
          exact sgs_gt _ hle
        have e2 : (entry s i j).toNat = (entry s i j).natAbs := by omega
        rw [decide_eq_true hpos, cond_true, sgs_length, chk_in (by omega), e1, e2, w64_in (x := sg (preP s i ++ rowP s i j) (entry s i j).natAbs + 1) (by omega), this, Option.bind_some, w64_succ (by omega)]
        simp only [rowP, List.append_assoc]
      · have ea : w64 (0 - entry s i j) = ((entry s i j).natAbs : Int) := by rw [w64_in (by omega)]; omega
        have hs : sn (entry s i j) = -1 := by unfold sn; rw [if_neg hpos]
        have := sgs_add (m := ed s.length) (preP s i ++ rowP s i j) ((i : Int), (j : Int)) (entry s i j)
        rw [hs] at this
        rw [decide_eq_false hpos, cond_false, ea, sgs_length, chk_in (by omega), sgs_gt _ hle, Int.toNat_natCast, w64_in (x := sg (preP s i ++ rowP s i j) (entry s i j).natAbs - 1) (by omega)]
        have e3 : sg (preP s i ++ rowP s i j) (entry s i j).natAbs - 1 = sg (preP s i ++ rowP s i j) (entry s i j).natAbs + -1 := by omega
        rw [e3, this, Option.bind_some, w64_succ (by omega)]
        simp only [rowP, List.append_assoc]) (by
      unfold spec_l07Oriented.b0
      rfl)
    have hin' : loop1 (spec_l07Oriented.b0 i s) (sgs (ed s.length) (preP s i), 0) = some (sgs (ed s.length) (preP s i ++ rowP s i 3), 3) := by simpa [rowP] using hin
    rw [hin']
    simp only [Option.bind_some, w64_succ (by omega : i < 4611686018427387904)]
    rfl) (by
    unfold spec_l07Oriented.b1
    simp)
  have e0 : List.replicate (ed s.length + 1) (0 : Int) = sgs (ed s.length) (preP s 0) := by
    apply List.ext_getElem?
    intro q
    by_cases hq : q < ed s.length + 1 <;> simp [sgs, preP, sg, fl, hq]
  rw [e0]
  have hl' : loop1 (spec_l07Oriented.b1 s) (sgs (ed s.length) (preP s 0), 0) = some (sgs (ed s.length) (preP s s.length), (s.length : Int)) := hl
  rw [hl', Option.bind_some]
  have hk := loop_any (f := spec_l07Oriented.b2 (sgs (ed s.length) (preP s s.length))) (fun k => (k : Int)) (ed s.length + 1) (fun k => decide (sg (preP s s.length) k ≠ 0)) false ((ed s.length + 1 : Nat) : Int) (by omega) (fun k hk => by
    unfold spec_l07Oriented.b2
    simp only [sgs_length, dlt_nat, hk, decide_true, cond_true]
    rw [chk_in (by omega), sgs_gt _ (by omega), w64_succ (by omega)]
    have : (sg (preP s s.length) k != 0) = decide (sg (preP s s.length) k ≠ 0) := by rw [Bool.eq_iff_iff]; simp
    rw [this]
    cases decide (sg (preP s s.length) k ≠ 0) <;> rfl) (by
    unfold spec_l07Oriented.b2
    simp [sgs_length])
  have hk' : loop (spec_l07Oriented.b2 (sgs (ed s.length) (preP s s.length))) 0 = _ := hk
  rw [hk']
  have hz : sg (preP s s.length) 0 = 0 := by
    unfold sg
    have : fl (preP s s.length) 0 = [] := by
      unfold fl
      rw [List.filter_eq_nil_iff]
      intro p hp hc
      obtain ⟨i, q, hi, hq, rfl⟩ := mem_preP hp
      have he := (row_entry (h.row i hi) hq).1
      unfold entB at he
      simp only [Bool.and_eq_true, decide_eq_true_eq] at he
      simp at hc
      exact he.1.1 hc
    rw [this]; rfl
  have e : (List.range (ed s.length + 1)).any (fun k => decide (sg (preP s s.length) k ≠ 0)) = (List.range (ed s.length)).any (sameE s) := by
    rw [List.range_succ_eq_map, List.any_cons, List.any_map, hz]
    rfl
  rw [e]
  unfold orB
  cases (List.range (ed s.length)).any (sameE s) <;> rfl
end Go.Proofs.Ytnppkcemnjkboaa.G

/- The vertices of a surface, counted by both. -/
namespace Go.Proofs.Ytnppkcemnjkboaa.G
open Go Go.Sx Go.Proofs
/-- The end, and the beginning, of a side, as things. -/
def endN (x : Int) : Nat := if x > 0 then 2 * x.natAbs - 1 else 2 * x.natAbs - 2
def begN (x : Int) : Nat := if x > 0 then 2 * x.natAbs - 2 else 2 * x.natAbs - 1
theorem ends_eq {m : Nat} (hm : m ≤ 100) {x : Int} (h : entB m x = true) : impl_ends.f x = some (((begN x : Nat) : Int), ((endN x : Nat) : Int)) := by
  unfold impl_ends.f impl_size.f
  rw [size_abs hm h]
  have hle := abs_le h
  unfold entB at h
  simp only [Bool.and_eq_true, decide_eq_true_eq] at h
  have h1 : 1 ≤ x.natAbs := by omega
  simp only [Option.bind_some]
  rw [w64_in (x := (x.natAbs : Int) - 1) (by omega), w64_in (x := 2 * ((x.natAbs : Int) - 1)) (by omega), w64_in (x := 2 * ((x.natAbs : Int) - 1) + 1) (by omega)]
  unfold begN endN
  by_cases hp : x > 0
  · rw [decide_eq_true hp, cond_true, if_pos hp, if_pos hp]
    congr 2 <;> omega
  · rw [decide_eq_false hp, cond_false, if_neg hp, if_neg hp]
    congr 2 <;> omega
theorem end_eq {m : Nat} (hm : m ≤ 100) {x : Int} (h : entB m x = true) : spec_l07End.f x true = some ((endN x : Nat) : Int) ∧ spec_l07End.f x false = some ((begN x : Nat) : Int) := by
  unfold spec_l07End.f
  have hle := abs_le h
  unfold entB at h
  simp only [Bool.and_eq_true, decide_eq_true_eq] at h
  unfold begN endN
  by_cases hp : x > 0
  · rw [decide_eq_false (by omega)]
    simp only [cond_false, Option.bind_some, cond_true]
    rw [w64_in (x := 2 * x) (by omega), w64_in (x := 2 * x - 1) (by omega), w64_in (x := 2 * x - 2) (by omega), if_pos hp, if_pos hp]
    constructor <;> congr 1 <;> omega
  · rw [decide_eq_true (by omega)]
    simp only [cond_true, Option.bind_some, Bool.not_true, Bool.not_false, cond_false]
    rw [w64_in (x := 0 - x) (by omega), w64_in (x := 2 * (0 - x)) (by omega), w64_in (x := 2 * (0 - x) - 1) (by omega), w64_in (x := 2 * (0 - x) - 2) (by omega), if_neg hp, if_neg hp]
    constructor <;> congr 1 <;> omega
theorem end_lt {n m : Nat} (hm : 2 * m = n) {x : Int} (h : entB m x = true) : endN x < n ∧ begN x < n := by
  have hle := abs_le h
  unfold entB at h
  simp only [Bool.and_eq_true, decide_eq_true_eq] at h
  unfold endN begN
  split <;> omega
/-- The pairs that are joined: all of the first i triangles, and j more. -/
def vrow (s : List (List Int)) (i : Nat) : Nat → List (Nat × Nat) → List (Nat × Nat)
  | 0, ps => ps
  | j + 1, ps => (endN (entry s i j), begN (entry s i ((j + 1) % 3))) :: vrow s i j ps
def vall (s : List (List Int)) : Nat → List (Nat × Nat)
  | 0 => []
  | i + 1 => vrow s i 3 (vall s i)
/-- A loop that goes on with something that is there. -/
theorem loop1_ex {σ : Type} {f : σ → Option (LB σ)} (J : Nat → σ → Prop) (Q : σ → Prop) (n : Nat) (hn : n < 1000000) (s : σ) (h0 : J 0 s) (step : ∀ i s, i < n → J i s → ∃ s', f s = some (.next s') ∧ J (i + 1) s') (fin : ∀ s, J n s → ∃ s', f s = some (.brk s') ∧ Q s') : ∃ o, loop1 f s = some o ∧ Q o := by
  have key : ∀ d i s, i + d = n → J i s → ∃ o, loopN (ρ := Empty) (fun s => (f s).map LB.lr) (d + 1) s = some (.brk o) ∧ Q o := by
    intro d
    induction d with
    | zero =>
      intro i s hi hj
      obtain rfl : i = n := by omega
      obtain ⟨s', h1, h2⟩ := fin s hj
      exact ⟨s', by simp only [loopN, h1]; rfl, h2⟩
    | succ d ih =>
      intro i s hi hj
      obtain ⟨s', h1, h2⟩ := step i s (by omega) hj
      obtain ⟨o, ho, hq⟩ := ih (i + 1) s' (by omega) h2
      exact ⟨o, by rw [loopN, h1]; exact ho, hq⟩
  obtain ⟨o, ho, hq⟩ := key n 0 s (by omega) h0
  exact ⟨o, loop1_of (loop_of ho (by omega)), hq⟩
theorem ed2 {n : Nat} (h : n % 2 = 0) : 2 * ed n = 3 * n := by unfold ed; omega
theorem next3 {j : Nat} (hj : j < 3) : Int.tmod (w64 ((j : Int) + 1)) 3 = (((j + 1) % 3 : Nat) : Int) := by
  rw [w64_in (by omega), Int.tmod_eq_emod_of_nonneg (by omega)]; omega
theorem implVert {s : List (List Int)} (h : Surf s) : ∃ g, impl_vertices.f s = some (roots (3 * s.length) (isRoot g) : Int) ∧ Pool (3 * s.length) g (vall s s.length) := by
  have h2 := h.most
  have h3 := h.two
  have he := ed2 h.even
  have hm : ed s.length ≤ 18 := by unfold ed; omega
  unfold impl_vertices.f impl_edgesOf.f
  rw [Option.bind_some, edges_eq (by omega), w64_in (x := 2 * (ed s.length : Int)) (by omega), show (2 * (ed s.length : Int)) = ((3 * s.length : Nat) : Int) by omega, poolOf_eq _ (by omega), Option.bind_some]
  obtain ⟨o, ho, g, hg, hp⟩ := loop1_ex (f := impl_vertices.b1 s) (fun i st => ∃ g, st = (lz (3 * s.length) g, (i : Int)) ∧ Pool (3 * s.length) g (vall s i)) (fun o => ∃ g, o.1 = lz (3 * s.length) g ∧ Pool (3 * s.length) g (vall s s.length)) s.length (by omega) (lz (3 * s.length) id, 0) ⟨id, rfl, Pool.start _⟩
    (by
      rintro i st hi ⟨g, rfl, hp⟩
      unfold impl_vertices.b1
      have hl := (row_entry (h.row i hi) (q := 0) (by omega)).2
      simp only [dlt_nat, hi, decide_true, cond_true]
      rw [chk_in (by omega)]
      obtain ⟨o, ho, g', rfl, hp'⟩ := loop1_ex (f := impl_vertices.b0 s i) (fun j st => ∃ g, st = (lz (3 * s.length) g, (j : Int)) ∧ Pool (3 * s.length) g (vrow s i j (vall s i))) (fun o => ∃ g, o = (lz (3 * s.length) g, 3) ∧ Pool (3 * s.length) g (vrow s i 3 (vall s i))) 3 (by omega) (lz (3 * s.length) g, 0) ⟨g, rfl, hp⟩
        (by
          rintro j st hj ⟨g, rfl, hp⟩
          unfold impl_vertices.b0
          have hj' : decide ((j : Int) < 3) = true := by simp; omega
          have e1 := (row_entry (h.row i hi) hj).1
          have e2 := (row_entry (h.row i hi) (q := (j + 1) % 3) (by omega)).1
          have en1 : gt (gt s (i : Int)) (j : Int) = entry s i j := rfl
          have en2 : gt (gt s (i : Int)) (((j + 1) % 3 : Nat) : Int) = entry s i ((j + 1) % 3) := rfl
          simp only [hl]
          rw [show ((((3 : Nat)) : Int)) = 3 from rfl, hj', cond_true, chk_in (by omega), en1, ends_eq (by omega) e1]
          simp only [Option.bind_some]
          rw [next3 hj, chk_in (by omega), en2, ends_eq (by omega) e2]
          simp only [Option.bind_some]
          obtain ⟨g', hg', hp'⟩ := hp.join (by omega) (i := endN (entry s i j)) (k := begN (entry s i ((j + 1) % 3))) (end_lt he e1).1 (end_lt he e2).2
          rw [hg', Option.bind_some, w64_succ (by omega)]
          exact ⟨_, rfl, g', rfl, hp'⟩)
        (by
          rintro st ⟨g, rfl, hp⟩
          unfold impl_vertices.b0
          simp only [hl]
          exact ⟨_, rfl, g, rfl, hp⟩)
      rw [ho]
      simp only [Option.bind_some]
      rw [w64_succ (by omega)]
      exact ⟨_, rfl, g', rfl, hp'⟩)
    (by
      rintro st ⟨g, rfl, hp⟩
      unfold impl_vertices.b1
      simp only [dlt_nat, Nat.lt_irrefl, decide_false, cond_false]
      exact ⟨_, rfl, g, rfl, hp⟩)
  refine ⟨g, ?_, hp⟩
  rw [ho]
  simp only [Option.bind_some]
  obtain ⟨o1, o2⟩ := o
  simp only at hg
  subst hg
  show (impl_pool_distinct.f (lz (3 * s.length) g)).bind _ = _
  rw [distinct_eq hp.le (by omega)]
  rfl
theorem specVert {s : List (List Int)} (h : Surf s) : ∃ f, spec_l07Vertices.f s = some (roots (3 * s.length) (isFirst f) : Int) ∧ Marks (3 * s.length) f (vall s s.length) := by
  have h2 := h.most
  have h3 := h.two
  have he := ed2 h.even
  have hm : ed s.length ≤ 18 := by unfold ed; omega
  unfold spec_l07Vertices.f
  rw [w64_in (x := (s.length : Int) * 3) (by omega), show ((s.length : Int) * 3) = ((3 * s.length : Nat) : Int) by omega, numbers_eq _ (by omega), Option.bind_some]
  obtain ⟨o, ho, g, hg, hp⟩ := loop1_ex (f := spec_l07Vertices.b1 s) (fun i st => ∃ g, st = (lz (3 * s.length) g, (i : Int)) ∧ Marks (3 * s.length) g (vall s i)) (fun o => ∃ g, o.1 = lz (3 * s.length) g ∧ Marks (3 * s.length) g (vall s s.length)) s.length (by omega) (lz (3 * s.length) id, 0) ⟨id, rfl, Marks.start _⟩
    (by
      rintro i st hi ⟨g, rfl, hp⟩
      unfold spec_l07Vertices.b1
      have hl := (row_entry (h.row i hi) (q := 0) (by omega)).2
      simp only [dlt_nat, hi, decide_true, cond_true]
      obtain ⟨o, ho, g', rfl, hp'⟩ := loop1_ex (f := spec_l07Vertices.b0 i s) (fun j st => ∃ g, st = (lz (3 * s.length) g, (j : Int)) ∧ Marks (3 * s.length) g (vrow s i j (vall s i))) (fun o => ∃ g, o = (lz (3 * s.length) g, 3) ∧ Marks (3 * s.length) g (vrow s i 3 (vall s i))) 3 (by omega) (lz (3 * s.length) g, 0) ⟨g, rfl, hp⟩
        (by
          rintro j st hj ⟨g, rfl, hp⟩
          unfold spec_l07Vertices.b0
          have hj' : decide ((j : Int) < 3) = true := by simp; omega
          have e1 := (row_entry (h.row i hi) hj).1
          have e2 := (row_entry (h.row i hi) (q := (j + 1) % 3) (by omega)).1
          have en1 : gt (gt s (i : Int)) (j : Int) = entry s i j := rfl
          have en2 : gt (gt s (i : Int)) (((j + 1) % 3 : Nat) : Int) = entry s i ((j + 1) % 3) := rfl
          simp only [hj', cond_true]
          rw [chk_in (by omega), chk_in (by omega), en1, (end_eq (by omega) e1).1, Option.bind_some, next3 hj, chk_in (by omega), en2, (end_eq (by omega) e2).2, Option.bind_some]
          obtain ⟨g', hg', hp'⟩ := hp.join (by omega) (i := endN (entry s i j)) (k := begN (entry s i ((j + 1) % 3))) (end_lt he e1).1 (end_lt he e2).2
          rw [hg', Option.bind_some, w64_succ (by omega)]
          exact ⟨_, rfl, g', rfl, hp'⟩)
        (by
          rintro st ⟨g, rfl, hp⟩
          unfold spec_l07Vertices.b0
          exact ⟨_, rfl, g, rfl, hp⟩)
      rw [ho]
      simp only [Option.bind_some]
      rw [w64_succ (by omega)]
      exact ⟨_, rfl, g', rfl, hp'⟩)
    (by
      rintro st ⟨g, rfl, hp⟩
      unfold spec_l07Vertices.b1
      simp only [dlt_nat, Nat.lt_irrefl, decide_false, cond_false]
      exact ⟨_, rfl, g, rfl, hp⟩)
  refine ⟨g, ?_, hp⟩
  rw [ho]
  simp only [Option.bind_some]
  obtain ⟨o1, o2⟩ := o
  simp only at hg
  subst hg
  show (spec_l07Different.f (lz (3 * s.length) g)).bind _ = _
  rw [different_eq (by omega)]
  rfl
theorem vert_same {s : List (List Int)} (h : Surf s) : ∃ v : Nat, v ≤ 36 ∧ impl_vertices.f s = some (v : Int) ∧ spec_l07Vertices.f s = some (v : Int) := by
  obtain ⟨g, h1, h2⟩ := implVert h
  obtain ⟨f, h3, h4⟩ := specVert h
  have h5 := h.most
  have h6 := roots_le (3 * s.length) (isRoot g)
  refine ⟨_, by omega, h1, ?_⟩
  rw [h3, count_same h2 h4 (fun _ _ => Iff.rfl)]
end Go.Proofs.Ytnppkcemnjkboaa.G

/- The pieces of a surface, counted by both. -/
namespace Go.Proofs.Ytnppkcemnjkboaa.G
open Go Go.Sx Go.Proofs
theorem into_rowP (s : List (List Int)) (i : Nat) : ∀ {j q : Nat}, q < j → (((i : Int), (q : Int)), entry s i q) ∈ rowP s i j
  | 0, _, h => by omega
  | j + 1, q, h => by
    by_cases hq : q = j
    · subst hq; exact List.mem_append.2 (.inr (by simp))
    · exact List.mem_append.2 (.inl (into_rowP s i (by omega)))
theorem into_preP (s : List (List Int)) : ∀ {n i q : Nat}, i < n → q < 3 → (((i : Int), (q : Int)), entry s i q) ∈ preP s n
  | 0, _, _, h, _ => by omega
  | n + 1, i, q, h, hq => by
    by_cases hi : i = n
    · subst hi; exact List.mem_append.2 (.inr (into_rowP s i hq))
    · exact List.mem_append.2 (.inl (into_preP s (by omega) hq))
/-- The triangles of an edge. -/
def epair (s : List (List Int)) (e : Nat) : Nat × Nat := match fl (preP s s.length) (e + 1) with
  | [p, q] => (p.1.1.toNat, q.1.1.toNat)
  | _ => (0, 0)
def eall (s : List (List Int)) : Nat → List (Nat × Nat)
  | 0 => []
  | e + 1 => epair s e :: eall s e
theorem mem_eall {s : List (List Int)} : ∀ {m} {p : Nat × Nat}, p ∈ eall s m → ∃ e : Nat, e < m ∧ p = epair s e
  | 0, _, h => by cases h
  | m + 1, p, h => by
    rcases List.mem_cons.1 h with rfl | h
    · exact ⟨m, by omega, rfl⟩
    · obtain ⟨e, he, h⟩ := mem_eall h; exact ⟨e, by omega, h⟩
theorem into_eall {s : List (List Int)} : ∀ {m e : Nat}, e < m → epair s e ∈ eall s m
  | 0, _, h => by omega
  | m + 1, e, h => by
    by_cases he : e = m
    · subst he; exact List.mem_cons_self
    · exact List.mem_cons_of_mem _ (into_eall (by omega))
def touchB (s : List (List Int)) (i k : Nat) : Bool := (List.range 3).any fun a => (List.range 3).any fun b => decide ((entry s i a).natAbs = (entry s k b).natAbs)
def trow (s : List (List Int)) (i : Nat) : Nat → List (Nat × Nat) → List (Nat × Nat)
  | 0, ps => ps
  | k + 1, ps => bif touchB s i k then (i, k) :: trow s i k ps else trow s i k ps
def tall (s : List (List Int)) : Nat → List (Nat × Nat)
  | 0 => []
  | i + 1 => trow s i i (tall s i)
theorem mem_trow {s : List (List Int)} {i : Nat} {ps : List (Nat × Nat)} : ∀ {k} {p : Nat × Nat}, p ∈ trow s i k ps → (∃ q : Nat, q < k ∧ touchB s i q = true ∧ p = (i, q)) ∨ p ∈ ps
  | 0, _, h => .inr h
  | k + 1, p, h => by
    unfold trow at h
    cases ht : touchB s i k with
    | false =>
      rw [ht] at h
      rcases mem_trow h with ⟨q, hq, h⟩ | h
      · exact .inl ⟨q, by omega, h⟩
      · exact .inr h
    | true =>
      rw [ht] at h
      rcases List.mem_cons.1 h with rfl | h
      · exact .inl ⟨k, by omega, ht, rfl⟩
      · rcases mem_trow h with ⟨q, hq, h⟩ | h
        · exact .inl ⟨q, by omega, h⟩
        · exact .inr h
theorem into_trow {s : List (List Int)} {i : Nat} {ps : List (Nat × Nat)} : ∀ {k q : Nat}, q < k → touchB s i q = true → (i, q) ∈ trow s i k ps
  | 0, _, h, _ => by omega
  | k + 1, q, h, ht => by
    unfold trow
    by_cases hq : q = k
    · subst hq; rw [ht]; exact List.mem_cons_self
    · have := into_trow (ps := ps) (k := k) (q := q) (by omega) ht
      cases touchB s i k with
      | false => exact this
      | true => exact List.mem_cons_of_mem _ this
theorem old_trow {s : List (List Int)} {i : Nat} {ps : List (Nat × Nat)} {p : Nat × Nat} (hp : p ∈ ps) : ∀ {k : Nat}, p ∈ trow s i k ps
  | 0 => hp
  | k + 1 => by
    unfold trow
    cases touchB s i k with
    | false => exact old_trow hp
    | true => exact List.mem_cons_of_mem _ (old_trow hp)
theorem mem_tall {s : List (List Int)} : ∀ {n} {p : Nat × Nat}, p ∈ tall s n → ∃ i q : Nat, i < n ∧ q < i ∧ touchB s i q = true ∧ p = (i, q)
  | 0, _, h => by cases h
  | n + 1, p, h => by
    rcases mem_trow h with ⟨q, hq, ht, rfl⟩ | h
    · exact ⟨n, q, by omega, hq, ht, rfl⟩
    · obtain ⟨i, q, hi, h⟩ := mem_tall h; exact ⟨i, q, by omega, h⟩
theorem into_tall {s : List (List Int)} : ∀ {n i q : Nat}, i < n → q < i → touchB s i q = true → (i, q) ∈ tall s n
  | 0, _, _, h, _, _ => by omega
  | n + 1, i, q, h, hq, ht => by
    by_cases hi : i = n
    · subst hi; exact into_trow hq ht
    · exact old_trow (into_tall (by omega) hq ht)
theorem touch_iff {s : List (List Int)} {i k : Nat} : touchB s i k = true ↔ ∃ a b : Nat, a < 3 ∧ b < 3 ∧ (entry s i a).natAbs = (entry s k b).natAbs := by
  unfold touchB
  rw [List.any_eq_true]
  constructor
  · rintro ⟨a, ha, h⟩
    obtain ⟨b, hb, h⟩ := List.any_eq_true.1 h
    exact ⟨a, b, List.mem_range.1 ha, List.mem_range.1 hb, by simpa using h⟩
  · rintro ⟨a, b, ha, hb, h⟩
    exact ⟨a, List.mem_range.2 ha, List.any_eq_true.2 ⟨b, List.mem_range.2 hb, by simpa using h⟩⟩
theorem touch_symm {s : List (List Int)} {i k : Nat} (h : touchB s i k = true) : touchB s k i = true := by
  obtain ⟨a, b, ha, hb, e⟩ := touch_iff.1 h
  exact touch_iff.2 ⟨b, a, hb, ha, e.symm⟩
theorem pieces_conn {s : List (List Int)} (h : Surf s) (x y : Nat) : conn (eall s (ed s.length)) x y ↔ conn (tall s s.length) x y := by
  refine conn_same ?_ ?_ x y
  · intro p hp
    obtain ⟨e, he, rfl⟩ := mem_eall hp
    obtain ⟨p, q, hf, hp, hq, ap, aq⟩ := h.edge2 he
    obtain ⟨i, a, hi, ha, rfl⟩ := mem_preP hp
    obtain ⟨j, b, hj, hb, rfl⟩ := mem_preP hq
    have e1 : epair s e = (i, j) := by
      unfold epair; rw [hf]; simp
    rw [e1]
    simp only at ap aq
    have ht : touchB s i j = true := touch_iff.2 ⟨a, b, ha, hb, by omega⟩
    rcases Nat.lt_trichotomy i j with hlt | heq | hgt
    · exact (conn_eqv _).2.1 _ _ (conn_mem (into_tall hj hlt (touch_symm ht)))
    · subst heq; exact (conn_eqv _).1 _
    · exact conn_mem (into_tall hi hgt ht)
  · intro p hp
    obtain ⟨i, k, hi, hk, ht, rfl⟩ := mem_tall hp
    obtain ⟨a, b, ha, hb, hab⟩ := touch_iff.1 ht
    have hen := (row_entry (h.row i hi) ha).1
    have hle := abs_le hen
    unfold entB at hen
    simp only [Bool.and_eq_true, decide_eq_true_eq] at hen
    obtain ⟨e, he⟩ : ∃ e, (entry s i a).natAbs = e + 1 := ⟨(entry s i a).natAbs - 1, by omega⟩
    obtain ⟨p, q, hf, _, _, _, _⟩ := h.edge2 (k := e) (by omega)
    have m1 : ((((i : Int), (a : Int)), entry s i a) : Side) ∈ fl (preP s s.length) (e + 1) := by
      unfold fl; rw [List.mem_filter]; exact ⟨into_preP s hi ha, by simpa using he⟩
    have m2 : ((((k : Int), (b : Int)), entry s k b) : Side) ∈ fl (preP s s.length) (e + 1) := by
      unfold fl; rw [List.mem_filter]; exact ⟨into_preP s (by omega) hb, by simp only [beq_iff_eq]; omega⟩
    rw [hf] at m1 m2
    simp only [List.mem_cons, List.not_mem_nil, or_false] at m1 m2
    have hmem := into_eall (s := s) (m := ed s.length) (e := e) (by omega)
    have hc := conn_mem hmem
    rcases m1 with rfl | rfl <;> rcases m2 with m2 | m2
    · exfalso
      have := congrArg (fun z : Side => z.1.1) m2
      simp only at this; omega
    · subst m2
      have e1 : epair s e = (i, k) := by unfold epair; rw [hf]; simp
      rw [e1] at hc; exact hc
    · subst m2
      have e1 : epair s e = (k, i) := by unfold epair; rw [hf]; simp
      rw [e1] at hc; exact (conn_eqv _).2.1 _ _ hc
    · exfalso
      have := congrArg (fun z : Side => z.1.1) m2
      simp only at this; omega
theorem implPieces {s : List (List Int)} (h : Surf s) : ∃ g, impl_pieces.f s = some (roots s.length (isRoot g) : Int) ∧ Pool s.length g (eall s (ed s.length)) := by
  have h2 := h.most
  have hm : ed s.length ≤ 18 := by unfold ed; omega
  unfold impl_pieces.f
  rw [poolOf_eq _ (by omega), Option.bind_some, sides_eq (by omega) h.row, Option.bind_some]
  have e4 : (decide (0 ≤ 1) && decide (1 ≤ ((tab (ed s.length) (preP s s.length)).length : Int)) && decide (((tab (ed s.length) (preP s s.length)).length : Int) ≤ ((tab (ed s.length) (preP s s.length)).length : Int))) = true := by
    rw [tab_length]; simp; omega
  rw [e4]
  simp only [grd, cond_true]
  obtain ⟨o, ho, g, hg, hp⟩ := loop1_ex (f := impl_pieces.b0 (tab (ed s.length) (preP s s.length))) (fun e st => ∃ g, st = (lz s.length g, (e : Int)) ∧ Pool s.length g (eall s e)) (fun o => ∃ g, o.1 = lz s.length g ∧ Pool s.length g (eall s (ed s.length))) (ed s.length) (by omega) (lz s.length id, 0) ⟨id, rfl, Pool.start _⟩
    (by
      rintro e st he ⟨g, rfl, hp⟩
      unfold impl_pieces.b0
      rw [drop_tab]
      have hlen : ((List.range (ed s.length)).map fun k => sdl (preP s s.length) (k + 1)).length = ed s.length := by simp
      have hgt : gt ((List.range (ed s.length)).map fun k => sdl (preP s s.length) (k + 1)) (e : Int) = sdl (preP s s.length) (e + 1) := by
        rw [gt_at (by rw [hlen]; exact he)]; simp
      obtain ⟨p, q, hf, hpp, hqq, ap, aq⟩ := h.edge2 he
      obtain ⟨i, a, hi, ha, rfl⟩ := mem_preP hpp
      obtain ⟨j, b, hj, hb, rfl⟩ := mem_preP hqq
      have e0 : sdl (preP s s.length) (e + 1) = [((i : Int), (a : Int)), ((j : Int), (b : Int))] := by rw [sdl_fl, hf]; rfl
      have e1 : epair s e = (i, j) := by unfold epair; rw [hf]; simp
      simp only [hlen, dlt_nat, he, decide_true, cond_true, hgt, e0]
      have g0 : gt [((i : Int), (a : Int)), ((j : Int), (b : Int))] 0 = ((i : Int), (a : Int)) := rfl
      have g1 : gt [((i : Int), (a : Int)), ((j : Int), (b : Int))] 1 = ((j : Int), (b : Int)) := rfl
      rw [chk_in (by omega), chk_in (by simp), chk_in (by simp), g0, g1]
      obtain ⟨g', hg', hp'⟩ := hp.join (by omega) hi hj
      simp only
      rw [hg', Option.bind_some, w64_succ (by omega)]
      exact ⟨_, rfl, g', rfl, by simp only [eall]; rw [e1]; exact hp'⟩)
    (by
      rintro st ⟨g, rfl, hp⟩
      unfold impl_pieces.b0
      rw [drop_tab]
      have hlen : ((List.range (ed s.length)).map fun k => sdl (preP s s.length) (k + 1)).length = ed s.length := by simp
      simp only [hlen, dlt_nat, Nat.lt_irrefl, decide_false, cond_false]
      exact ⟨_, rfl, g, rfl, hp⟩)
  refine ⟨g, ?_, hp⟩
  rw [ho]
  simp only [Option.bind_some]
  obtain ⟨o1, o2⟩ := o
  simp only at hg
  subst hg
  show (impl_pool_distinct.f (lz s.length g)).bind _ = _
  rw [distinct_eq hp.le (by omega)]
  rfl
theorem touch_eq {s : List (List Int)} (h : Surf s) {i k : Nat} (hi : i < s.length) (hk : k < s.length) : ∃ b, spec_l07Touch.f (gt s (i : Int)) (gt s (k : Int)) = some (touchB s i k, b) := by
  have h2 := h.most
  have hm : ed s.length ≤ 18 := by unfold ed; omega
  have li := (row_entry (h.row i hi) (q := 0) (by omega)).2
  have lk := (row_entry (h.row k hk) (q := 0) (by omega)).2
  unfold spec_l07Touch.f
  obtain ⟨o, ho, b, hb⟩ := loop1_ex (f := spec_l07Touch.b1 (gt s (i : Int)) (gt s (k : Int))) (fun a st => ∃ b, st = ((List.range a).any (fun a => (List.range 3).any fun b => decide ((entry s i a).natAbs = (entry s k b).natAbs)), b, (a : Int))) (fun o => ∃ b, o = (touchB s i k, b, 3)) 3 (by omega) (false, false, 0) ⟨false, rfl⟩
    (by
      rintro a st ha ⟨b, rfl⟩
      unfold spec_l07Touch.b1
      have ha' : decide ((a : Int) < 3) = true := by simp; omega
      simp only [ha', cond_true]
      obtain ⟨o, ho, c, rfl⟩ := loop1_ex (f := spec_l07Touch.b0 a (gt s (i : Int)) (gt s (k : Int))) (fun b st => ∃ c, st = ((List.range a).any (fun a => (List.range 3).any fun b => decide ((entry s i a).natAbs = (entry s k b).natAbs)) || (List.range b).any (fun b => decide ((entry s i a).natAbs = (entry s k b).natAbs)), c, (b : Int)))
        (fun o => ∃ c, o = ((List.range (a + 1)).any (fun a => (List.range 3).any fun b => decide ((entry s i a).natAbs = (entry s k b).natAbs)), c, 3)) 3 (by omega) ((List.range a).any (fun a => (List.range 3).any fun b => decide ((entry s i a).natAbs = (entry s k b).natAbs)), b, 0) ⟨b, by simp⟩
        (by
          rintro b st hb ⟨c, rfl⟩
          unfold spec_l07Touch.b0 spec_l07Edge.f
          have hb' : decide ((b : Int) < 3) = true := by simp; omega
          have en1 : gt (gt s (i : Int)) (a : Int) = entry s i a := rfl
          have en2 : gt (gt s (k : Int)) (b : Int) = entry s k b := rfl
          simp only [hb', cond_true]
          rw [chk_in (by omega), Option.bind_some, chk_in (by omega), Option.bind_some, en1, en2, size_abs (m := ed s.length) (by omega) (row_entry (h.row i hi) ha).1, size_abs (m := ed s.length) (by omega) (row_entry (h.row k hk) hb).1, beq_nat, w64_succ (by omega)]
          have hr : (List.range (b + 1)).any (fun b => decide ((entry s i a).natAbs = (entry s k b).natAbs)) = ((List.range b).any (fun b => decide ((entry s i a).natAbs = (entry s k b).natAbs)) || decide ((entry s i a).natAbs = (entry s k b).natAbs)) := by
            rw [List.range_succ, List.any_append]; simp
          rw [hr]
          cases decide ((entry s i a).natAbs = (entry s k b).natAbs) with
          | false => exact ⟨_, rfl, c, by simp⟩
          | true =>
            cases c with
            | false => exact ⟨_, rfl, _, by simp; rfl⟩
            | true => exact ⟨_, rfl, true, by simp⟩)
        (by
          rintro st ⟨c, rfl⟩
          unfold spec_l07Touch.b0
          refine ⟨_, rfl, c, ?_⟩
          have hF : ∀ F : Nat → Bool, (List.range (a + 1)).any F = ((List.range a).any F || F a) := fun F => by rw [List.range_succ, List.any_append]; simp
          rw [hF]
          rfl)
      rw [ho]
      simp only [Option.bind_some]
      rw [w64_succ (by omega)]
      exact ⟨_, rfl, c, rfl⟩)
    (by
      rintro st ⟨b, rfl⟩
      unfold spec_l07Touch.b1
      exact ⟨_, rfl, b, rfl⟩)
  subst hb
  rw [ho]
  exact ⟨b, rfl⟩
theorem specPieces {s : List (List Int)} (h : Surf s) : ∃ f, spec_l07Pieces.f s = some (lz s.length f) ∧ Marks s.length f (tall s s.length) := by
  have h2 := h.most
  unfold spec_l07Pieces.f
  rw [numbers_eq _ (by omega), Option.bind_some]
  obtain ⟨o, ho, g, hg, hp⟩ := loop1_ex (f := spec_l07Pieces.b1 s) (fun i st => ∃ g, st = (lz s.length g, (i : Int)) ∧ Marks s.length g (tall s i)) (fun o => ∃ g, o.1 = lz s.length g ∧ Marks s.length g (tall s s.length)) s.length (by omega) (lz s.length id, 0) ⟨id, rfl, Marks.start _⟩
    (by
      rintro i st hi ⟨g, rfl, hp⟩
      unfold spec_l07Pieces.b1
      simp only [dlt_nat, hi, decide_true, cond_true]
      obtain ⟨o, ho, g', rfl, hp'⟩ := loop1_ex (f := spec_l07Pieces.b0 i s) (fun k st => ∃ g, st = (lz s.length g, (k : Int)) ∧ Marks s.length g (trow s i k (tall s i))) (fun o => ∃ g, o = (lz s.length g, (i : Int)) ∧ Marks s.length g (trow s i i (tall s i))) i (by omega) (lz s.length g, 0) ⟨g, rfl, hp⟩
        (by
          rintro k st hk ⟨g, rfl, hp⟩
          unfold spec_l07Pieces.b0
          simp only [dlt_nat, hk, decide_true, cond_true]
          rw [chk_in (by omega), chk_in (by omega)]
          obtain ⟨b, hb⟩ := touch_eq h hi (k := k) (by omega)
          rw [hb]
          simp only [Option.bind_some]
          rw [w64_succ (by omega)]
          cases ht : touchB s i k with
          | false => exact ⟨_, rfl, g, rfl, by simp only [trow]; rw [ht]; exact hp⟩
          | true =>
            obtain ⟨g', hg', hp'⟩ := hp.join (by omega) hi (k := k) (by omega)
            simp only [cond_true]
            rw [hg']
            exact ⟨_, rfl, g', rfl, by simp only [trow]; rw [ht]; exact hp'⟩)
        (by
          rintro st ⟨g, rfl, hp⟩
          unfold spec_l07Pieces.b0
          simp only [dlt_nat, Nat.lt_irrefl, decide_false, cond_false]
          exact ⟨_, rfl, g, rfl, hp⟩)
      rw [ho]
      simp only [Option.bind_some]
      rw [w64_succ (by omega)]
      exact ⟨_, rfl, g', rfl, hp'⟩)
    (by
      rintro st ⟨g, rfl, hp⟩
      unfold spec_l07Pieces.b1
      simp only [dlt_nat, Nat.lt_irrefl, decide_false, cond_false]
      exact ⟨_, rfl, g, rfl, hp⟩)
  refine ⟨g, ?_, hp⟩
  rw [ho]
  obtain ⟨o1, o2⟩ := o
  simp only at hg
  subst hg
  rfl
theorem piece_same {s : List (List Int)} (h : Surf s) : ∃ (v : Nat) (l : List Int), v ≤ 12 ∧ impl_pieces.f s = some (v : Int) ∧ spec_l07Pieces.f s = some l ∧ spec_l07Different.f l = some (v : Int) := by
  obtain ⟨g, h1, h2⟩ := implPieces h
  obtain ⟨f, h3, h4⟩ := specPieces h
  have h5 := h.most
  have h6 := roots_le s.length (isRoot g)
  refine ⟨_, _, by omega, h1, h3, ?_⟩
  rw [different_eq (by omega), count_same h2 h4 (pieces_conn h)]
end Go.Proofs.Ytnppkcemnjkboaa.G

/- Euler numbers of surfaces, told by both. -/
namespace Go.Proofs.Ytnppkcemnjkboaa.G
open Go Go.Sx Go.Proofs
theorem euler_same {s : List (List Int)} (h : Surf s) : ∃ e : Int, spec_l07Euler.f s = some e ∧ impl_eulerOf.f s = some e := by
  obtain ⟨v, hv, e1, e2⟩ := vert_same h
  have h2 := h.most
  have h3 := h.two
  have h4 := h.even
  have he := ed2 h.even
  unfold spec_l07Euler.f impl_eulerOf.f impl_edgesOf.f
  rw [e1, e2]
  simp only [Option.bind_some]
  rw [edges_eq (by omega), Int.tdiv_eq_ediv_of_nonneg (by omega), w64_in (x := (s.length : Int) / 2) (by omega), w64_in (x := (v : Int) - (ed s.length : Int)) (by omega), w64_in (x := (v : Int) - (s.length : Int) / 2) (by omega), w64_in (x := (v : Int) - (ed s.length : Int) + (s.length : Int)) (by omega)]
  exact ⟨_, rfl, by congr 1; omega⟩
end Go.Proofs.Ytnppkcemnjkboaa.G

/- Slices of numbers: the same as themselves; marked, and held. -/
namespace Go.Proofs.Ytnppkcemnjkboaa.G
open Go Go.Sx Go.Proofs
theorem eqS_refl (a : List Int) (h : a.length < 1000000000000) : laws_eqInt64S.f a a = some true := by
  unfold laws_eqInt64S.f
  have e : (((a.length : Nat) : Int) != (a.length : Int)) = false := by simp
  rw [e, cond_false]
  have hl := loop_upto (f := laws_eqInt64S.b0 a a) (fun i => (i : Int)) a.length (a.length : Int) (by omega) (fun i hi => by
    unfold laws_eqInt64S.b0
    simp only [dlt_nat, hi, decide_true, cond_true]
    rw [chk_in (by omega), chk_in (by omega), w64_succ (by omega)]
    simp) (by
    unfold laws_eqInt64S.b0
    simp)
  have hl' : loop (laws_eqInt64S.b0 a a) 0 = some (.brk (a.length : Int)) := hl
  rw [hl']; rfl
/-- So many numbers from k on. -/
def iota (k n : Nat) : List Int := (List.range n).map fun i => ((k + i : Nat) : Int)
theorem iota_length (k n : Nat) : (iota k n).length = n := by simp [iota]
theorem iota_gt {k n i : Nat} (h : i < n) : gt (iota k n) (i : Int) = ((k + i : Nat) : Int) := by simp [gt, iota, List.getD, h]
theorem markS (a : List Int) (k : Nat) (h : k + a.length < 1000000000000) : laws_markInt64S.f a k = some (((k + a.length : Nat) : Int), iota k a.length) := by
  unfold laws_markInt64S.f
  have hl := loop1_upto (f := laws_markInt64S.b0) (fun i => (iota k i ++ a.drop i, ((k + i : Nat) : Int), (i : Int))) a.length (iota k a.length, ((k + a.length : Nat) : Int), (a.length : Int)) (by omega) (fun i hi => by
    unfold laws_markInt64S.b0
    have e : (iota k i ++ a.drop i).length = a.length := by rw [List.length_append, iota_length, List.length_drop]; omega
    simp only [e, dlt_nat, hi, decide_true, cond_true]
    rw [chk_in (by omega), w64_succ (by omega), w64_succ (by omega), Int.toNat_natCast]
    have e2 : (iota k i ++ a.drop i).set i ((k + i : Nat) : Int) = iota k (i + 1) ++ a.drop (i + 1) := by
      rw [List.set_append_right _ _ (by rw [iota_length]; exact Nat.le_refl _), iota_length, Nat.sub_self]
      have h3 : a.drop i = a[i] :: a.drop (i + 1) := by rw [List.getElem_cons_drop]
      rw [h3, List.set_cons_zero]
      unfold iota
      rw [List.range_succ, List.map_append]
      simp
    rw [e2]
    rfl) (by
    unfold laws_markInt64S.b0
    simp [iota_length])
  have hl' : loop1 laws_markInt64S.b0 (a, (k : Int), 0) = some (iota k a.length, ((k + a.length : Nat) : Int), (a.length : Int)) := hl
  rw [hl']; rfl
theorem heldS (k n : Nat) (h : k + n < 1000000000000) : laws_heldInt64S.f (iota k n) k = some ((k + n : Nat) : Int) := by
  unfold laws_heldInt64S.f
  have hl := loop_upto (f := laws_heldInt64S.b0 (iota k n)) (fun i => (((k + i : Nat) : Int), (i : Int))) n (((k + n : Nat) : Int), (n : Int)) (by omega) (fun i hi => by
    unfold laws_heldInt64S.b0
    simp only [iota_length, dlt_nat, hi, decide_true, cond_true]
    rw [chk_in (by omega), iota_gt hi, w64_succ (by omega), w64_succ (by omega)]
    simp
    rfl) (by
    unfold laws_heldInt64S.b0
    simp [iota_length])
  have hl' : loop (laws_heldInt64S.b0 (iota k n)) ((k : Int), 0) = some (.brk (((k + n : Nat) : Int), (n : Int))) := hl
  rw [hl']; rfl
end Go.Proofs.Ytnppkcemnjkboaa.G

/- Rows of numbers: the same as themselves; marked, and held. -/
namespace Go.Proofs.Ytnppkcemnjkboaa.G
open Go Go.Sx Go.Proofs
/-- k and all the rows' lengths. -/
def tot (k : Nat) : List (List Int) → Nat
  | [] => k
  | r :: rs => tot (k + r.length) rs
def marks (k : Nat) : List (List Int) → List (List Int)
  | [] => []
  | r :: rs => iota k r.length :: marks (k + r.length) rs
theorem marks_length (k : Nat) (a : List (List Int)) : (marks k a).length = a.length := by
  induction a generalizing k with
  | nil => rfl
  | cons r rs ih => simp [marks, ih]
theorem tot_le (k : Nat) (a : List (List Int)) : k ≤ tot k a := by
  induction a generalizing k with
  | nil => exact Nat.le_refl _
  | cons r rs ih => have := ih (k + r.length); simp only [tot]; omega
theorem tot_append (k : Nat) (a b : List (List Int)) : tot k (a ++ b) = tot (tot k a) b := by
  induction a generalizing k with
  | nil => rfl
  | cons r rs ih => simp only [List.cons_append, tot]; exact ih _
theorem marks_append (k : Nat) (a b : List (List Int)) : marks k (a ++ b) = marks k a ++ marks (tot k a) b := by
  induction a generalizing k with
  | nil => rfl
  | cons r rs ih => simp only [List.cons_append, marks, tot, ih]
theorem take_one {α : Type} {a : List α} {i : Nat} (h : i < a.length) : a.take (i + 1) = a.take i ++ [a[i]] := by rw [List.take_add_one, List.getElem?_eq_getElem h]; rfl
theorem gt_get {α : Type} [Inhabited α] {a : List α} {i : Nat} (h : i < a.length) : gt a (i : Int) = a[i] := by simp [gt, List.getD, h]
theorem tot_part (k : Nat) {a : List (List Int)} {i : Nat} (h : i < a.length) : tot k (a.take (i + 1)) = tot k (a.take i) + a[i].length := by rw [take_one h, tot_append]; rfl
theorem tot_mono (k : Nat) (a : List (List Int)) (i : Nat) : tot k (a.take i) ≤ tot k a := by
  have h : tot k a = tot (tot k (a.take i)) (a.drop i) := by rw [← tot_append, List.take_append_drop]
  rw [h]; exact tot_le _ _
theorem eqSS_refl (a : List (List Int)) (h : a.length < 1000000000000) (hr : ∀ r ∈ a, r.length < 1000000000000) : laws_eqInt64SS.f a a = some true := by
  unfold laws_eqInt64SS.f
  have e : (((a.length : Nat) : Int) != (a.length : Int)) = false := by simp
  rw [e, cond_false]
  have hl := loop_upto (f := laws_eqInt64SS.b0 a a) (fun i => (i : Int)) a.length (a.length : Int) (by omega) (fun i hi => by
    unfold laws_eqInt64SS.b0
    simp only [dlt_nat, hi, decide_true, cond_true]
    rw [chk_in (by omega), chk_in (by omega), eqS_refl _ (hr _ (by rw [gt_get hi]; exact List.getElem_mem _)), w64_succ (by omega)]
    rfl) (by
    unfold laws_eqInt64SS.b0
    simp)
  have hl' : loop (laws_eqInt64SS.b0 a a) 0 = some (.brk (a.length : Int)) := hl
  rw [hl']; rfl
theorem markSS (a : List (List Int)) (k : Nat) (h : tot k a < 1000000000000) (ha : a.length < 1000000000000) : laws_markInt64SS.f a k = some ((tot k a : Int), marks k a) := by
  unfold laws_markInt64SS.f
  have hl := loop1_upto (f := laws_markInt64SS.b0) (fun i => (marks k (a.take i) ++ a.drop i, (tot k (a.take i) : Int), (i : Int))) a.length (marks k a, (tot k a : Int), (a.length : Int)) (by omega) (fun i hi => by
    unfold laws_markInt64SS.b0
    have hm : (marks k (a.take i)).length = i := by rw [marks_length, List.length_take]; omega
    have e : (marks k (a.take i) ++ a.drop i).length = a.length := by rw [List.length_append, hm, List.length_drop]; omega
    have h1 := tot_part k hi
    have h2 := tot_mono k a (i + 1)
    simp only [e, dlt_nat, hi, decide_true, cond_true]
    have hd : a.drop i = a[i] :: a.drop (i + 1) := by rw [List.getElem_cons_drop]
    have g : gt (marks k (a.take i) ++ a.drop i) (i : Int) = a[i] := by
      rw [gt_get (by rw [e]; exact hi), List.getElem_append_right (by omega)]
      simp [hm]
    rw [chk_in (by omega), g, markS _ _ (by omega)]
    simp only [Option.bind_some, Int.toNat_natCast, w64_succ (by omega : i < 4611686018427387904)]
    have e2 : (marks k (a.take i) ++ a.drop i).set i (iota (tot k (a.take i)) a[i].length) = marks k (a.take (i + 1)) ++ a.drop (i + 1) := by
      rw [List.set_append_right _ _ (by omega), hm, Nat.sub_self, hd, List.set_cons_zero, take_one hi, marks_append]
      simp [marks]
    rw [e2, h1]) (by
    unfold laws_markInt64SS.b0
    simp [marks_length])
  have hl' : loop1 laws_markInt64SS.b0 (a, (k : Int), 0) = some (marks k a, (tot k a : Int), (a.length : Int)) := hl
  rw [hl']; rfl
theorem marks_get (k : Nat) {a : List (List Int)} {i : Nat} (h : i < a.length) : gt (marks k a) (i : Int) = iota (tot k (a.take i)) a[i].length := by
  rw [gt_get (by rw [marks_length]; exact h)]
  have h1 : a = a.take i ++ a[i] :: a.drop (i + 1) := by rw [List.getElem_cons_drop, List.take_append_drop]
  have h2 : marks k a = marks k (a.take i) ++ (iota (tot k (a.take i)) a[i].length :: marks (tot k (a.take i) + a[i].length) (a.drop (i + 1))) := by
    conv => lhs; rw [h1]
    rw [marks_append]; rfl
  have hm : (marks k (a.take i)).length = i := by rw [marks_length, List.length_take]; omega
  have h3 : (marks k a)[i]? = some (iota (tot k (a.take i)) a[i].length) := by
    rw [h2, List.getElem?_append_right (by omega), hm, Nat.sub_self]; rfl
  rw [List.getElem?_eq_getElem (by rw [marks_length]; exact h)] at h3
  exact Option.some.inj h3
theorem heldSS (a : List (List Int)) (k : Nat) (h : tot k a < 1000000000000) (ha : a.length < 1000000000000) : laws_heldInt64SS.f (marks k a) k = some (tot k a : Int) := by
  unfold laws_heldInt64SS.f
  have hl := loop_upto (f := laws_heldInt64SS.b0 (marks k a)) (fun i => ((tot k (a.take i) : Int), (i : Int))) a.length ((tot k a : Int), (a.length : Int)) (by omega) (fun i hi => by
    unfold laws_heldInt64SS.b0
    have h1 := tot_part k hi
    have h2 := tot_mono k a (i + 1)
    simp only [marks_length, dlt_nat, hi, decide_true, cond_true]
    rw [chk_in (by omega), marks_get k hi, heldS _ _ (by omega), Option.bind_some, w64_succ (by omega), ← h1]
    have hd : decide ((tot k (a.take (i + 1)) : Int) < 0) = false := decide_eq_false (by omega)
    rw [hd]; rfl) (by
    unfold laws_heldInt64SS.b0
    simp [marks_length])
  have hl' : loop (laws_heldInt64SS.b0 (marks k a)) ((k : Int), 0) = some (.brk ((tot k a : Int), (a.length : Int))) := hl
  rw [hl']; rfl
theorem tot_eq (k : Nat) (a : List (List Int)) : tot k a = k + (a.map List.length).sum := by
  induction a generalizing k with
  | nil => rfl
  | cons r rs ih => simp only [tot, ih, List.map_cons, List.sum_cons]; omega
theorem sum_le_mul (c : Nat) : ∀ (a : List (List Int)), (∀ r ∈ a, r.length ≤ c) → (a.map List.length).sum ≤ c * a.length
  | [], _ => by simp
  | r :: rs, h => by
    have h1 := sum_le_mul c rs fun x hx => h x (List.mem_cons_of_mem _ hx)
    have h2 := h r (by simp)
    simp only [List.map_cons, List.sum_cons, List.length_cons, Nat.mul_add]; omega
end Go.Proofs.Ytnppkcemnjkboaa.G

/- The law of GenusOf tells true. -/
namespace Go.Proofs.Ytnppkcemnjkboaa.G
open Go Go.Sx Go.Proofs
theorem go_same {s : List (List Int)} (h1 : s.length ≤ 1048576) : ∃ r, spec_GenusOf.f s = some r ∧ impl_GenusOf.f s = some r := by
  unfold spec_GenusOf.f impl_GenusOf.f
  rw [specSurf h1, implSurf h1]
  cases hb : surfB s with
  | false => exact ⟨_, rfl, rfl⟩
  | true =>
    have h := surf_of hb
    obtain ⟨v, l, _, e1, e2, e3⟩ := piece_same h
    obtain ⟨u, e4, e5⟩ := euler_same h
    simp only [Option.bind_some, Bool.not_true, cond_false]
    rw [specOr h, implOr h]
    simp only [Option.bind_some]
    rw [e1, e2]
    simp only [Option.bind_some]
    rw [e3]
    simp only [Option.bind_some]
    rw [e4, e5]
    cases orB s with
    | false => exact ⟨_, rfl, rfl⟩
    | true =>
      simp only [Bool.not_true, cond_false, Option.bind_some]
      cases decide ((v : Int) > 1) <;> exact ⟨_, rfl, rfl⟩
theorem plain_FnExactGenusOf (s : List (List Int)) (_w : ∀ r ∈ s, ∀ x ∈ r, IntKind.i64.has x) (z : ∀ r ∈ s, r.length ≤ 9223372036854775807) (y : s.length ≤ 9223372036854775807) : laws_FnExactGenusOf.f s = some true := by
  unfold laws_FnExactGenusOf.f
  obtain ⟨q, hq, h⟩ := szSS s 1048576 (by omega) y z
  have hq' : laws_szInt64SS.f s 1048576 = some q := hq
  rw [hq', Option.bind_some]
  rcases h with h | ⟨h0, h1, h2, _⟩
  · rw [decide_eq_true h]; rfl
  · rw [decide_eq_false (by omega), cond_false, toSS s h1 h2]
    obtain ⟨r, e1, e2⟩ := go_same h1
    simp only [Option.bind_some, e1, e2, eqSS_refl s (by omega) (fun r hr => by have := h2 r hr; omega)]
    simp
end Go.Proofs.Ytnppkcemnjkboaa.G

/- Arg: a law's arguments, as they come in, in the calculus' own words. -/
namespace Go.Sx
open Go.RowKit

theorem okWide_agg {P : Program} {W : World} {r : Reach} {base : Nat} {t : TypeId} {v : Value} {ts : List TypeId} (ht : (match P.underlying t with | some (.struct _) | some (.array _ _) => true | _ => false) = true) (hts : P.cellTypes P.depth t = some ts) (h : Value.okWide P W r base t v) :
    ∃ cs, v = .agg cs ∧ cs.size = P.cellsOf t ∧ ∀ i u, cs[i]? = some u → ∃ k, ts[i % ts.length]? = some k ∧ Cell.okWide P W r base k u := by
  unfold Value.okWide at h
  split at h
  · obtain ⟨cs, h1, h2, ts', h3, _, h4⟩ := h
    rw [hts] at h3; obtain rfl := Option.some.inj h3
    exact ⟨cs, h1, h2, h4⟩
  · obtain ⟨cs, h1, h2, ts', h3, _, h4⟩ := h
    rw [hts] at h3; obtain rfl := Option.some.inj h3
    exact ⟨cs, h1, h2, h4⟩
  · rename_i h1 h2
    exfalso
    split at ht
    · exact h1 _ ‹_›
    · exact h2 _ _ ‹_›
    · cases ht

theorem okWide_int {P : Program} {W : World} {r : Reach} {base : Nat} {t : TypeId} {k : IntKind} {v : Value} (ht : P.underlying t = some (.int k)) (h : Cell.okWide P W r base t v) : ∃ n, v = .int k n ∧ k.has n := by
  unfold Cell.okWide at h
  rw [ht] at h
  unfold Cell.ok at h
  rw [ht] at h
  cases v <;> simp at h
  rename_i k' n
  obtain ⟨rfl, h2⟩ := h
  exact ⟨n, rfl, h2⟩

theorem u8block (cs : Array Value) (o m : Nat) (h : ∀ i, o ≤ i → i < o + m → ∃ n, cs[i]? = some (.int .u8 n) ∧ IntKind.u8.has n) : ∃ t : Nat → UInt8, (cs.toList.drop o).take m = flat [.arr m (enf u8v t)] := by
  refine ⟨fun k => match cs[o + k]? with | some (.int _ n) => UInt8.ofInt n | _ => 0, ?_⟩
  apply List.ext_getElem?
  intro i
  simp only [flat, Seg.cells, List.append_nil, List.getElem?_take, List.getElem?_drop, List.getElem?_map]
  by_cases hi : i < m
  · obtain ⟨n, hn, hw⟩ := h (o + i) (by omega) (by omega)
    have hn' : cs.toList[o + i]? = some (.int .u8 n) := by simpa using hn
    rw [if_pos hi, List.getElem?_range hi, hn']
    simp only [Option.map_some, enf, hn]
    congr 1
    rw [← conv_i64_u8]
    congr 1
    have hw' : 0 ≤ n ∧ n ≤ 255 := by
      simp only [IntKind.has, IntKind.min, IntKind.max, IntKind.signed, IntKind.bits] at hw
      simpa using hw
    rw [IntKind.wrap_u8]; omega
  · rw [if_neg hi]
    simp [hi]

theorem okWideV_int {P : Program} {W : World} {r : Reach} {base : Nat} {t : TypeId} {k : IntKind} {v : Value} (ht : P.underlying t = some (.int k)) (h : Value.okWide P W r base t v) : ∃ n, v = .int k n ∧ k.has n := by
  unfold Value.okWide at h
  rw [ht] at h
  exact okWide_int ht h
theorem okWideV_string {P : Program} {W : World} {r : Reach} {base : Nat} {t : TypeId} {v : Value} (ht : P.underlying t = some .string) (h : Value.okWide P W r base t v) : ∃ l : Str, v = strv l := by
  unfold Value.okWide at h
  rw [ht] at h
  simp only at h
  unfold Cell.okWide at h
  rw [ht] at h
  unfold Cell.ok at h
  rw [ht] at h
  cases v <;> simp at h
  rename_i s
  exact ⟨s.data.toList, by simp [strv]⟩
theorem i64cell (cs : Array Value) (o : Nat) (ho : o < cs.size) (h : ∀ u, cs[o]? = some u → ∃ n, u = .int .i64 n ∧ IntKind.i64.has n) : ∃ x, (cs.toList.drop o).take 1 = flat [.one (.int .i64 x)] ∧ IntKind.i64.has x := by
  obtain ⟨n, hn, hw⟩ := h cs[o] (by simp [ho])
  refine ⟨n, ?_, hw⟩
  have hl : o < cs.toList.length := by simpa using ho
  rw [List.drop_eq_getElem_cons hl, List.take_succ_cons, List.take_zero]
  simp [flat, Seg.cells, hn]
def pieces (l : List Value) : Nat → List Nat → List Value
  | _, [] => []
  | o, m :: r => (l.drop o).take m ++ pieces l (o + m) r
theorem pieces_eq (l : List Value) : ∀ (ns : List Nat) (o : Nat), l.length = o + ns.sum → pieces l o ns = l.drop o
  | [], o, h => by
    simp only [List.sum_nil, Nat.add_zero] at h
    simp [pieces, h]
  | m :: r, o, h => by
    simp only [List.sum_cons] at h
    rw [pieces, pieces_eq l r (o + m) (by omega), ← List.drop_drop, List.take_append_drop]

theorem encs_ints (ys : List Int) : encs Ei ys = ys.map (Value.int .i64) := by
  induction ys with
  | nil => rfl
  | cons y ys ih => simp only [encs, List.flatMap_cons, List.map_cons] at ih ⊢; rw [ih]; rfl
theorem okWideV_slice {P : Program} {W : World} {r : Reach} {base : Nat} {t e : TypeId} {v : Value} (ht : P.underlying t = some (.slice e)) (h : Value.okWide P W r base t v) : ∃ a n c, v = .slice a n c := by
  unfold Value.okWide at h
  rw [ht] at h
  simp only at h
  unfold Cell.okWide at h
  rw [ht] at h
  simp only at h
  unfold Cell.ok at h
  rw [ht] at h
  cases v <;> simp at h
  exact ⟨_, _, _, rfl⟩
/-- A slice of whole numbers that comes in. -/
theorem okWideV_ints {H : Type} {r : Reach} {base : Nat} {enc : TypeId × Value → H} {P : Program} {W : World} {sp : Nat → Bool} {held : Bool} {t e : TypeId} {v : Value} {d : DataW H} {p : List MemPlace} (ht : P.underlying t = some (.slice e)) (he : P.underlying e = some (.int .i64)) (hc : P.cellsOf e = 1)
    (hv : Value.okWide P W r base t v) (h : DataW.Trod enc P W 0 sp held t v d p) : ∃ (s : SV) (ys : List Int) (el spare : List (DataW H)), v = s.v ∧ Reads Ei (hp W) s ys ∧ (∀ x ∈ ys, IntKind.i64.has x) ∧ ((d = .nil ∧ ys = []) ∨ (d = .slice el spare ∧ ys.length = el.length + 0)) := by
  obtain ⟨m, hm⟩ := h
  obtain ⟨a1, n1, c1, rfl⟩ := okWideV_slice ht hv
  have hcl : (Value.slice a1 n1 c1).cells.toList = [Value.slice a1 n1 c1] := rfl
  rw [hcl] at hm
  rcases ChangeShapes.open_ints ht he hc hm with ⟨h1, h2⟩ | ⟨a, len, cap, zs, h1, _, h3, h4, h5, h6, h7, h8⟩
  · injection h1 with h1
    injection h2 with h2
    exact ⟨⟨none, 0, 0⟩, [], [], [], h1, ⟨rfl, Nat.le_refl _, by simp [maxLen], .inl rfl⟩, by simp, .inl ⟨h2, rfl⟩⟩
  · injection h1 with h1
    injection h6 with h6
    have hlen : len ≤ zs.length := by rw [h5]; split <;> omega
    refine ⟨⟨some a, len, cap⟩, zs.take len, _, _, h1, ⟨by simp; omega, h3, h4, ?_⟩, ?_, .inr ⟨h6, by simp [ChangeShapes.lits]⟩⟩
    · by_cases hl : len = 0
      · left; subst hl; simp
      · right
        have h0 := h7 0 (by omega)
        obtain ⟨b, o, sp'⟩ := a
        have e0 : (⟨b, o, sp'⟩ : Addr).add 0 = ⟨b, o, sp'⟩ := by simp [Addr.add]
        rw [e0] at h0
        unfold World.cell? at h0
        split at h0
        · rename_i cs T fr hb
          have hsp : sp' = none := by
            cases sp' with
            | none => rfl
            | some x => simp at h0
          subst hsp
          refine ⟨b, o, cs, T, fr, rfl, hb, ?_⟩
          intro j u hu
          rw [encs_ints, List.getElem?_map, List.getElem?_take] at hu
          split at hu
          · rename_i hj
            have hz := h7 j (by omega)
            rw [add_none, cell_at hb] at hz
            rw [hz, ← hu]
            have : zs[j]? = some (zs[j]'(by omega)) := List.getElem?_eq_getElem _
            simp [List.getD, this]
          · simp at hu
        · cases h0
    · intro x hx
      have := h8 x (List.mem_of_mem_take hx)
      simp only [Lit.wf, Bool.and_eq_true, decide_eq_true_eq] at this
      exact this

theorem reads_of {β : Type} {E : FE β} {W : World} {a : Addr} {n cap : Nat} {ys : List β} (hn : n = ys.length) (hpos : 0 < E.sz) (hc : ∀ (j : Nat) (u : Value), (encs E ys)[j]? = some u → W.cell? (a.add j) = some u) (h1 : n ≤ cap) (h2 : cap ≤ maxLen) : Reads E (hp W) ⟨some a, n, cap⟩ ys := by
  subst hn
  refine ⟨rfl, h1, h2, ?_⟩
  cases ys with
  | nil => exact .inl rfl
  | cons y ys =>
    right
    have hl : 0 < (encs E (y :: ys)).length := by rw [encs_length, List.length_cons, Nat.add_mul]; omega
    have h0 := hc 0 _ (List.getElem?_eq_getElem hl)
    obtain ⟨b, o, sp'⟩ := a
    have e0 : (⟨b, o, sp'⟩ : Addr).add 0 = ⟨b, o, sp'⟩ := by simp [Addr.add]
    rw [e0] at h0
    unfold World.cell? at h0
    split at h0
    · rename_i cs T fr hb
      have hsp : sp' = none := by
        cases sp' with
        | none => rfl
        | some x => simp at h0
      subst hsp
      refine ⟨b, o, cs, T, fr, rfl, hb, ?_⟩
      intro j u hu
      have := hc j u hu
      rwa [add_none, cell_at hb] at this
    · cases h0
theorem encs_svs (ys : List SV) : encs Ev ys = ys.map SV.v := by
  induction ys with
  | nil => rfl
  | cons y ys ih => simp only [encs, List.flatMap_cons, List.map_cons] at ih ⊢; rw [ih]; rfl
theorem Reads.len_le {β : Type} {E : FE β} {I : Hp} {s : SV} {ys : List β} (h : Reads E I s ys) : ys.length ≤ 9223372036854775807 := by
  obtain ⟨h0, h1, h2, _⟩ := h
  have : maxLen = 9223372036854775807 := rfl
  omega
/-- A slice of slices of whole numbers that comes in. -/
theorem okWideV_introws {H : Type} {r : Reach} {base : Nat} {enc : TypeId × Value → H} {P : Program} {W : World} {held : Bool} {t e q : TypeId} {v : Value} {d : DataW H} {p : List MemPlace} (ht : P.underlying t = some (.slice e)) (he : P.underlying e = some (.slice q)) (hq : P.underlying q = some (.int .i64)) (ce : P.cellsOf e = 1) (cq : P.cellsOf q = 1)
    (hv : Value.okWide P W r base t v) (h : DataW.Trod enc P W 0 (fun _ => true) held t v d p) : ∃ (s : SV) (ss : List SV) (yss : List (List Int)), v = s.v ∧ ReadsM Ei (hp W) s ss yss ∧ (∀ r ∈ yss, ∀ x ∈ r, IntKind.i64.has x) ∧ (∀ r ∈ yss, r.length ≤ 9223372036854775807) ∧ yss.length ≤ 9223372036854775807 := by
  obtain ⟨m, hm⟩ := h
  obtain ⟨a1, n1, c1, rfl⟩ := okWideV_slice ht hv
  have hcl : (Value.slice a1 n1 c1).cells.toList = [Value.slice a1 n1 c1] := rfl
  rw [hcl] at hm
  rcases Deep.open_int_rows ht he hq ce cq hm with ⟨h1, h2⟩ | ⟨a, len, cap, A, L, C, Z, h1, _, h3, h4, _, h5⟩
  · injection h1 with h1
    exact ⟨⟨none, 0, 0⟩, [], [], h1, ⟨⟨rfl, Nat.le_refl _, by simp [maxLen], .inl rfl⟩, rfl, by simp⟩, by simp, by simp, by simp⟩
  · injection h1 with h1
    have key : ∀ r, r < len → Reads Ei (hp W) ⟨A r, L r, C r⟩ ((Z r).take (L r)) := by
      intro r hr
      obtain ⟨g1, g2, g3, g4, g5, g6, g7⟩ := h5 r (by omega)
      cases hA : A r with
      | none =>
        have := g6 hA
        have hL : L r = 0 := by omega
        rw [hL]
        exact ⟨rfl, Nat.zero_le _, g3, .inl rfl⟩
      | some a' =>
        refine reads_of (by simp; omega) (by decide) ?_ g2 g3
        intro j u hu
        rw [encs_ints, List.getElem?_map, List.getElem?_take] at hu
        split at hu
        · rename_i hj
          have hz := (g7 a' hA).2 j (by omega)
          rw [hz, ← hu]
          have : (Z r)[j]? = some ((Z r)[j]'(by omega)) := List.getElem?_eq_getElem _
          simp [List.getD, this]
        · simp at hu
    have hM : ReadsM Ei (hp W) ⟨some a, len, cap⟩ ((List.range len).map fun r => ⟨A r, L r, C r⟩) ((List.range len).map fun r => (Z r).take (L r)) := by
      refine ⟨reads_of (by simp) (by decide) ?_ h3 h4, by simp, ?_⟩
      · intro j u hu
        rw [encs_svs, List.map_map, List.getElem?_map] at hu
        by_cases hj : j < len
        · rw [List.getElem?_range hj] at hu
          have := (h5 j (by omega)).1
          rw [this, ← hu]; rfl
        · simp [hj] at hu
      · intro j u ys h1 h2
        by_cases hj : j < len
        · rw [List.getElem?_map, List.getElem?_range hj] at h1 h2
          obtain rfl := Option.some.inj h1
          obtain rfl := Option.some.inj h2
          exact key j hj
        · simp [hj] at h1
    refine ⟨⟨some a, len, cap⟩, _, _, h1, hM, ?_, ?_, hM.2.1 ▸ hM.1.len_le⟩
    · intro r hr x hx
      obtain ⟨i, hi, rfl⟩ := List.mem_map.1 hr
      have := (h5 i (by have := List.mem_range.1 hi; omega)).2.2.2.2.1 x (List.mem_of_mem_take hx)
      simp only [Lit.wf, Bool.and_eq_true, decide_eq_true_eq] at this
      exact this
    · intro r hr
      obtain ⟨i, hi, rfl⟩ := List.mem_map.1 hr
      exact (key i (List.mem_range.1 hi)).len_le

theorem mapM_get {α β : Type} {f : α → Option β} : ∀ {l : List α} {xs : List β}, l.mapM f = some xs → ∀ {i : Nat} {a : α}, l[i]? = some a → ∃ y, f a = some y
  | [], _, _, _, _, h => by simp at h
  | a :: l, xs, hm, i, b, h => by
    rw [List.mapM_cons] at hm
    obtain ⟨y, hy, h2⟩ := Option.bind_eq_some_iff.1 hm
    obtain ⟨ys, hys, _⟩ := Option.bind_eq_some_iff.1 h2
    cases i with
    | zero => simp at h; subst h; exact ⟨y, hy⟩
    | succ i => exact mapM_get hys (by simpa using h)
/-- A slice of whole numbers that is a field of a struct that comes in. -/
theorem structInts {H : Type} {enc : TypeId × Value → H} {P : Program} {W : World} {sp : Nat → Bool} {held : Bool} {t e : TypeId} {fs : Array Field} {f : Field} {cs : Array Value} {d : DataW H} {p : List MemPlace} (ht : P.underlying t = some (.struct fs)) (h : DataW.Trod enc P W 0 sp held t (.agg cs) d p) (i : Nat) (hf : fs[i]? = some f)
    (hu : P.underlying f.type = some (.slice e)) (he : P.underlying e = some (.int .i64)) (hc : P.cellsOf e = 1) (h1 : P.cellsOf f.type = 1) {o : Nat} (ho : f.offset = o) :
    ∃ (s : SV) (ys : List Int), (cs.toList.drop o).take 1 = flat [.one (SV.v s)] ∧ Reads Ei (hp W) s ys ∧ (∀ x ∈ ys, IntKind.i64.has x) := by
  obtain ⟨m, hm⟩ := h
  have hcl : (Value.agg cs).cells.toList = cs.toList := rfl
  rw [hcl] at hm
  cases m with
  | zero => simp [DataW.trod] at hm
  | succ m =>
    unfold DataW.trod at hm
    rw [ht] at hm
    simp only at hm
    split at hm
    · obtain ⟨xs, hxs, _⟩ := Option.map_eq_some_iff.1 hm
      obtain ⟨y, hy⟩ := mapM_get hxs (i := i) (a := f) (by simpa using hf)
      rw [h1, ho] at hy
      rcases ChangeShapes.open_ints hu he hc hy with ⟨g1, g2⟩ | ⟨a, len, cap, zs, g1, _, g3, g4, g5, g6, g7, g8⟩
      · exact ⟨⟨none, 0, 0⟩, [], by rw [g1]; rfl, ⟨rfl, Nat.le_refl _, by simp [maxLen], .inl rfl⟩, by simp⟩
      · have hlen : len ≤ zs.length := by rw [g5]; split <;> omega
        refine ⟨⟨some a, len, cap⟩, zs.take len, by rw [g1]; rfl, reads_of (by simp; omega) (by decide) ?_ g3 g4, ?_⟩
        · intro j u hu'
          rw [encs_ints, List.getElem?_map, List.getElem?_take] at hu'
          split at hu'
          · rename_i hj
            have hz := g7 j (by omega)
            rw [hz, ← hu']
            have : zs[j]? = some (zs[j]'(by omega)) := List.getElem?_eq_getElem _
            simp [List.getD, this]
          · simp at hu'
        · intro x hx
          have := g8 x (List.mem_of_mem_take hx)
          simp only [Lit.wf, Bool.and_eq_true, decide_eq_true_eq] at this
          exact this
    · cases hm
end Go.Sx
