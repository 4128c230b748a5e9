/- Plain laws. -/
import Derived.Test.YtiiljfpbcanphaaMFnSurfaces10
/- Pl: plain laws of the loops, and of whole numbers. -/
namespace Go.Sx

theorem loopN_mono {σ ρ : Type} {f : σ → Option (LR σ ρ)} : ∀ {k s o}, loopN f k s = some o → ∀ {k'}, k ≤ k' → loopN f k' s = some o
  | 0, _, _, h, _, _ => by cases h
  | k + 1, s, o, h, k', hk => by
    obtain ⟨j, rfl⟩ : ∃ j, k' = j + 1 := ⟨k' - 1, by omega⟩
    simp only [loopN] at h ⊢
    split at h
    · cases h
    · exact loopN_mono h (by omega)
    · exact h
    · exact h

theorem loop_run {σ ρ : Type} {f : σ → Option (LR σ ρ)} (Inv : σ → Prop) (m : σ → Nat) (Q : LO σ ρ → Prop)
    (h : ∀ s, Inv s → (∃ s', f s = some (.next s') ∧ Inv s' ∧ m s' < m s) ∨ (∃ s', f s = some (.brk s') ∧ Q (.brk s')) ∨ (∃ r, f s = some (.ret r) ∧ Q (.ret r)))
    (s : σ) (hs : Inv s) (hm : m s < 4611686018427387904) : ∃ o, loop f s = some o ∧ Q o := by
  have key : ∀ k s, Inv s → m s < k → ∃ o, loopN f k s = some o ∧ Q o := by
    intro k
    induction k with
    | zero => intro s _ h; omega
    | succ k ih =>
      intro s hs hm
      rcases h s hs with ⟨s', h1, h2, h3⟩ | ⟨s', h1, h2⟩ | ⟨r, h1, h2⟩
      · obtain ⟨o, ho, hq⟩ := ih s' h2 (by omega)
        exact ⟨o, by simp only [loopN, h1]; exact ho, hq⟩
      · exact ⟨_, by simp only [loopN, h1], h2⟩
      · exact ⟨_, by simp only [loopN, h1], h2⟩
  obtain ⟨o, ho, hq⟩ := key (m s + 1) s hs (by omega)
  exact ⟨o, loopN_mono ho (by unfold FUEL; omega), hq⟩

theorem loop1_of {σ : Type} {f : σ → Option (LB σ)} {s s' : σ} (h : loop (ρ := Empty) (fun s => (f s).map LB.lr) s = some (.brk s')) : loop1 f s = some s' := by
  unfold loop1; rw [h]

theorem loop1_run {σ : Type} {f : σ → Option (LB σ)} (Inv : σ → Prop) (m : σ → Nat) (Q : σ → Prop)
    (h : ∀ s, Inv s → (∃ s', f s = some (.next s') ∧ Inv s' ∧ m s' < m s) ∨ (∃ s', f s = some (.brk s') ∧ Q s'))
    (s : σ) (hs : Inv s) (hm : m s < 4611686018427387904) : ∃ o, loop1 f s = some o ∧ Q o := by
  obtain ⟨o, ho, hq⟩ := loop_run (ρ := Empty) (f := fun s => (f s).map LB.lr) Inv m (fun o => match o with | .brk s => Q s | .ret r => nomatch r) (by
    intro s hs
    rcases h s hs with ⟨s', h1, h2, h3⟩ | ⟨s', h1, h2⟩
    · exact .inl ⟨s', by rw [h1]; rfl, h2, h3⟩
    · exact .inr (.inl ⟨s', by rw [h1]; rfl, h2⟩)) s hs hm
  cases o with
  | brk s' => exact ⟨s', loop1_of ho, hq⟩
  | ret r => exact nomatch r

theorem loop_of {σ ρ : Type} {f : σ → Option (LR σ ρ)} {s : σ} {o : LO σ ρ} {k : Nat} (h : loopN f k s = some o) (hk : k ≤ 4611686018427387904) : loop f s = some o :=
  loopN_mono h (by unfold FUEL; omega)

/-- A loop that counts up to n, and leaves by its end. -/
theorem loop_upto {σ ρ : Type} {f : σ → Option (LR σ ρ)} (S : Nat → σ) (n : Nat) (b : σ) (hn : n < 4611686018427387904) (step : ∀ i, i < n → f (S i) = some (.next (S (i + 1)))) (fin : f (S n) = some (.brk b)) : loop f (S 0) = some (.brk b) := by
  have key : ∀ d i, i + d = n → loopN f (d + 1) (S i) = some (.brk b) := by
    intro d
    induction d with
    | zero => intro i hi; obtain rfl : i = n := by omega
              simp only [loopN, fin]
    | succ d ih => intro i hi; rw [loopN, step i (by omega)]; exact ih (i + 1) (by omega)
  exact loop_of (key n 0 (by omega)) (by omega)
theorem loop1_upto {σ : Type} {f : σ → Option (LB σ)} (S : Nat → σ) (n : Nat) (b : σ) (hn : n < 4611686018427387904) (step : ∀ i, i < n → f (S i) = some (.next (S (i + 1)))) (fin : f (S n) = some (.brk b)) : loop1 f (S 0) = some b :=
  loop1_of (loop_upto (ρ := Empty) (f := fun s => (f s).map LB.lr) S n b hn (fun i hi => by rw [step i hi]; rfl) (by rw [fin]; rfl))

/-- A loop that counts up to n and looks for something. -/
theorem loop_find {σ ρ : Type} {f : σ → Option (LR σ ρ)} (S : Nat → σ) (n : Nat) (bad : Nat → Bool) (r : Nat → ρ) (b : σ) (hn : n < 4611686018427387904)
    (step : ∀ i, i < n → f (S i) = some (bif bad i then .ret (r i) else .next (S (i + 1)))) (fin : f (S n) = some (.brk b)) :
    loop f (S 0) = some (match (List.range n).find? bad with | some i => .ret (r i) | none => .brk b) := by
  have key : ∀ d i, i + d = n → loopN f (d + 1) (S i) = some (match (List.range' i d).find? bad with | some i => .ret (r i) | none => .brk b) := by
    intro d
    induction d with
    | zero => intro i hi; obtain rfl : i = n := by omega
              simp only [loopN, fin]; rfl
    | succ d ih =>
      intro i hi
      rw [loopN, step i (by omega), List.range'_succ, List.find?_cons]
      cases hb : bad i with
      | true => rfl
      | false => exact ih (i + 1) (by omega)
  rw [List.range_eq_range']
  exact loop_of (key n 0 (by omega)) (by omega)
theorem loop_any {σ ρ : Type} {f : σ → Option (LR σ ρ)} (S : Nat → σ) (n : Nat) (bad : Nat → Bool) (r : ρ) (b : σ) (hn : n < 4611686018427387904)
    (step : ∀ i, i < n → f (S i) = some (bif bad i then .ret r else .next (S (i + 1)))) (fin : f (S n) = some (.brk b)) :
    loop f (S 0) = some (bif (List.range n).any bad then .ret r else .brk b) := by
  rw [loop_find S n bad (fun _ => r) b hn step fin]
  cases hf : (List.range n).find? bad with
  | none =>
    have : (List.range n).any bad = false := by
      rw [List.any_eq_false]; intro x hx; have := List.find?_eq_none.1 hf x hx; simpa using this
    rw [this]; rfl
  | some i =>
    have : (List.range n).any bad = true := List.any_eq_true.2 ⟨i, List.mem_of_find?_eq_some hf, List.find?_some hf⟩
    rw [this]; rfl

theorem w64_in {x : Int} (h : -9223372036854775808 ≤ x ∧ x ≤ 9223372036854775807) : w64 x = x := IntWalk.i64_in x h
theorem w64_succ {i : Nat} (h : i < 4611686018427387904) : w64 ((i : Int) + 1) = ((i + 1 : Nat) : Int) := by rw [w64_in (by omega)]; omega
theorem chk_in {α : Type} {i : Int} {n : Nat} {k : Option α} (h : 0 ≤ i ∧ i < n) : chk i n k = k := if_pos h
theorem nz_in {α : Type} {b : Int} {k : Option α} (h : b ≠ 0) : nz b k = k := if_neg h
theorem small_in {α : Type} {n : Nat} {k : Option α} (h : n ≤ 1099511627776) : small n k = k := if_pos h
theorem dlt_nat (i n : Nat) : decide ((i : Int) < (n : Int)) = decide (i < n) := by simp
theorem beq_nat (a b : Nat) : ((a : Int) == (b : Int)) = decide (a = b) := by rw [Bool.eq_iff_iff]; simp; omega
theorem bne_nat (a b : Nat) : ((a : Int) != (b : Int)) = !decide (a = b) := by rw [bne, beq_nat]
theorem any_congr {n : Nat} {p q : Nat → Bool} (h : ∀ i, i < n → p i = q i) : (List.range n).any p = (List.range n).any q := by
  rw [Bool.eq_iff_iff]
  simp only [List.any_eq_true, List.mem_range]
  constructor
  · rintro ⟨i, hi, hp⟩; exact ⟨i, hi, by rw [← h i hi]; exact hp⟩
  · rintro ⟨i, hi, hp⟩; exact ⟨i, hi, by rw [h i hi]; exact hp⟩
end Go.Sx

/- Slices of numbers that come in: how large they are, and their copies. -/
namespace Go.Proofs.Ytiiljfpbcanphaa.G
open Go Go.Sx Go.Proofs
end Go.Proofs.Ytiiljfpbcanphaa.G

/- Rows of numbers that come in: how large they are, and their copies. -/
namespace Go.Proofs.Ytiiljfpbcanphaa.G
open Go Go.Sx Go.Proofs
theorem gt_at {α : Type} [Inhabited α] {a : List α} {i : Nat} (h : i < a.length) : gt a (i : Int) = a[i] := by simp [gt, List.getD, h]
end Go.Proofs.Ytiiljfpbcanphaa.G

/- What a surface is, told by both. -/
namespace Go.Proofs.Ytiiljfpbcanphaa.G
open Go Go.Sx Go.Proofs
theorem any_at {α : Type} [Inhabited α] (a : List α) (p : α → Bool) : (List.range a.length).any (fun (i : Nat) => p (gt a (i : Int))) = a.any p := by
  rw [Bool.eq_iff_iff, List.any_eq_true, List.any_eq_true]
  constructor
  · rintro ⟨i, hi, h⟩
    have hi' := List.mem_range.1 hi
    exact ⟨a[i], List.getElem_mem _, by rwa [gt_at hi'] at h⟩
  · rintro ⟨x, hx, h⟩
    obtain ⟨i, hi, rfl⟩ := List.mem_iff_getElem.1 hx
    exact ⟨i, List.mem_range.2 hi, by rw [gt_at hi]; exact h⟩
theorem containsInts (a : List Int) (h : a.length < 1000000) (f : Int → Option Bool) (p : Int → Bool) (hf : ∀ x ∈ a, f x = some (p x)) : slices_ContainsFunc_int64_int64.f a f = some (a.any p) := by
  unfold slices_ContainsFunc_int64_int64.f slices_IndexFunc_int64_int64.f
  have hl := loop_find (f := slices_IndexFunc_int64_int64.b0 a f) (fun i => (i : Int)) a.length (fun (i : Nat) => p (gt a (i : Int))) (fun i => (i : Int)) (a.length : Int) (by omega) (fun i hi => by
    unfold slices_IndexFunc_int64_int64.b0
    simp only [dlt_nat, hi, decide_true, cond_true]
    rw [chk_in (by omega), hf _ (by rw [gt_at hi]; exact List.getElem_mem _), Option.bind_some, w64_succ (by omega)]
    cases p (gt a (i : Int)) <;> rfl) (by
    unfold slices_IndexFunc_int64_int64.b0
    simp)
  have hl' : loop (slices_IndexFunc_int64_int64.b0 a f) 0 = _ := hl
  rw [hl', ← any_at a p]
  cases hfd : (List.range a.length).find? (fun (i : Nat) => p (gt a (i : Int))) with
  | none =>
    have : (List.range a.length).any (fun (i : Nat) => p (gt a (i : Int))) = false := by
      rw [List.any_eq_false]; intro x hx; have := List.find?_eq_none.1 hfd x hx; simpa using this
    rw [this]; rfl
  | some i =>
    have : (List.range a.length).any (fun (i : Nat) => p (gt a (i : Int))) = true := List.any_eq_true.2 ⟨i, List.mem_of_find?_eq_some hfd, List.find?_some (p := fun (i : Nat) => p (gt a (i : Int))) hfd⟩
    rw [this]
    have hd : decide ((i : Int) ≥ 0) = true := by simp
    simp only [Option.bind_some, ln, hd]
theorem containsSides (a : List (List (Int × Int))) (h : a.length < 1000000) (f : List (Int × Int) → Option Bool) (p : List (Int × Int) → Bool) (hf : ∀ x ∈ a, f x = some (p x)) : slices_ContainsFunc_impl_sided_impl_sided.f a f = some (a.any p) := by
  unfold slices_ContainsFunc_impl_sided_impl_sided.f slices_IndexFunc_impl_sided_impl_sided.f
  have hl := loop_find (f := slices_IndexFunc_impl_sided_impl_sided.b0 a f) (fun i => (i : Int)) a.length (fun (i : Nat) => p (gt a (i : Int))) (fun i => (i : Int)) (a.length : Int) (by omega) (fun i hi => by
    unfold slices_IndexFunc_impl_sided_impl_sided.b0
    simp only [dlt_nat, hi, decide_true, cond_true]
    rw [chk_in (by omega), hf _ (by rw [gt_at hi]; exact List.getElem_mem _), Option.bind_some, w64_succ (by omega)]
    cases p (gt a (i : Int)) <;> rfl) (by
    unfold slices_IndexFunc_impl_sided_impl_sided.b0
    simp)
  have hl' : loop (slices_IndexFunc_impl_sided_impl_sided.b0 a f) 0 = _ := hl
  rw [hl', ← any_at a p]
  cases hfd : (List.range a.length).find? (fun (i : Nat) => p (gt a (i : Int))) with
  | none =>
    have : (List.range a.length).any (fun (i : Nat) => p (gt a (i : Int))) = false := by
      rw [List.any_eq_false]; intro x hx; have := List.find?_eq_none.1 hfd x hx; simpa using this
    rw [this]; rfl
  | some i =>
    have : (List.range a.length).any (fun (i : Nat) => p (gt a (i : Int))) = true := List.any_eq_true.2 ⟨i, List.mem_of_find?_eq_some hfd, List.find?_some (p := fun (i : Nat) => p (gt a (i : Int))) hfd⟩
    rw [this]
    have hd : decide ((i : Int) ≥ 0) = true := by simp
    simp only [Option.bind_some, ln, hd]

/-! ### the sides of the edges -/
abbrev Side := (Int × Int) × Int
def entry (s : List (List Int)) (i q : Nat) : Int := gt (gt s (i : Int)) (q : Int)
def rowP (s : List (List Int)) (i : Nat) : Nat → List Side
  | 0 => []
  | j + 1 => rowP s i j ++ [(((i : Int), (j : Int)), entry s i j)]
def preP (s : List (List Int)) : Nat → List Side
  | 0 => []
  | i + 1 => preP s i ++ rowP s i 3
def sdl (P : List Side) (k : Nat) : List (Int × Int) := (P.filter fun p => p.2.natAbs == k).map (·.1)
def tab (m : Nat) (P : List Side) : List (List (Int × Int)) := (List.range (m + 1)).map (sdl P)
def cnt (m : Nat) (P : List Side) : List Int := (List.range (m + 1)).map fun k => ((sdl P k).length : Int)
theorem rowP_length (s : List (List Int)) (i : Nat) : ∀ j, (rowP s i j).length = j
  | 0 => rfl
  | j + 1 => by simp only [rowP, List.length_append, rowP_length s i j]; rfl
theorem preP_length (s : List (List Int)) : ∀ i, (preP s i).length = 3 * i
  | 0 => rfl
  | i + 1 => by simp only [preP, List.length_append, preP_length s i, rowP_length]; omega
theorem sdl_le (P : List Side) (k : Nat) : (sdl P k).length ≤ P.length := by
  unfold sdl; rw [List.length_map]; exact List.length_filter_le _ _
theorem sdl_add (P : List Side) (a : Int × Int) (x : Int) (k : Nat) : sdl (P ++ [(a, x)]) k = if x.natAbs = k then sdl P k ++ [a] else sdl P k := by
  unfold sdl
  rw [List.filter_append, List.map_append]
  by_cases h : x.natAbs = k
  · rw [if_pos h]
    simp [List.filter, h]
  · rw [if_neg h]
    have : (x.natAbs == k) = false := by simpa using h
    simp [List.filter, this]
theorem tab_length (m : Nat) (P : List Side) : (tab m P).length = m + 1 := by simp [tab]
theorem cnt_length (m : Nat) (P : List Side) : (cnt m P).length = m + 1 := by simp [cnt]
theorem tab_gt {m k : Nat} (P : List Side) (h : k ≤ m) : gt (tab m P) (k : Int) = sdl P k := by
  have : k < m + 1 := by omega
  simp [gt, tab, List.getD, this]
theorem cnt_gt {m k : Nat} (P : List Side) (h : k ≤ m) : gt (cnt m P) (k : Int) = ((sdl P k).length : Int) := by
  have : k < m + 1 := by omega
  simp [gt, cnt, List.getD, this]
theorem tab_add {m : Nat} (P : List Side) (a : Int × Int) (x : Int) : (tab m P).set x.natAbs (sdl P x.natAbs ++ [a]) = tab m (P ++ [(a, x)]) := by
  apply List.ext_getElem?
  intro q
  simp only [tab, List.getElem?_set, List.length_map, List.length_range, List.getElem?_map]
  by_cases hq : q < m + 1
  · by_cases hx : x.natAbs = q
    · subst hx; simp [hq, sdl_add]
    · simp [hq, hx, sdl_add]
  · by_cases hx : x.natAbs = q
    · subst hx; simp [hq]
    · simp [hq, hx]
theorem cnt_add {m : Nat} (P : List Side) (a : Int × Int) (x : Int) : (cnt m P).set x.natAbs (((sdl P x.natAbs).length + 1 : Nat) : Int) = cnt m (P ++ [(a, x)]) := by
  apply List.ext_getElem?
  intro q
  simp only [cnt, List.getElem?_set, List.length_map, List.length_range, List.getElem?_map]
  by_cases hq : q < m + 1
  · by_cases hx : x.natAbs = q
    · subst hx; simp [hq, sdl_add]
    · simp [hq, hx, sdl_add]
  · by_cases hx : x.natAbs = q
    · subst hx; simp [hq]
    · simp [hq, hx]
def entB (m : Nat) (x : Int) : Bool := decide (x ≠ 0) && decide (-(m : Int) ≤ x) && decide (x ≤ (m : Int))
def rowB (m : Nat) (t : List Int) : Bool := decide (t.length = 3) && t.all (entB m)
theorem size_abs {m : Nat} (hm : m ≤ 100) {x : Int} (h : entB m x = true) : (if (w64 (0 - x)) > x then (w64 (0 - x)) else x) = (x.natAbs : Int) := by
  unfold entB at h
  simp only [Bool.and_eq_true, decide_eq_true_eq] at h
  rw [w64_in (by omega)]
  split <;> omega
theorem abs_le {m : Nat} {x : Int} (h : entB m x = true) : x.natAbs ≤ m := by
  unfold entB at h
  simp only [Bool.and_eq_true, decide_eq_true_eq] at h
  omega
def ed (n : Nat) : Nat := n * 3 / 2
theorem edges_eq {n : Nat} (h : n ≤ 100) : w64 (Int.tdiv (w64 ((n : Int) * 3)) 2) = (ed n : Int) := by
  have e1 : w64 ((n : Int) * 3) = (n : Int) * 3 := w64_in (by omega)
  rw [e1, Int.tdiv_eq_ediv_of_nonneg (by omega), w64_in (by omega)]
  unfold ed; omega
theorem row_entry {m : Nat} {s : List (List Int)} {i : Nat} (h : rowB m (gt s (i : Int)) = true) {q : Nat} (hq : q < 3) : entB m (entry s i q) = true ∧ (gt s (i : Int)).length = 3 := by
  unfold rowB at h
  simp only [Bool.and_eq_true, decide_eq_true_eq, List.all_eq_true] at h
  refine ⟨h.2 _ ?_, h.1⟩
  unfold entry
  have e : gt (gt s (i : Int)) (q : Int) = (gt s (i : Int))[q]'(by omega) := gt_at (by omega)
  rw [e]
  exact List.getElem_mem _
/-- The program's list of sides, where all rows are good. -/
theorem sides_eq {s : List (List Int)} (hn : s.length ≤ 100) (hr : ∀ i, i < s.length → rowB (ed s.length) (gt s (i : Int)) = true) : impl_sidesOfEdges.f s = some (tab (ed s.length) (preP s s.length)) := by
  have hm : ed s.length ≤ 150 := by unfold ed; omega
  have hm2 : ed s.length ≤ 100 ∨ True := .inr trivial
  unfold impl_sidesOfEdges.f impl_edgesOf.f
  rw [Option.bind_some, edges_eq hn, w64_succ (by omega), show decide ((0 : Int) ≤ ((ed s.length + 1 : Nat) : Int)) = true by simp; omega]
  simp only [grd, cond_true, Int.toNat_natCast]
  rw [small_in (by omega)]
  have ho := loop1_upto (f := impl_sidesOfEdges.b1 s) (fun i => (tab (ed s.length) (preP s i), (i : Int))) s.length (tab (ed s.length) (preP s s.length), (s.length : Int)) (by omega) (fun i hi => by
    unfold impl_sidesOfEdges.b1
    simp only [dlt_nat, hi, decide_true, cond_true]
    rw [chk_in (by omega)]
    have h3 := (row_entry (hr i hi) (q := 0) (by omega)).2
    have hin := loop1_upto (f := impl_sidesOfEdges.b0 s i) (fun j => (tab (ed s.length) (preP s i ++ rowP s i j), (j : Int))) 3 (tab (ed s.length) (preP s i ++ rowP s i 3), 3) (by omega) (fun j hj => by
      unfold impl_sidesOfEdges.b0
      have he := (row_entry (hr i hi) hj).1
      have hle := abs_le he
      simp only [h3]
      rw [show (((3 : Nat) : Int)) = ((3 : Nat) : Int) from rfl]
      simp only [dlt_nat, hj, decide_true, cond_true]
      rw [chk_in (by omega)]
      have hsz : impl_size.f (gt (gt s (i : Int)) (j : Int)) = some ((entry s i j).natAbs : Int) := by
        unfold impl_size.f
        have : entB (ed s.length) (gt (gt s (i : Int)) (j : Int)) = true := he
        have h2 : (if (w64 (0 - gt (gt s (i : Int)) (j : Int))) > gt (gt s (i : Int)) (j : Int) then (w64 (0 - gt (gt s (i : Int)) (j : Int))) else gt (gt s (i : Int)) (j : Int)) = ((entry s i j).natAbs : Int) := by
          unfold entB at this
          simp only [Bool.and_eq_true, decide_eq_true_eq] at this
          rw [w64_in (by omega)]
          unfold entry
          split <;> omega
        rw [h2]
      rw [hsz, Option.bind_some, tab_length, chk_in (by omega), tab_gt _ hle]
      have hlen : (sdl (preP s i ++ rowP s i j) (entry s i j).natAbs).length + 1 ≤ 1099511627776 := by
        have h1 := sdl_le (preP s i ++ rowP s i j) (entry s i j).natAbs
        rw [List.length_append, preP_length, rowP_length] at h1
        omega
      rw [small_in (by simpa using hlen), Int.toNat_natCast, tab_add, w64_succ (by omega)]
      simp only [rowP, List.append_assoc]) (by
      unfold impl_sidesOfEdges.b0
      simp [h3])
    have hin' : loop1 (impl_sidesOfEdges.b0 s i) (tab (ed s.length) (preP s i), 0) = some (tab (ed s.length) (preP s i ++ rowP s i 3), 3) := by simpa [rowP] using hin
    rw [hin']
    simp only [Option.bind_some, w64_succ (by omega : i < 4611686018427387904)]
    rfl) (by
    unfold impl_sidesOfEdges.b1
    simp)
  have e : List.replicate (ed s.length + 1) ([] : List (Int × Int)) = tab (ed s.length) (preP s 0) := by
    apply List.ext_getElem?
    intro q
    by_cases hq : q < ed s.length + 1 <;> simp [tab, preP, sdl, hq]
  rw [e]
  have ho' : loop1 (impl_sidesOfEdges.b1 s) (tab (ed s.length) (preP s 0), 0) = some (tab (ed s.length) (preP s s.length), (s.length : Int)) := ho
  rw [ho']; rfl
def badRows (s : List (List Int)) : Bool := s.any fun t => !rowB (ed s.length) t
def badEdges (s : List (List Int)) : Bool := (List.range (ed s.length)).any fun k => decide ((sdl (preP s s.length) (k + 1)).length ≠ 2)
/-- What both tell. -/
def surfB (s : List (List Int)) : Bool := decide (2 ≤ s.length) && decide (s.length ≤ 12) && decide (s.length % 2 = 0) && !badRows s && !badEdges s
theorem good_rows {s : List (List Int)} (h : badRows s = false) : ∀ i, i < s.length → rowB (ed s.length) (gt s (i : Int)) = true := by
  intro i hi
  unfold badRows at h
  rw [List.any_eq_false] at h
  have := h (gt s (i : Int)) (by rw [gt_at hi]; exact List.getElem_mem _)
  simpa using this
theorem is1_eq {s : List (List Int)} (hn : s.length ≤ 100) (x : Int) : impl_IsSurface_1.f x s = some (!entB (ed s.length) x) := by
  have hm : ed s.length ≤ 150 := by unfold ed; omega
  unfold impl_IsSurface_1.f impl_edgesOf.f impl_in.f
  rw [edges_eq hn]
  simp only [Option.bind_some]
  rw [w64_in (by omega)]
  unfold entB
  by_cases h0 : x = 0
  · subst h0; simp
  · have : (x == 0) = false := by simpa using h0
    rw [this, cond_false]
    congr 2
    have : decide (x ≠ 0) = true := by simpa using h0
    rw [this, Bool.true_and]
    congr 1
    · congr 1
      apply propext
      constructor <;> intro h <;> omega
theorem drop_tab (m : Nat) (P : List Side) : ((tab m P).drop 1).take ((tab m P).length - 1) = (List.range m).map fun k => sdl P (k + 1) := by
  rw [List.take_of_length_le (by simp)]
  apply List.ext_getElem?
  intro q
  simp only [tab, List.getElem?_drop, List.getElem?_map]
  by_cases hq : q < m
  · rw [List.getElem?_range hq, List.getElem?_range (by omega)]
    simp [Nat.add_comm]
  · rw [List.getElem?_eq_none (by simp; omega), List.getElem?_eq_none (by simp; omega)]
    rfl
theorem implSurf {s : List (List Int)} (hn : s.length ≤ 1048576) : impl_IsSurface.f s = some (surfB s) := by
  unfold impl_IsSurface.f impl_in.f
  rw [Option.bind_some]
  by_cases h : 2 ≤ s.length ∧ s.length ≤ 12 ∧ s.length % 2 = 0
  · obtain ⟨h1, h2, h3⟩ := h
    have e1 : (decide ((s.length : Int) ≥ 2) && decide ((s.length : Int) ≤ 12)) = true := by simp; omega
    have e2 : (Int.tmod (s.length : Int) 2 != 0) = false := by rw [Int.tmod_eq_emod_of_nonneg (by omega)]; simp; omega
    rw [e1, e2]
    simp only [Bool.not_true, Bool.or_false, cond_false]
    have hm : ed s.length ≤ 18 := by unfold ed; omega
    have hl := loop_any (f := impl_IsSurface.b0 s) (fun i => (i : Int)) s.length (fun i => !rowB (ed s.length) (gt s (i : Int))) false (s.length : Int) (by omega) (fun i hi => by
      unfold impl_IsSurface.b0
      simp only [dlt_nat, hi, decide_true, cond_true]
      rw [chk_in (by omega), w64_succ (by omega)]
      unfold rowB
      by_cases h3 : (gt s (i : Int)).length = 3
      · have e3 : (((gt s (i : Int)).length : Int) != 3) = false := by rw [h3]; rfl
        rw [e3, cond_false, containsInts _ (by omega) _ (fun x => !entB (ed s.length) x) (fun x _ => is1_eq (by omega) x)]
        simp only [Option.bind_some, h3, decide_true, Bool.true_and]
        have : (gt s (i : Int)).any (fun x => !entB (ed s.length) x) = !(gt s (i : Int)).all (entB (ed s.length)) := by rw [List.all_eq_not_any_not, Bool.not_not]
        rw [this]
        cases (gt s (i : Int)).all (entB (ed s.length)) <;> rfl
      · have e3 : (((gt s (i : Int)).length : Int) != 3) = true := by simp; omega
        rw [e3, cond_true, Option.bind_some, cond_true]
        have : decide ((gt s (i : Int)).length = 3) = false := by simpa using h3
        rw [this]; rfl) (by
      unfold impl_IsSurface.b0
      simp)
    have hl' : loop (impl_IsSurface.b0 s) 0 = some (bif badRows s then .ret false else .brk (s.length : Int)) := by
      have := any_at s (fun t => !rowB (ed s.length) t)
      unfold badRows
      rw [← this]; exact hl
    rw [hl']
    unfold surfB
    have f1 : decide (2 ≤ s.length) = true := decide_eq_true h1
    have f2 : decide (s.length ≤ 12) = true := decide_eq_true h2
    have f3 : decide (s.length % 2 = 0) = true := decide_eq_true h3
    rw [f1, f2, f3]
    cases hb : badRows s with
    | true => rfl
    | false =>
      simp only [cond_false, Option.bind_some, ln]
      rw [sides_eq (by omega) (good_rows hb), Option.bind_some]
      have e4 : (decide (0 ≤ 1) && decide (1 ≤ ((tab (ed s.length) (preP s s.length)).length : Int)) && decide (((tab (ed s.length) (preP s s.length)).length : Int) ≤ ((tab (ed s.length) (preP s s.length)).length : Int))) = true := by
        rw [tab_length]; simp; omega
      rw [e4]
      simp only [grd, cond_true]
      rw [drop_tab, containsSides _ (by simp; omega) _ (fun l => decide (l.length ≠ 2)) (fun l _ => by
        unfold impl_IsSurface_2.f
        congr 1
        rw [Bool.eq_iff_iff]; simp; omega)]
      simp only [Option.bind_some, Bool.true_and, Bool.not_false]
      rw [List.any_map]
      rfl
  · have e : (!(decide ((s.length : Int) ≥ 2) && decide ((s.length : Int) ≤ 12)) || (Int.tmod (s.length : Int) 2 != 0)) = true := by
      rw [Int.tmod_eq_emod_of_nonneg (by omega)]
      by_cases h1 : 2 ≤ s.length
      · by_cases h2 : s.length ≤ 12
        · have : ¬ s.length % 2 = 0 := fun h3 => h ⟨h1, h2, h3⟩
          simp; omega
        · simp; omega
      · simp; omega
    rw [e, cond_true]
    unfold surfB
    have : (decide (2 ≤ s.length) && decide (s.length ≤ 12) && decide (s.length % 2 = 0)) = false := by
      rw [Bool.eq_false_iff]
      intro hc
      simp only [Bool.and_eq_true, decide_eq_true_eq] at hc
      exact h ⟨hc.1.1, hc.1.2, hc.2⟩
    rw [this]; rfl
theorem specSurf {s : List (List Int)} (hn : s.length ≤ 1048576) : spec_l07Is.f s = some (surfB s) := by
  unfold spec_l07Is.f
  by_cases h : 2 ≤ s.length ∧ s.length ≤ 12 ∧ s.length % 2 = 0
  · obtain ⟨h1, h2, h3⟩ := h
    have e1 : (((decide ((s.length : Int) < 2)) || (decide ((s.length : Int) > 12))) || ((Int.tmod (s.length : Int) 2) != 0)) = false := by
      rw [Int.tmod_eq_emod_of_nonneg (by omega)]; simp; omega
    have hm : ed s.length ≤ 18 := by unfold ed; omega
    rw [e1, cond_false, edges_eq (by omega), w64_succ (by omega), show decide ((0 : Int) ≤ ((ed s.length + 1 : Nat) : Int)) = true by simp; omega]
    simp only [grd, cond_true, Int.toNat_natCast]
    rw [small_in (by omega)]
    have hl := loop_any (f := spec_l07Is.b1 s) (fun i => (cnt (ed s.length) (preP s i), (i : Int))) s.length (fun i => !rowB (ed s.length) (gt s (i : Int))) false (cnt (ed s.length) (preP s s.length), (s.length : Int)) (by omega) (fun i hi => by
      unfold spec_l07Is.b1
      simp only [dlt_nat, hi, decide_true, cond_true]
      rw [chk_in (by omega), w64_succ (by omega)]
      by_cases h3 : (gt s (i : Int)).length = 3
      · have e3 : (((gt s (i : Int)).length : Int) != 3) = false := by rw [h3]; rfl
        rw [e3, cond_false]
        have hin := loop_any (f := spec_l07Is.b0 s i) (fun j => (cnt (ed s.length) (preP s i ++ rowP s i j), (j : Int))) 3 (fun j => !entB (ed s.length) (entry s i j)) (.ret false) (cnt (ed s.length) (preP s i ++ rowP s i 3), 3) (by omega) (fun j hj => by
          unfold spec_l07Is.b0
          have hj' : decide ((j : Int) < 3) = true := by simp; omega
          simp only [hj', cond_true]
          rw [chk_in (by omega), edges_eq (by omega)]
          unfold spec_l01In.f
          rw [Option.bind_some, w64_in (x := 0 - (ed s.length : Int)) (by omega)]
          have eb : (!(decide (gt (gt s (i : Int)) (j : Int) ≥ 0 - (ed s.length : Int)) && decide (gt (gt s (i : Int)) (j : Int) ≤ (ed s.length : Int))) || (gt (gt s (i : Int)) (j : Int) == 0)) = !entB (ed s.length) (entry s i j) := by
            unfold entB entry
            rw [Bool.eq_iff_iff]
            simp only [Bool.or_eq_true, Bool.not_eq_true', Bool.and_eq_false_iff, decide_eq_false_iff_not, beq_iff_eq, ne_eq]
            omega
          rw [eb]
          cases hb : entB (ed s.length) (entry s i j) with
          | false => rfl
          | true =>
            simp only [Bool.not_true, cond_false]
            have hle := abs_le hb
            have hsz := size_abs (m := ed s.length) (by omega) hb
            unfold entry at hsz
            rw [hsz]
            have hen : ((gt (gt s (i : Int)) (j : Int)).natAbs) = (entry s i j).natAbs := rfl
            rw [hen, cnt_length, chk_in (by omega), cnt_gt _ hle, Int.toNat_natCast, w64_succ (by
              have h1 := sdl_le (preP s i ++ rowP s i j) (entry s i j).natAbs
              rw [List.length_append, preP_length, rowP_length] at h1
              omega), cnt_add (a := ((i : Int), (j : Int))), w64_succ (by omega)]
            simp only [rowP, List.append_assoc]) (by
          unfold spec_l07Is.b0
          rfl)
        have hin' : loop (spec_l07Is.b0 s i) (cnt (ed s.length) (preP s i), 0) = some (bif (List.range 3).any (fun j => !entB (ed s.length) (entry s i j)) then .ret (.ret false) else .brk (cnt (ed s.length) (preP s i ++ rowP s i 3), 3)) := by simpa [rowP] using hin
        rw [hin']
        have ea : (List.range 3).any (fun j => !entB (ed s.length) (entry s i j)) = !rowB (ed s.length) (gt s (i : Int)) := by
          have := any_at (gt s (i : Int)) (fun x => !entB (ed s.length) x)
          rw [h3] at this
          unfold entry
          rw [this]
          unfold rowB
          rw [h3, List.all_eq_not_any_not]
          simp
        rw [ea]
        cases rowB (ed s.length) (gt s (i : Int)) <;> rfl
      · have e3 : (((gt s (i : Int)).length : Int) != 3) = true := by simp; omega
        rw [e3, cond_true]
        have : rowB (ed s.length) (gt s (i : Int)) = false := by
          unfold rowB
          have : decide ((gt s (i : Int)).length = 3) = false := by simpa using h3
          rw [this]; rfl
        rw [this]; rfl) (by
      unfold spec_l07Is.b1
      simp)
    have e0 : List.replicate (ed s.length + 1) (0 : Int) = cnt (ed s.length) (preP s 0) := by
      apply List.ext_getElem?
      intro q
      by_cases hq : q < ed s.length + 1 <;> simp [cnt, preP, sdl, hq]
    rw [e0]
    have hl' : loop (spec_l07Is.b1 s) (cnt (ed s.length) (preP s 0), 0) = some (bif badRows s then .ret false else .brk (cnt (ed s.length) (preP s s.length), (s.length : Int))) := by
      have := any_at s (fun t => !rowB (ed s.length) t)
      unfold badRows
      rw [← this]; exact hl
    rw [hl']
    unfold surfB
    have f1 : decide (2 ≤ s.length) = true := decide_eq_true h1
    have f2 : decide (s.length ≤ 12) = true := decide_eq_true h2
    have f3 : decide (s.length % 2 = 0) = true := decide_eq_true h3
    rw [f1, f2, f3]
    cases hb : badRows s with
    | true => rfl
    | false =>
      simp only [cond_false, Option.bind_some, ln]
      have hk := loop_any (f := spec_l07Is.b2 s (cnt (ed s.length) (preP s s.length))) (fun k => ((k + 1 : Nat) : Int)) (ed s.length) (fun k => decide ((sdl (preP s s.length) (k + 1)).length ≠ 2)) false ((ed s.length + 1 : Nat) : Int) (by omega) (fun k hk => by
        unfold spec_l07Is.b2
        rw [edges_eq (by omega)]
        have hd : decide (((k + 1 : Nat) : Int) ≤ (ed s.length : Int)) = true := by simp; omega
        rw [hd, cond_true, cnt_length, chk_in (by omega), cnt_gt _ (by omega), w64_succ (by omega)]
        have : ((((sdl (preP s s.length) (k + 1)).length : Nat) : Int) != 2) = decide ((sdl (preP s s.length) (k + 1)).length ≠ 2) := by
          rw [Bool.eq_iff_iff]; simp; omega
        rw [this]
        cases decide ((sdl (preP s s.length) (k + 1)).length ≠ 2) <;> rfl) (by
        unfold spec_l07Is.b2
        rw [edges_eq (by omega)]
        have hd : decide (((ed s.length + 1 : Nat) : Int) ≤ (ed s.length : Int)) = false := by simp; omega
        rw [hd]; rfl)
      have hk' : loop (spec_l07Is.b2 s (cnt (ed s.length) (preP s s.length))) 1 = some (bif badEdges s then .ret false else .brk ((ed s.length + 1 : Nat) : Int)) := hk
      rw [hk']
      cases badEdges s <;> rfl
  · have e : (((decide ((s.length : Int) < 2)) || (decide ((s.length : Int) > 12))) || ((Int.tmod (s.length : Int) 2) != 0)) = true := by
      rw [Int.tmod_eq_emod_of_nonneg (by omega)]
      by_cases h1 : 2 ≤ s.length
      · by_cases h2 : s.length ≤ 12
        · have : ¬ s.length % 2 = 0 := fun h3 => h ⟨h1, h2, h3⟩
          simp; omega
        · simp; omega
      · simp; omega
    rw [e, cond_true]
    unfold surfB
    have : (decide (2 ≤ s.length) && decide (s.length ≤ 12) && decide (s.length % 2 = 0)) = false := by
      rw [Bool.eq_false_iff]
      intro hc
      simp only [Bool.and_eq_true, decide_eq_true_eq] at hc
      exact h ⟨hc.1.1, hc.1.2, hc.2⟩
    rw [this]; rfl
end Go.Proofs.Ytiiljfpbcanphaa.G

/- Surfaces that are oriented, told by both. -/
namespace Go.Proofs.Ytiiljfpbcanphaa.G
open Go Go.Sx Go.Proofs
def fl (P : List Side) (k : Nat) : List Side := P.filter fun p => p.2.natAbs == k
theorem sdl_fl (P : List Side) (k : Nat) : sdl P k = (fl P k).map (·.1) := rfl
def sn (x : Int) : Int := if x > 0 then 1 else -1
def sg (P : List Side) (k : Nat) : Int := ((fl P k).map fun p => sn p.2).sum
def sgs (m : Nat) (P : List Side) : List Int := (List.range (m + 1)).map (sg P)
theorem fl_add (P : List Side) (a : Int × Int) (x : Int) (k : Nat) : fl (P ++ [(a, x)]) k = if x.natAbs = k then fl P k ++ [(a, x)] else fl P k := by
  unfold fl
  rw [List.filter_append]
  by_cases h : x.natAbs = k
  · rw [if_pos h]; simp [List.filter, h]
  · rw [if_neg h]
    have : (x.natAbs == k) = false := by simpa using h
    simp [List.filter, this]
theorem sg_add (P : List Side) (a : Int × Int) (x : Int) (k : Nat) : sg (P ++ [(a, x)]) k = if x.natAbs = k then sg P k + sn x else sg P k := by
  unfold sg
  rw [fl_add]
  by_cases h : x.natAbs = k
  · rw [if_pos h, if_pos h]; simp
  · rw [if_neg h, if_neg h]
theorem sum_le : ∀ l : List Side, -(l.length : Int) ≤ (l.map fun p => sn p.2).sum ∧ (l.map fun p => sn p.2).sum ≤ l.length
  | [] => by simp
  | p :: l => by
    have := sum_le l
    simp only [List.map_cons, List.sum_cons, List.length_cons]
    have h : sn p.2 = 1 ∨ sn p.2 = -1 := by unfold sn; split <;> simp
    rcases h with h | h <;> rw [h] <;> omega
theorem sg_le (P : List Side) (k : Nat) : -(P.length : Int) ≤ sg P k ∧ sg P k ≤ P.length := by
  have h1 := sum_le (fl P k)
  have h2 : (fl P k).length ≤ P.length := List.length_filter_le _ _
  unfold sg; omega
theorem sgs_length (m : Nat) (P : List Side) : (sgs m P).length = m + 1 := by simp [sgs]
theorem sgs_gt {m k : Nat} (P : List Side) (h : k ≤ m) : gt (sgs m P) (k : Int) = sg P k := by
  have : k < m + 1 := by omega
  simp [gt, sgs, List.getD, this]
theorem sgs_add {m : Nat} (P : List Side) (a : Int × Int) (x : Int) : (sgs m P).set x.natAbs (sg P x.natAbs + sn x) = sgs m (P ++ [(a, x)]) := by
  apply List.ext_getElem?
  intro q
  simp only [sgs, List.getElem?_set, List.length_map, List.length_range, List.getElem?_map]
  by_cases hq : q < m + 1
  · by_cases hx : x.natAbs = q
    · subst hx; simp [hq, sg_add]
    · simp [hq, hx, sg_add]
  · by_cases hx : x.natAbs = q
    · subst hx; simp [hq]
    · simp [hq, hx]
theorem mem_rowP {s : List (List Int)} {i : Nat} : ∀ {j} {p : Side}, p ∈ rowP s i j → ∃ q : Nat, q < j ∧ p = (((i : Int), (q : Int)), entry s i q)
  | 0, _, h => by cases h
  | j + 1, p, h => by
    rcases List.mem_append.1 h with h | h
    · obtain ⟨q, hq, e⟩ := mem_rowP h; exact ⟨q, by omega, e⟩
    · exact ⟨j, by omega, by simpa using h⟩
theorem mem_preP {s : List (List Int)} : ∀ {n} {p : Side}, p ∈ preP s n → ∃ i q : Nat, i < n ∧ q < 3 ∧ p = (((i : Int), (q : Int)), entry s i q)
  | 0, _, h => by cases h
  | n + 1, p, h => by
    rcases List.mem_append.1 h with h | h
    · obtain ⟨i, q, hi, hq, e⟩ := mem_preP h; exact ⟨i, q, by omega, hq, e⟩
    · obtain ⟨q, hq, e⟩ := mem_rowP h; exact ⟨n, q, by omega, hq, e⟩
structure Surf (s : List (List Int)) : Prop where
  two : 2 ≤ s.length
  most : s.length ≤ 12
  even : s.length % 2 = 0
  row : ∀ i, i < s.length → rowB (ed s.length) (gt s (i : Int)) = true
  edge : ∀ k, k < ed s.length → (sdl (preP s s.length) (k + 1)).length = 2
theorem surf_of {s : List (List Int)} (h : surfB s = true) : Surf s := by
  unfold surfB at h
  simp only [Bool.and_eq_true, decide_eq_true_eq, Bool.not_eq_true'] at h
  refine ⟨h.1.1.1.1, h.1.1.1.2, h.1.1.2, good_rows h.1.2, fun k hk => ?_⟩
  have := h.2
  unfold badEdges at this
  rw [List.any_eq_false] at this
  have := this k (List.mem_range.2 hk)
  simpa using this
theorem Surf.edge2 {s : List (List Int)} (h : Surf s) {k : Nat} (hk : k < ed s.length) : ∃ p q, fl (preP s s.length) (k + 1) = [p, q] ∧ p ∈ preP s s.length ∧ q ∈ preP s s.length ∧ p.2.natAbs = k + 1 ∧ q.2.natAbs = k + 1 := by
  have h1 := h.edge k hk
  rw [sdl_fl, List.length_map] at h1
  match hf : fl (preP s s.length) (k + 1), h1 with
  | [p, q], _ =>
    have hp : p ∈ fl (preP s s.length) (k + 1) := by rw [hf]; simp
    have hq : q ∈ fl (preP s s.length) (k + 1) := by rw [hf]; simp
    unfold fl at hp hq
    rw [List.mem_filter] at hp hq
    exact ⟨p, q, rfl, hp.1, hq.1, by simpa using hp.2, by simpa using hq.2⟩
/-- One edge is passed twice in the same direction. -/
def sameE (s : List (List Int)) (k : Nat) : Bool := decide (sg (preP s s.length) (k + 1) ≠ 0)
def orB (s : List (List Int)) : Bool := !(List.range (ed s.length)).any (sameE s)
theorem at_side {s : List (List Int)} (h : Surf s) {p : Side} (hp : p ∈ preP s s.length) {α : Type} (k : Int → Option α) : chk p.1.1 s.length (chk p.1.2 ((gt s p.1.1).length) (k (gt (gt s p.1.1) p.1.2))) = k p.2 := by
  obtain ⟨i, q, hi, hq, rfl⟩ := mem_preP hp
  have h3 := (row_entry (h.row i hi) (q := 0) (by omega)).2
  rw [chk_in (by simp only; omega), chk_in (by simp only; omega)]
  rfl
theorem oriented1 {s : List (List Int)} (h : Surf s) {k : Nat} (hk : k < ed s.length) : impl_oriented_1.f (sdl (preP s s.length) (k + 1)) s = some (sameE s k) := by
  obtain ⟨p, q, hf, hp, hq, ap, aq⟩ := h.edge2 hk
  unfold impl_oriented_1.f
  have e : sdl (preP s s.length) (k + 1) = [p.1, q.1] := by rw [sdl_fl, hf]; rfl
  rw [e]
  have g0 : gt [p.1, q.1] 0 = p.1 := rfl
  have g1 : gt [p.1, q.1] 1 = q.1 := rfl
  rw [chk_in (by simp), g0, g1]
  have := at_side h hp (fun x => chk 1 [p.1, q.1].length (chk q.1.1 s.length (chk q.1.2 ((gt s q.1.1).length) (some (x == (gt (gt s q.1.1) q.1.2))))))
  rw [this, chk_in (by simp)]
  have := at_side h hq (fun y => some (p.2 == y))
  rw [this]
  congr 1
  unfold sameE sg
  rw [hf]
  simp only [List.map_cons, List.map_nil, List.sum_cons, List.sum_nil]
  rw [Bool.eq_iff_iff, beq_iff_eq, decide_eq_true_iff]
  unfold sn
  split <;> split <;> omega
theorem implOr {s : List (List Int)} (h : Surf s) : impl_oriented.f s = some (orB s) := by
  have h2 := h.most
  have hm : ed s.length ≤ 18 := by unfold ed; omega
  unfold impl_oriented.f
  rw [sides_eq (by omega) h.row, Option.bind_some]
  have e4 : (decide (0 ≤ 1) && decide (1 ≤ ((tab (ed s.length) (preP s s.length)).length : Int)) && decide (((tab (ed s.length) (preP s s.length)).length : Int) ≤ ((tab (ed s.length) (preP s s.length)).length : Int))) = true := by
    rw [tab_length]; simp; omega
  rw [e4]
  simp only [grd, cond_true]
  have hc := containsSides ((List.range (ed s.length)).map fun k => sdl (preP s s.length) (k + 1)) (by simp; omega) (fun x0_ => impl_oriented_1.f x0_ s) (fun l => (impl_oriented_1.f l s).getD false) (fun l hl => by
    obtain ⟨k, hk, rfl⟩ := List.mem_map.1 hl
    rw [oriented1 h (List.mem_range.1 hk)]; rfl)
  rw [drop_tab, hc]
  simp only [Option.bind_some]
  congr 2
  rw [List.any_map]
  refine any_congr fun k hk => ?_
  show (impl_oriented_1.f (sdl (preP s s.length) (k + 1)) s).getD false = _
  rw [oriented1 h hk]; rfl
theorem specOr {s : List (List Int)} (h : Surf s) : spec_l07Oriented.f s = some (orB s) := by
  have h2 := h.most
  have hm : ed s.length ≤ 18 := by unfold ed; omega
  unfold spec_l07Oriented.f
  rw [edges_eq (by omega), w64_succ (by omega), show decide ((0 : Int) ≤ ((ed s.length + 1 : Nat) : Int)) = true by simp; omega]
  simp only [grd, cond_true, Int.toNat_natCast]
  rw [small_in (by omega)]
  have hl := loop1_upto (f := spec_l07Oriented.b1 s) (fun i => (sgs (ed s.length) (preP s i), (i : Int))) s.length (sgs (ed s.length) (preP s s.length), (s.length : Int)) (by omega) (fun i hi => by
    unfold spec_l07Oriented.b1
    simp only [dlt_nat, hi, decide_true, cond_true]
    have h3 := (row_entry (h.row i hi) (q := 0) (by omega)).2
    have hin := loop1_upto (f := spec_l07Oriented.b0 i s) (fun j => (sgs (ed s.length) (preP s i ++ rowP s i j), (j : Int))) 3 (sgs (ed s.length) (preP s i ++ rowP s i 3), 3) (by omega) (fun j hj => by
      unfold spec_l07Oriented.b0
      have hj' : decide ((j : Int) < 3) = true := by simp; omega
      have he := (row_entry (h.row i hi) hj).1
      have hle := abs_le he
      have hsg := sg_le (preP s i ++ rowP s i j) (entry s i j).natAbs
      rw [List.length_append, preP_length, rowP_length] at hsg
      have hen : gt (gt s (i : Int)) (j : Int) = entry s i j := rfl
      simp only [hj', cond_true]
      rw [chk_in (by omega), chk_in (by omega), hen]
      have hne : entry s i j ≠ 0 := by
        unfold entB at he
        simp only [Bool.and_eq_true, decide_eq_true_eq] at he
        exact he.1.1
      by_cases hpos : entry s i j > 0
      · have ea : entry s i j = ((entry s i j).natAbs : Int) := by omega
        have hs : sn (entry s i j) = 1 := by unfold sn; rw [if_pos hpos]
        have := sgs_add (m := ed s.length) (preP s i ++ rowP s i j) ((i : Int), (j : Int)) (entry s i j)
        rw [hs] at this
        have e1 : gt (sgs (ed s.length) (preP s i ++ rowP s i j)) (entry s i j) = sg (preP s i ++ rowP s i j) (entry s i j).natAbs := by
          conv => lhs; rw [ea]
          exact sgs_gt _ hle
        have e2 : (entry s i j).toNat = (entry s i j).natAbs := by omega
        rw [decide_eq_true hpos, cond_true, sgs_length, chk_in (by omega), e1, e2, w64_in (x := sg (preP s i ++ rowP s i j) (entry s i j).natAbs + 1) (by omega), this, Option.bind_some, w64_succ (by omega)]
        simp only [rowP, List.append_assoc]
      · have ea : w64 (0 - entry s i j) = ((entry s i j).natAbs : Int) := by rw [w64_in (by omega)]; omega
        have hs : sn (entry s i j) = -1 := by unfold sn; rw [if_neg hpos]
        have := sgs_add (m := ed s.length) (preP s i ++ rowP s i j) ((i : Int), (j : Int)) (entry s i j)
        rw [hs] at this
        rw [decide_eq_false hpos, cond_false, ea, sgs_length, chk_in (by omega), sgs_gt _ hle, Int.toNat_natCast, w64_in (x := sg (preP s i ++ rowP s i j) (entry s i j).natAbs - 1) (by omega)]
        have e3 : sg (preP s i ++ rowP s i j) (entry s i j).natAbs - 1 = sg (preP s i ++ rowP s i j) (entry s i j).natAbs + -1 := by omega
        rw [e3, this, Option.bind_some, w64_succ (by omega)]
        simp only [rowP, List.append_assoc]) (by
      unfold spec_l07Oriented.b0
      rfl)
    have hin' : loop1 (spec_l07Oriented.b0 i s) (sgs (ed s.length) (preP s i), 0) = some (sgs (ed s.length) (preP s i ++ rowP s i 3), 3) := by simpa [rowP] using hin
    rw [hin']
    simp only [Option.bind_some, w64_succ (by omega : i < 4611686018427387904)]
    rfl) (by
    unfold spec_l07Oriented.b1
    simp)
  have e0 : List.replicate (ed s.length + 1) (0 : Int) = sgs (ed s.length) (preP s 0) := by
    apply List.ext_getElem?
    intro q
    by_cases hq : q < ed s.length + 1 <;> simp [sgs, preP, sg, fl, hq]
  rw [e0]
  have hl' : loop1 (spec_l07Oriented.b1 s) (sgs (ed s.length) (preP s 0), 0) = some (sgs (ed s.length) (preP s s.length), (s.length : Int)) := hl
  rw [hl', Option.bind_some]
  have hk := loop_any (f := spec_l07Oriented.b2 (sgs (ed s.length) (preP s s.length))) (fun k => (k : Int)) (ed s.length + 1) (fun k => decide (sg (preP s s.length) k ≠ 0)) false ((ed s.length + 1 : Nat) : Int) (by omega) (fun k hk => by
    unfold spec_l07Oriented.b2
    simp only [sgs_length, dlt_nat, hk, decide_true, cond_true]
    rw [chk_in (by omega), sgs_gt _ (by omega), w64_succ (by omega)]
    have : (sg (preP s s.length) k != 0) = decide (sg (preP s s.length) k ≠ 0) := by rw [Bool.eq_iff_iff]; simp
    rw [this]
    cases decide (sg (preP s s.length) k ≠ 0) <;> rfl) (by
    unfold spec_l07Oriented.b2
    simp [sgs_length])
  have hk' : loop (spec_l07Oriented.b2 (sgs (ed s.length) (preP s s.length))) 0 = _ := hk
  rw [hk']
  have hz : sg (preP s s.length) 0 = 0 := by
    unfold sg
    have : fl (preP s s.length) 0 = [] := by
      unfold fl
      rw [List.filter_eq_nil_iff]
      intro p hp hc
      obtain ⟨i, q, hi, hq, rfl⟩ := mem_preP hp
      have he := (row_entry (h.row i hi) hq).1
      unfold entB at he
      simp only [Bool.and_eq_true, decide_eq_true_eq] at he
      simp at hc
      exact he.1.1 hc
    rw [this]; rfl
  have e : (List.range (ed s.length + 1)).any (fun k => decide (sg (preP s s.length) k ≠ 0)) = (List.range (ed s.length)).any (sameE s) := by
    rw [List.range_succ_eq_map, List.any_cons, List.any_map, hz]
    rfl
  rw [e]
  unfold orB
  cases (List.range (ed s.length)).any (sameE s) <;> rfl
end Go.Proofs.Ytiiljfpbcanphaa.G

/- Sides and rows of a surface; what is a surface is told so. -/
namespace Go.Proofs.Ytiiljfpbcanphaa.G
open Go Go.Sx Go.Proofs
theorem in_rowP (s : List (List Int)) (i : Nat) : ∀ {j q : Nat}, q < j → (((i : Int), (q : Int)), entry s i q) ∈ rowP s i j
  | 0, _, h => by omega
  | j + 1, q, h => by
    by_cases hq : q = j
    · subst hq; exact List.mem_append.2 (.inr (by simp))
    · exact List.mem_append.2 (.inl (in_rowP s i (by omega)))
theorem in_preP (s : List (List Int)) : ∀ {n i q : Nat}, i < n → q < 3 → (((i : Int), (q : Int)), entry s i q) ∈ preP s n
  | 0, _, _, h, _ => by omega
  | n + 1, i, q, h, hq => by
    by_cases hi : i = n
    · subst hi; exact List.mem_append.2 (.inr (in_rowP s i hq))
    · exact List.mem_append.2 (.inl (in_preP s (by omega) hq))
theorem rows3 {s : List (List Int)} (h : Surf s) : ∀ r ∈ s, r.length = 3 := by
  intro r hr
  obtain ⟨q, hq, rfl⟩ := List.mem_iff_getElem.1 hr
  have := (row_entry (h.row q hq) (q := 0) (by omega)).2
  rwa [gt_at hq] at this
theorem Surf.isB {s : List (List Int)} (S : Surf s) : surfB s = true := by
  have h1 := S.two
  have h2 := S.most
  have h3 := S.even
  unfold surfB
  have b1 : badRows s = false := by
    unfold badRows
    rw [List.any_eq_false]
    intro r hr
    obtain ⟨i, hi, rfl⟩ := List.getElem_of_mem hr
    have := S.row i hi
    have e : gt s (i : Int) = s[i] := by simp [gt, List.getD, hi]
    rw [e] at this
    rw [this]; simp
  have b2 : badEdges s = false := by
    unfold badEdges
    rw [List.any_eq_false]
    intro k hk
    have := S.edge k (List.mem_range.1 hk)
    simp [this]
  rw [b1, b2, decide_eq_true h1, decide_eq_true h2, decide_eq_true h3]
  rfl
theorem Surf.sg0 {s : List (List Int)} (ho : orB s = true) {q : Nat} (hqk : q < ed s.length) : sg (preP s s.length) (q + 1) = 0 := by
  unfold orB at ho
  have hor2 : (List.range (ed s.length)).any (sameE s) = false := by simpa using ho
  rw [List.any_eq_false] at hor2
  have := hor2 q (List.mem_range.2 hqk)
  unfold sameE at this
  simpa using this
end Go.Proofs.Ytiiljfpbcanphaa.G

/- So many numbers, told by a function. -/
namespace Go.Proofs.Ytiiljfpbcanphaa.G
open Go Go.Sx Go.Proofs
/-- So many numbers. -/
def lz (n : Nat) (g : Nat → Nat) : List Int := (List.range n).map fun k => (g k : Int)
theorem lz_length (n : Nat) (g : Nat → Nat) : (lz n g).length = n := by simp [lz]
theorem lz_gt {n : Nat} (g : Nat → Nat) {k : Nat} (hk : k < n) : gt (lz n g) (k : Int) = (g k : Int) := by simp [gt, lz, List.getD, hk]
theorem lz_set {n : Nat} (g : Nat → Nat) {k v : Nat} (hk : k < n) : (lz n g).set k (v : Int) = lz n (fun x => if x = k then v else g x) := by
  apply List.ext_getElem?
  intro q
  simp only [lz, List.getElem?_set, List.length_map, List.length_range, List.getElem?_map]
  by_cases hq : q < n
  · by_cases h : k = q
    · subst h; simp [hk]
    · have : ¬ q = k := fun e => h e.symm
      simp [hq, h, this]
  · by_cases h : k = q
    · omega
    · simp [hq, h]
theorem lz_congr {n : Nat} {g h : Nat → Nat} (e : ∀ i, i < n → g i = h i) : lz n g = lz n h := by
  unfold lz
  refine List.map_congr_left fun i hi => ?_
  rw [e i (List.mem_range.1 hi)]
theorem lz_succ (n : Nat) (g : Nat → Nat) : lz (n + 1) g = lz n g ++ [(g n : Int)] := by simp [lz, List.range_succ]

end Go.Proofs.Ytiiljfpbcanphaa.G

/- Things that hang together: the pool and the leaders tell the same. -/
namespace Go.Proofs.Ytiiljfpbcanphaa.G
open Go Go.Sx Go.Proofs
/-! ### roots -/
def rt (g : Nat → Nat) (i : Nat) : Nat := if g i < i then rt g (g i) else i
termination_by i
theorem rt_step {g : Nat → Nat} {i : Nat} (h : g i < i) : rt g i = rt g (g i) := by rw [rt, if_pos h]
theorem rt_stop {g : Nat → Nat} {i : Nat} (h : ¬ g i < i) : rt g i = i := by rw [rt, if_neg h]
theorem rt_le (g : Nat → Nat) : ∀ i, rt g i ≤ i := by
  intro i
  induction i using Nat.strongRecOn with
  | _ i ih =>
    by_cases h : g i < i
    · rw [rt_step h]; have := ih (g i) h; omega
    · rw [rt_stop h]; exact Nat.le_refl _
theorem rt_root (g : Nat → Nat) : ∀ i, ¬ g (rt g i) < rt g i := by
  intro i
  induction i using Nat.strongRecOn with
  | _ i ih =>
    by_cases h : g i < i
    · rw [rt_step h]; exact ih (g i) h
    · rw [rt_stop h]; exact h
theorem rt_rt (g : Nat → Nat) (i : Nat) : rt g (rt g i) = rt g i := rt_stop (rt_root g i)
def PoolOk (n : Nat) (g : Nat → Nat) : Prop := ∀ i, i < n → g i ≤ i
theorem find_eq' {n : Nat} {g : Nat → Nat} (hg : PoolOk n g) (hn : n ≤ 1000000) {i : Nat} (hi : i < n) : impl_pool_find.f (lz n g) i = some (rt g i : Int) := by
  unfold impl_pool_find.f
  obtain ⟨o, ho, hq⟩ := loop1_run (f := impl_pool_find.b0 (lz n g)) (fun s => ∃ j : Nat, s = (j : Int) ∧ j < n ∧ rt g j = rt g i) (fun s => s.toNat) (fun o => o = (rt g i : Int)) (by
    rintro s ⟨j, rfl, hj, hr⟩
    unfold impl_pool_find.b0
    rw [lz_length, chk_in (by omega), lz_gt g hj, bne_nat]
    have h1 := hg j hj
    by_cases h : g j = j
    · right
      have h2 : rt g j = j := rt_stop (by omega)
      rw [decide_eq_true h]
      exact ⟨_, rfl, by rw [← hr, h2]⟩
    · left
      have h2 : g j < j := by omega
      rw [decide_eq_false h]
      exact ⟨_, rfl, ⟨g j, rfl, by omega, by rw [← rt_step h2]; exact hr⟩, by simp; omega⟩) (i : Int) ⟨i, rfl, hi, rfl⟩ (by simp; omega)
  rw [ho, hq]; rfl
def jn2 (g : Nat → Nat) (i k : Nat) : Nat → Nat := fun x => if x = max (rt g i) (rt g k) then min (rt g i) (rt g k) else g x
theorem rt_jn (g : Nat → Nat) (hg : ∀ i, g i ≤ i) (i k : Nat) : ∀ x, rt (jn2 g i k) x = if rt g x = max (rt g i) (rt g k) then min (rt g i) (rt g k) else rt g x := by
  have ra : rt g (rt g i) = rt g i := rt_rt g i
  have rb : rt g (rt g k) = rt g k := rt_rt g k
  have rmx : rt g (max (rt g i) (rt g k)) = max (rt g i) (rt g k) := by
    rcases Nat.le_total (rt g i) (rt g k) with h | h
    · rw [Nat.max_eq_right h]; exact rb
    · rw [Nat.max_eq_left h]; exact ra
  have gmn : ¬ g (min (rt g i) (rt g k)) < min (rt g i) (rt g k) := by
    rcases Nat.le_total (rt g i) (rt g k) with h | h
    · rw [Nat.min_eq_left h]; exact rt_root g i
    · rw [Nat.min_eq_right h]; exact rt_root g k
  have hmm : min (rt g i) (rt g k) ≤ max (rt g i) (rt g k) := by omega
  intro x
  induction x using Nat.strongRecOn with
  | _ x ih =>
    by_cases hx : x = max (rt g i) (rt g k)
    · subst hx
      rw [rmx, if_pos rfl]
      have e : jn2 g i k (max (rt g i) (rt g k)) = min (rt g i) (rt g k) := by simp [jn2]
      by_cases hlt : min (rt g i) (rt g k) < max (rt g i) (rt g k)
      · rw [rt_step (by rw [e]; exact hlt), e]
        refine rt_stop ?_
        have : jn2 g i k (min (rt g i) (rt g k)) = g (min (rt g i) (rt g k)) := by
          unfold jn2; rw [if_neg (by omega)]
        rw [this]; exact gmn
      · have : min (rt g i) (rt g k) = max (rt g i) (rt g k) := by omega
        rw [rt_stop (by rw [e]; exact hlt), this]
    · have e : jn2 g i k x = g x := by unfold jn2; rw [if_neg hx]
      by_cases hlt : g x < x
      · rw [rt_step (by rw [e]; exact hlt), e, ih (g x) hlt, rt_step hlt]
      · rw [rt_stop (by rw [e]; exact hlt), rt_stop hlt, if_neg hx]

/-! ### what hangs together -/
def conn : List (Nat × Nat) → Nat → Nat → Prop
  | [], x, y => x = y
  | (i, k) :: ps, x, y => conn ps x y ∨ (conn ps x i ∧ conn ps y k) ∨ (conn ps x k ∧ conn ps y i)
theorem conn_eqv (ps : List (Nat × Nat)) : (∀ x, conn ps x x) ∧ (∀ x y, conn ps x y → conn ps y x) ∧ (∀ x y z, conn ps x y → conn ps y z → conn ps x z) := by
  induction ps with
  | nil => exact ⟨fun _ => rfl, fun _ _ h => h.symm, fun _ _ _ h h' => h.trans h'⟩
  | cons p ps ih =>
    obtain ⟨i, k⟩ := p
    obtain ⟨r, s, t⟩ := ih
    refine ⟨fun x => .inl (r x), fun x y h => ?_, fun x y z h h' => ?_⟩
    · rcases h with h | ⟨h1, h2⟩ | ⟨h1, h2⟩
      · exact .inl (s _ _ h)
      · exact .inr (.inr ⟨h2, h1⟩)
      · exact .inr (.inl ⟨h2, h1⟩)
    · rcases h with h | ⟨h1, h2⟩ | ⟨h1, h2⟩ <;> rcases h' with h' | ⟨g1, g2⟩ | ⟨g1, g2⟩
      · exact .inl (t _ _ _ h h')
      · exact .inr (.inl ⟨t _ _ _ h g1, g2⟩)
      · exact .inr (.inr ⟨t _ _ _ h g1, g2⟩)
      · exact .inr (.inl ⟨h1, t _ _ _ (s _ _ h') h2⟩)
      · exact .inr (.inl ⟨h1, g2⟩)
      · exact .inl (t _ _ _ h1 (s _ _ g2))
      · exact .inr (.inr ⟨h1, t _ _ _ (s _ _ h') h2⟩)
      · exact .inl (t _ _ _ h1 (s _ _ g2))
      · exact .inr (.inr ⟨h1, g2⟩)
theorem conn_mem : ∀ {ps : List (Nat × Nat)} {p : Nat × Nat}, p ∈ ps → conn ps p.1 p.2
  | q :: ps, p, h => by
    rcases List.mem_cons.1 h with rfl | h
    · exact .inr (.inl ⟨(conn_eqv ps).1 _, (conn_eqv ps).1 _⟩)
    · exact .inl (conn_mem h)
theorem conn_least {ps : List (Nat × Nat)} {E : Nat → Nat → Prop} (r : ∀ x, E x x) (s : ∀ x y, E x y → E y x) (t : ∀ x y z, E x y → E y z → E x z) (hp : ∀ p ∈ ps, E p.1 p.2) : ∀ x y, conn ps x y → E x y := by
  induction ps with
  | nil => intro x y h; have : x = y := h; subst this; exact r x
  | cons p ps ih =>
    obtain ⟨i, k⟩ := p
    have ih := ih fun q hq => hp q (List.mem_cons_of_mem _ hq)
    have hik : E i k := hp (i, k) (by simp)
    intro x y h
    rcases h with h | ⟨h1, h2⟩ | ⟨h1, h2⟩
    · exact ih x y h
    · exact t _ _ _ (ih _ _ h1) (t _ _ _ hik (s _ _ (ih _ _ h2)))
    · exact t _ _ _ (ih _ _ h1) (t _ _ _ (s _ _ hik) (s _ _ (ih _ _ h2)))
theorem conn_same {ps qs : List (Nat × Nat)} (h1 : ∀ p ∈ ps, conn qs p.1 p.2) (h2 : ∀ p ∈ qs, conn ps p.1 p.2) (x y : Nat) : conn ps x y ↔ conn qs x y :=
  ⟨conn_least (conn_eqv qs).1 (conn_eqv qs).2.1 (conn_eqv qs).2.2 h1 x y, conn_least (conn_eqv ps).1 (conn_eqv ps).2.1 (conn_eqv ps).2.2 h2 x y⟩
/-- Two things have the same mark just where they hang together. -/
def Marks (n : Nat) (f : Nat → Nat) (ps : List (Nat × Nat)) : Prop := ∀ x y, x < n → y < n → (f x = f y ↔ conn ps x y)
theorem marks_join {n : Nat} {f f' : Nat → Nat} {ps : List (Nat × Nat)} (h : Marks n f ps) {i k : Nat} (hi : i < n) (hk : k < n) (hf : ∀ x y, x < n → y < n → (f' x = f' y ↔ (f x = f y ∨ (f x = f i ∧ f y = f k) ∨ (f x = f k ∧ f y = f i)))) : Marks n f' ((i, k) :: ps) := by
  intro x y hx hy
  rw [hf x y hx hy, h x y hx hy, h x i hx hi, h y k hy hk, h x k hx hk, h y i hy hi]
  rfl
structure Pool (n : Nat) (g : Nat → Nat) (ps : List (Nat × Nat)) : Prop where
  le : ∀ i, g i ≤ i
  marks : Marks n (rt g) ps
theorem Pool.join {n : Nat} {g : Nat → Nat} {ps : List (Nat × Nat)} (h : Pool n g ps) (hn : n ≤ 1000000) {i k : Nat} (hi : i < n) (hk : k < n) : ∃ g', impl_pool_join.f (lz n g) i k = some (lz n g') ∧ Pool n g' ((i, k) :: ps) := by
  refine ⟨jn2 g i k, ?_, fun x => ?_, marks_join h.marks hi hk fun x y hx hy => ?_⟩
  · unfold impl_pool_join.f
    rw [find_eq' (fun i _ => h.le i) hn hi, find_eq' (fun i _ => h.le i) hn hk]
    simp only [Option.bind_some]
    have h1 := rt_le g i
    have h2 := rt_le g k
    have e1 : (if (rt g k : Int) > (rt g i : Int) then (rt g k : Int) else (rt g i : Int)) = ((max (rt g i) (rt g k) : Nat) : Int) := by split <;> omega
    have e2 : (if (rt g k : Int) < (rt g i : Int) then (rt g k : Int) else (rt g i : Int)) = ((min (rt g i) (rt g k) : Nat) : Int) := by split <;> omega
    rw [e1, e2, lz_length, chk_in (by omega), Int.toNat_natCast, lz_set g (by omega)]
    rfl
  · unfold jn2
    have := h.le x
    split <;> omega
  · rw [rt_jn g h.le, rt_jn g h.le]
    rcases Nat.le_total (rt g i) (rt g k) with hl | hl
    · rw [Nat.max_eq_right hl, Nat.min_eq_left hl]
      split <;> split <;> omega
    · rw [Nat.max_eq_left hl, Nat.min_eq_right hl]
      split <;> split <;> omega
theorem Pool.start (n : Nat) : Pool n id [] := ⟨fun _ => Nat.le_refl _, fun x y _ _ => by
  rw [rt_stop (by simp), rt_stop (by simp)]; rfl⟩
theorem poolOf_eq (n : Nat) (hn : n ≤ 1000000) : impl_poolOf.f n = some (lz n id) := by
  unfold impl_poolOf.f
  have hl := loop1_upto (f := impl_poolOf.b0 n) (fun i => (lz i id, (i : Int))) n (lz n id, (n : Int)) (by omega) (fun i hi => by
    unfold impl_poolOf.b0 impl_pool_add.f
    simp only [dlt_nat, hi, decide_true, cond_true, lz_length]
    rw [small_in (by simp; omega), Option.bind_some, w64_succ (by omega), lz_succ]
    rfl) (by
    unfold impl_poolOf.b0
    simp)
  have hl' : loop1 (impl_poolOf.b0 n) ([], 0) = some (lz n id, (n : Int)) := hl
  rw [hl']; rfl
theorem numbers_eq (n : Nat) (hn : n ≤ 1000000) : spec_l07Numbers.f n = some (lz n id) := by
  unfold spec_l07Numbers.f
  have hl := loop1_upto (f := spec_l07Numbers.b0 n) (fun i => (lz i id, (i : Int))) n (lz n id, (n : Int)) (by omega) (fun i hi => by
    unfold spec_l07Numbers.b0
    simp only [dlt_nat, hi, decide_true, cond_true, lz_length]
    rw [small_in (by simp; omega), w64_succ (by omega), lz_succ]
    rfl) (by
    unfold spec_l07Numbers.b0
    simp)
  have hl' : loop1 (spec_l07Numbers.b0 n) ([], 0) = some (lz n id, (n : Int)) := hl
  rw [hl']; rfl
theorem Marks.start (n : Nat) : Marks n id [] := fun _ _ _ _ => Iff.rfl
theorem Marks.join {n : Nat} {f : Nat → Nat} {ps : List (Nat × Nat)} (h : Marks n f ps) (hn : n ≤ 1000000) {i k : Nat} (hi : i < n) (hk : k < n) : ∃ f', spec_l07Join.f (lz n f) i k = some (lz n f') ∧ Marks n f' ((i, k) :: ps) := by
  refine ⟨fun x => if f x = f k then f i else f x, ?_, marks_join h hi hk fun x y hx hy => ?_⟩
  · unfold spec_l07Join.f spec_l01Own.f
    rw [small_in (by rw [lz_length]; simp; omega), Option.bind_some, lz_length, chk_in (by omega), chk_in (by omega)]
    have hl := loop1_upto (f := spec_l07Join.b0 (lz n f) k i) (fun j => (lz n (fun x => if x < j then (if f x = f k then f i else f x) else f x), (j : Int))) n (lz n (fun x => if f x = f k then f i else f x), (n : Int)) (by omega) (fun j hj => by
      unfold spec_l07Join.b0
      simp only [lz_length, dlt_nat, hj, decide_true, cond_true]
      rw [chk_in (by omega), lz_gt _ hj, lz_gt _ hk, lz_gt _ hi, if_neg (Nat.lt_irrefl j), beq_nat, w64_succ (by omega), Int.toNat_natCast]
      by_cases he : f j = f k
      · rw [decide_eq_true he, cond_true, Option.bind_some, lz_set _ hj]
        congr 3
        refine lz_congr fun x hx => ?_
        by_cases hxj : x = j
        · subst hxj; simp [he]
        · have : x < j ↔ x < j + 1 := by omega
          simp [hxj, this]
      · rw [decide_eq_false he, cond_false, Option.bind_some]
        congr 3
        refine lz_congr fun x hx => ?_
        by_cases hxj : x = j
        · subst hxj; simp [he]
        · have : x < j ↔ x < j + 1 := by omega
          simp [this]) (by
      unfold spec_l07Join.b0
      simp only [lz_length, dlt_nat, Nat.lt_irrefl, decide_false, cond_false]
      congr 3
      refine lz_congr fun x hx => ?_
      simp [hx])
    have e0 : lz n (fun x => if x < 0 then (if f x = f k then f i else f x) else f x) = [] ++ lz n f := by
      rw [List.nil_append]
      exact lz_congr fun x _ => by simp
    have hl' : loop1 (spec_l07Join.b0 (lz n f) k i) ([] ++ lz n f, 0) = some (lz n (fun x => if f x = f k then f i else f x), (n : Int)) := by rw [← e0]; exact hl
    rw [hl']; rfl
  · show ((if f x = f k then f i else f x) = (if f y = f k then f i else f y)) ↔ _
    split <;> split <;> omega
/-- How many pieces. -/
def roots (n : Nat) (p : Nat → Bool) : Nat := (List.range n).countP p
theorem roots_succ (n : Nat) (p : Nat → Bool) : roots (n + 1) p = roots n p + (bif p n then 1 else 0) := by
  unfold roots
  rw [List.range_succ, List.countP_append]
  cases h : p n <;> simp [h]
theorem roots_le (n : Nat) (p : Nat → Bool) : roots n p ≤ n := by have := List.countP_le_length (p := p) (l := List.range n); simpa [roots] using this
def isRoot (g : Nat → Nat) (i : Nat) : Bool := decide (rt g i = i)
def isFirst (f : Nat → Nat) (i : Nat) : Bool := (List.range i).all fun k => decide (f k ≠ f i)
theorem distinct_eq {n : Nat} {g : Nat → Nat} (hg : ∀ i, g i ≤ i) (hn : n ≤ 1000000) : impl_pool_distinct.f (lz n g) = some (roots n (isRoot g) : Int) := by
  unfold impl_pool_distinct.f
  have hl := loop1_upto (f := impl_pool_distinct.b0 (lz n g)) (fun i => ((roots i (isRoot g) : Int), (i : Int))) n ((roots n (isRoot g) : Int), (n : Int)) (by omega) (fun i hi => by
    unfold impl_pool_distinct.b0
    have h1 := roots_le i (isRoot g)
    simp only [lz_length, dlt_nat, hi, decide_true, cond_true]
    rw [find_eq' (fun i _ => hg i) hn hi, Option.bind_some, beq_nat, w64_succ (by omega : i < _), w64_succ (by omega : roots i (isRoot g) < _), roots_succ]
    have : decide (rt g i = i) = isRoot g i := rfl
    rw [this]
    cases isRoot g i <;> rfl) (by
    unfold impl_pool_distinct.b0
    simp [lz_length])
  have hl' : loop1 (impl_pool_distinct.b0 (lz n g)) (0, 0) = some ((roots n (isRoot g) : Int), (n : Int)) := hl
  rw [hl']; rfl
theorem different_eq {n : Nat} {f : Nat → Nat} (hn : n ≤ 1000000) : spec_l07Different.f (lz n f) = some (roots n (isFirst f) : Int) := by
  unfold spec_l07Different.f
  have hl := loop1_upto (f := spec_l07Different.b1 (lz n f)) (fun i => ((roots i (isFirst f) : Int), (i : Int))) n ((roots n (isFirst f) : Int), (n : Int)) (by omega) (fun i hi => by
    unfold spec_l07Different.b1
    have h1 := roots_le i (isFirst f)
    simp only [lz_length, dlt_nat, hi, decide_true, cond_true]
    have hin := loop1_upto (f := spec_l07Different.b0 i (lz n f)) (fun k => ((List.range k).all (fun q => decide (f q ≠ f i)), (k : Int))) i ((List.range i).all (fun q => decide (f q ≠ f i)), (i : Int)) (by omega) (fun k hk => by
      unfold spec_l07Different.b0
      simp only [dlt_nat, hk, decide_true, cond_true]
      rw [lz_length, chk_in (by omega), chk_in (by omega), lz_gt _ (by omega), lz_gt _ hi, w64_succ (by omega), List.range_succ, List.all_append]
      have e : ((f k : Int) != (f i : Int)) = decide (f k ≠ f i) := by rw [bne_nat]; simp
      rw [e]
      cases (List.range k).all (fun q => decide (f q ≠ f i)) <;> simp) (by
      unfold spec_l07Different.b0
      simp)
    have hin' : loop1 (spec_l07Different.b0 i (lz n f)) (true, 0) = some (isFirst f i, (i : Int)) := hin
    rw [hin', Option.bind_some, w64_succ (by omega : i < _), w64_succ (by omega : roots i (isFirst f) < _), roots_succ]
    cases isFirst f i <;> rfl) (by
    unfold spec_l07Different.b1
    simp [lz_length])
  have hl' : loop1 (spec_l07Different.b1 (lz n f)) (0, 0) = some ((roots n (isFirst f) : Int), (n : Int)) := hl
  rw [hl']; rfl
theorem count_same {n : Nat} {g f : Nat → Nat} {ps qs : List (Nat × Nat)} (hp : Pool n g ps) (hm : Marks n f qs) (hc : ∀ x y, conn ps x y ↔ conn qs x y) : roots n (isRoot g) = roots n (isFirst f) := by
  unfold roots
  refine List.countP_congr fun i hi => ?_
  have hi' := List.mem_range.1 hi
  unfold isRoot isFirst
  simp only [decide_eq_true_eq, List.all_eq_true, List.mem_range, ne_eq]
  constructor
  · intro h k hk he
    have h1 := (hm k i (by omega) hi').1 he
    have h2 := (hp.marks k i (by omega) hi').2 ((hc k i).2 h1)
    have := rt_le g k
    omega
  · intro h
    have h1 := rt_le g i
    by_cases hr : rt g i = i
    · exact hr
    · exfalso
      have hlt : rt g i < i := by omega
      refine h (rt g i) hlt ?_
      rw [hm (rt g i) i (by omega) hi', ← hc, ← hp.marks (rt g i) i (by omega) hi']
      exact rt_rt g i
end Go.Proofs.Ytiiljfpbcanphaa.G

/- The vertices of a surface, counted by both. -/
namespace Go.Proofs.Ytiiljfpbcanphaa.G
open Go Go.Sx Go.Proofs
/-- The end, and the beginning, of a side, as things. -/
def endN (x : Int) : Nat := if x > 0 then 2 * x.natAbs - 1 else 2 * x.natAbs - 2
def begN (x : Int) : Nat := if x > 0 then 2 * x.natAbs - 2 else 2 * x.natAbs - 1
theorem ends_eq {m : Nat} (hm : m ≤ 100) {x : Int} (h : entB m x = true) : impl_ends.f x = some (((begN x : Nat) : Int), ((endN x : Nat) : Int)) := by
  unfold impl_ends.f impl_size.f
  rw [size_abs hm h]
  have hle := abs_le h
  unfold entB at h
  simp only [Bool.and_eq_true, decide_eq_true_eq] at h
  have h1 : 1 ≤ x.natAbs := by omega
  simp only [Option.bind_some]
  rw [w64_in (x := (x.natAbs : Int) - 1) (by omega), w64_in (x := 2 * ((x.natAbs : Int) - 1)) (by omega), w64_in (x := 2 * ((x.natAbs : Int) - 1) + 1) (by omega)]
  unfold begN endN
  by_cases hp : x > 0
  · rw [decide_eq_true hp, cond_true, if_pos hp, if_pos hp]
    congr 2 <;> omega
  · rw [decide_eq_false hp, cond_false, if_neg hp, if_neg hp]
    congr 2 <;> omega
theorem end_eq {m : Nat} (hm : m ≤ 100) {x : Int} (h : entB m x = true) : spec_l07End.f x true = some ((endN x : Nat) : Int) ∧ spec_l07End.f x false = some ((begN x : Nat) : Int) := by
  unfold spec_l07End.f
  have hle := abs_le h
  unfold entB at h
  simp only [Bool.and_eq_true, decide_eq_true_eq] at h
  unfold begN endN
  by_cases hp : x > 0
  · rw [decide_eq_false (by omega)]
    simp only [cond_false, Option.bind_some, cond_true]
    rw [w64_in (x := 2 * x) (by omega), w64_in (x := 2 * x - 1) (by omega), w64_in (x := 2 * x - 2) (by omega), if_pos hp, if_pos hp]
    constructor <;> congr 1 <;> omega
  · rw [decide_eq_true (by omega)]
    simp only [cond_true, Option.bind_some, Bool.not_true, Bool.not_false, cond_false]
    rw [w64_in (x := 0 - x) (by omega), w64_in (x := 2 * (0 - x)) (by omega), w64_in (x := 2 * (0 - x) - 1) (by omega), w64_in (x := 2 * (0 - x) - 2) (by omega), if_neg hp, if_neg hp]
    constructor <;> congr 1 <;> omega
theorem end_lt {n m : Nat} (hm : 2 * m = n) {x : Int} (h : entB m x = true) : endN x < n ∧ begN x < n := by
  have hle := abs_le h
  unfold entB at h
  simp only [Bool.and_eq_true, decide_eq_true_eq] at h
  unfold endN begN
  split <;> omega
/-- The pairs that are joined: all of the first i triangles, and j more. -/
def vrow (s : List (List Int)) (i : Nat) : Nat → List (Nat × Nat) → List (Nat × Nat)
  | 0, ps => ps
  | j + 1, ps => (endN (entry s i j), begN (entry s i ((j + 1) % 3))) :: vrow s i j ps
def vall (s : List (List Int)) : Nat → List (Nat × Nat)
  | 0 => []
  | i + 1 => vrow s i 3 (vall s i)
/-- A loop that goes on with something that is there. -/
theorem loop1_ex {σ : Type} {f : σ → Option (LB σ)} (J : Nat → σ → Prop) (Q : σ → Prop) (n : Nat) (hn : n < 1000000) (s : σ) (h0 : J 0 s) (step : ∀ i s, i < n → J i s → ∃ s', f s = some (.next s') ∧ J (i + 1) s') (fin : ∀ s, J n s → ∃ s', f s = some (.brk s') ∧ Q s') : ∃ o, loop1 f s = some o ∧ Q o := by
  have key : ∀ d i s, i + d = n → J i s → ∃ o, loopN (ρ := Empty) (fun s => (f s).map LB.lr) (d + 1) s = some (.brk o) ∧ Q o := by
    intro d
    induction d with
    | zero =>
      intro i s hi hj
      obtain rfl : i = n := by omega
      obtain ⟨s', h1, h2⟩ := fin s hj
      exact ⟨s', by simp only [loopN, h1]; rfl, h2⟩
    | succ d ih =>
      intro i s hi hj
      obtain ⟨s', h1, h2⟩ := step i s (by omega) hj
      obtain ⟨o, ho, hq⟩ := ih (i + 1) s' (by omega) h2
      exact ⟨o, by rw [loopN, h1]; exact ho, hq⟩
  obtain ⟨o, ho, hq⟩ := key n 0 s (by omega) h0
  exact ⟨o, loop1_of (loop_of ho (by omega)), hq⟩
theorem ed2 {n : Nat} (h : n % 2 = 0) : 2 * ed n = 3 * n := by unfold ed; omega
theorem next3 {j : Nat} (hj : j < 3) : Int.tmod (w64 ((j : Int) + 1)) 3 = (((j + 1) % 3 : Nat) : Int) := by
  rw [w64_in (by omega), Int.tmod_eq_emod_of_nonneg (by omega)]; omega
theorem implVert {s : List (List Int)} (h : Surf s) : ∃ g, impl_vertices.f s = some (roots (3 * s.length) (isRoot g) : Int) ∧ Pool (3 * s.length) g (vall s s.length) := by
  have h2 := h.most
  have h3 := h.two
  have he := ed2 h.even
  have hm : ed s.length ≤ 18 := by unfold ed; omega
  unfold impl_vertices.f impl_edgesOf.f
  rw [Option.bind_some, edges_eq (by omega), w64_in (x := 2 * (ed s.length : Int)) (by omega), show (2 * (ed s.length : Int)) = ((3 * s.length : Nat) : Int) by omega, poolOf_eq _ (by omega), Option.bind_some]
  obtain ⟨o, ho, g, hg, hp⟩ := loop1_ex (f := impl_vertices.b1 s) (fun i st => ∃ g, st = (lz (3 * s.length) g, (i : Int)) ∧ Pool (3 * s.length) g (vall s i)) (fun o => ∃ g, o.1 = lz (3 * s.length) g ∧ Pool (3 * s.length) g (vall s s.length)) s.length (by omega) (lz (3 * s.length) id, 0) ⟨id, rfl, Pool.start _⟩
    (by
      rintro i st hi ⟨g, rfl, hp⟩
      unfold impl_vertices.b1
      have hl := (row_entry (h.row i hi) (q := 0) (by omega)).2
      simp only [dlt_nat, hi, decide_true, cond_true]
      rw [chk_in (by omega)]
      obtain ⟨o, ho, g', rfl, hp'⟩ := loop1_ex (f := impl_vertices.b0 s i) (fun j st => ∃ g, st = (lz (3 * s.length) g, (j : Int)) ∧ Pool (3 * s.length) g (vrow s i j (vall s i))) (fun o => ∃ g, o = (lz (3 * s.length) g, 3) ∧ Pool (3 * s.length) g (vrow s i 3 (vall s i))) 3 (by omega) (lz (3 * s.length) g, 0) ⟨g, rfl, hp⟩
        (by
          rintro j st hj ⟨g, rfl, hp⟩
          unfold impl_vertices.b0
          have hj' : decide ((j : Int) < 3) = true := by simp; omega
          have e1 := (row_entry (h.row i hi) hj).1
          have e2 := (row_entry (h.row i hi) (q := (j + 1) % 3) (by omega)).1
          have en1 : gt (gt s (i : Int)) (j : Int) = entry s i j := rfl
          have en2 : gt (gt s (i : Int)) (((j + 1) % 3 : Nat) : Int) = entry s i ((j + 1) % 3) := rfl
          simp only [hl]
          rw [show ((((3 : Nat)) : Int)) = 3 from rfl, hj', cond_true, chk_in (by omega), en1, ends_eq (by omega) e1]
          simp only [Option.bind_some]
          rw [next3 hj, chk_in (by omega), en2, ends_eq (by omega) e2]
          simp only [Option.bind_some]
          obtain ⟨g', hg', hp'⟩ := hp.join (by omega) (i := endN (entry s i j)) (k := begN (entry s i ((j + 1) % 3))) (end_lt he e1).1 (end_lt he e2).2
          rw [hg', Option.bind_some, w64_succ (by omega)]
          exact ⟨_, rfl, g', rfl, hp'⟩)
        (by
          rintro st ⟨g, rfl, hp⟩
          unfold impl_vertices.b0
          simp only [hl]
          exact ⟨_, rfl, g, rfl, hp⟩)
      rw [ho]
      simp only [Option.bind_some]
      rw [w64_succ (by omega)]
      exact ⟨_, rfl, g', rfl, hp'⟩)
    (by
      rintro st ⟨g, rfl, hp⟩
      unfold impl_vertices.b1
      simp only [dlt_nat, Nat.lt_irrefl, decide_false, cond_false]
      exact ⟨_, rfl, g, rfl, hp⟩)
  refine ⟨g, ?_, hp⟩
  rw [ho]
  simp only [Option.bind_some]
  obtain ⟨o1, o2⟩ := o
  simp only at hg
  subst hg
  show (impl_pool_distinct.f (lz (3 * s.length) g)).bind _ = _
  rw [distinct_eq hp.le (by omega)]
  rfl
theorem specVert {s : List (List Int)} (h : Surf s) : ∃ f, spec_l07Vertices.f s = some (roots (3 * s.length) (isFirst f) : Int) ∧ Marks (3 * s.length) f (vall s s.length) := by
  have h2 := h.most
  have h3 := h.two
  have he := ed2 h.even
  have hm : ed s.length ≤ 18 := by unfold ed; omega
  unfold spec_l07Vertices.f
  rw [w64_in (x := (s.length : Int) * 3) (by omega), show ((s.length : Int) * 3) = ((3 * s.length : Nat) : Int) by omega, numbers_eq _ (by omega), Option.bind_some]
  obtain ⟨o, ho, g, hg, hp⟩ := loop1_ex (f := spec_l07Vertices.b1 s) (fun i st => ∃ g, st = (lz (3 * s.length) g, (i : Int)) ∧ Marks (3 * s.length) g (vall s i)) (fun o => ∃ g, o.1 = lz (3 * s.length) g ∧ Marks (3 * s.length) g (vall s s.length)) s.length (by omega) (lz (3 * s.length) id, 0) ⟨id, rfl, Marks.start _⟩
    (by
      rintro i st hi ⟨g, rfl, hp⟩
      unfold spec_l07Vertices.b1
      have hl := (row_entry (h.row i hi) (q := 0) (by omega)).2
      simp only [dlt_nat, hi, decide_true, cond_true]
      obtain ⟨o, ho, g', rfl, hp'⟩ := loop1_ex (f := spec_l07Vertices.b0 i s) (fun j st => ∃ g, st = (lz (3 * s.length) g, (j : Int)) ∧ Marks (3 * s.length) g (vrow s i j (vall s i))) (fun o => ∃ g, o = (lz (3 * s.length) g, 3) ∧ Marks (3 * s.length) g (vrow s i 3 (vall s i))) 3 (by omega) (lz (3 * s.length) g, 0) ⟨g, rfl, hp⟩
        (by
          rintro j st hj ⟨g, rfl, hp⟩
          unfold spec_l07Vertices.b0
          have hj' : decide ((j : Int) < 3) = true := by simp; omega
          have e1 := (row_entry (h.row i hi) hj).1
          have e2 := (row_entry (h.row i hi) (q := (j + 1) % 3) (by omega)).1
          have en1 : gt (gt s (i : Int)) (j : Int) = entry s i j := rfl
          have en2 : gt (gt s (i : Int)) (((j + 1) % 3 : Nat) : Int) = entry s i ((j + 1) % 3) := rfl
          simp only [hj', cond_true]
          rw [chk_in (by omega), chk_in (by omega), en1, (end_eq (by omega) e1).1, Option.bind_some, next3 hj, chk_in (by omega), en2, (end_eq (by omega) e2).2, Option.bind_some]
          obtain ⟨g', hg', hp'⟩ := hp.join (by omega) (i := endN (entry s i j)) (k := begN (entry s i ((j + 1) % 3))) (end_lt he e1).1 (end_lt he e2).2
          rw [hg', Option.bind_some, w64_succ (by omega)]
          exact ⟨_, rfl, g', rfl, hp'⟩)
        (by
          rintro st ⟨g, rfl, hp⟩
          unfold spec_l07Vertices.b0
          exact ⟨_, rfl, g, rfl, hp⟩)
      rw [ho]
      simp only [Option.bind_some]
      rw [w64_succ (by omega)]
      exact ⟨_, rfl, g', rfl, hp'⟩)
    (by
      rintro st ⟨g, rfl, hp⟩
      unfold spec_l07Vertices.b1
      simp only [dlt_nat, Nat.lt_irrefl, decide_false, cond_false]
      exact ⟨_, rfl, g, rfl, hp⟩)
  refine ⟨g, ?_, hp⟩
  rw [ho]
  simp only [Option.bind_some]
  obtain ⟨o1, o2⟩ := o
  simp only at hg
  subst hg
  show (spec_l07Different.f (lz (3 * s.length) g)).bind _ = _
  rw [different_eq (by omega)]
  rfl
theorem vert_same {s : List (List Int)} (h : Surf s) : ∃ v : Nat, v ≤ 36 ∧ impl_vertices.f s = some (v : Int) ∧ spec_l07Vertices.f s = some (v : Int) := by
  obtain ⟨g, h1, h2⟩ := implVert h
  obtain ⟨f, h3, h4⟩ := specVert h
  have h5 := h.most
  have h6 := roots_le (3 * s.length) (isRoot g)
  refine ⟨_, by omega, h1, ?_⟩
  rw [h3, count_same h2 h4 (fun _ _ => Iff.rfl)]
end Go.Proofs.Ytiiljfpbcanphaa.G

/- What a surface is, told by sums over its triangles; triangles that are put in another's place. -/
namespace Go.Proofs.Ytiiljfpbcanphaa.G
open Go Go.Sx Go.Proofs
/-- A sum over the sides of a triangle. -/
def rsl (h : Int → Int) (r : List Int) : Int := h (gt r 0) + h (gt r 1) + h (gt r 2)
/-- .. of a list of triangles. -/
def tl (h : Int → Int) : List (List Int) → Int
  | [] => 0
  | r :: o => rsl h r + tl h o
theorem tl_app (h : Int → Int) : ∀ a b : List (List Int), tl h (a ++ b) = tl h a + tl h b
  | [], b => by simp [tl]
  | r :: a, b => by
    have := tl_app h a b
    simp only [List.cons_append, tl, this]
    omega
theorem gt_suc {α : Type} [Inhabited α] (x : α) (l : List α) (i : Nat) : gt (x :: l) ((i + 1 : Nat) : Int) = gt l (i : Int) := by simp [gt, List.getD]
theorem gt_nil0 {α : Type} [Inhabited α] (x : α) (l : List α) : gt (x :: l) ((0 : Nat) : Int) = x := rfl
theorem tl_set (h : Int → Int) (r : List Int) : ∀ (o : List (List Int)) (i : Nat), i < o.length → tl h (o.set i r) + rsl h (gt o (i : Int)) = tl h o + rsl h r
  | [], i, hi => by simp at hi
  | x :: o, 0, _ => by
    rw [gt_nil0]
    simp only [List.set_cons_zero, tl]
    omega
  | x :: o, i + 1, hi => by
    have := tl_set h r o i (by simpa using hi)
    rw [gt_suc]
    simp only [List.set_cons_succ, tl]
    omega
/-- How often edge k is met; in which direction. -/
def cf (k : Nat) (x : Int) : Int := if x.natAbs = k then 1 else 0
def sf (k : Nat) (x : Int) : Int := if x.natAbs = k then sn x else 0
theorem preP_suc (s : List (List Int)) (n : Nat) : preP s (n + 1) = ((preP s n ++ [(((n : Int), ((0 : Nat) : Int)), entry s n 0)]) ++ [(((n : Int), ((1 : Nat) : Int)), entry s n 1)]) ++ [(((n : Int), ((2 : Nat) : Int)), entry s n 2)] := by
  show preP s n ++ rowP s n 3 = _
  have e : rowP s n 3 = (([] ++ [(((n : Int), ((0 : Nat) : Int)), entry s n 0)]) ++ [(((n : Int), ((1 : Nat) : Int)), entry s n 1)]) ++ [(((n : Int), ((2 : Nat) : Int)), entry s n 2)] := rfl
  rw [e]
  simp
theorem rsl_at (h : Int → Int) (s : List (List Int)) (n : Nat) : rsl h (gt s (n : Int)) = h (entry s n 0) + h (entry s n 1) + h (entry s n 2) := rfl
theorem tl_take (h : Int → Int) (s : List (List Int)) {n : Nat} (hn : n < s.length) : tl h (s.take (n + 1)) = tl h (s.take n) + rsl h (gt s (n : Int)) := by
  have e : gt s (n : Int) = s[n] := by simp [gt, List.getD, hn]
  rw [List.take_add_one, List.getElem?_eq_getElem hn, Option.toList_some, tl_app, e]
  simp [tl]
theorem sdl_tl (s : List (List Int)) (k : Nat) : ∀ n, n ≤ s.length → ((sdl (preP s n) k).length : Int) = tl (cf k) (s.take n)
  | 0, _ => by simp [preP, sdl, tl]
  | n + 1, hn => by
    have ih := sdl_tl s k n (by omega)
    rw [tl_take _ _ (by omega), rsl_at, ← ih, preP_suc, sdl_add, sdl_add, sdl_add]
    unfold cf
    split <;> split <;> split <;> simp <;> omega
theorem sg_tl (s : List (List Int)) (k : Nat) : ∀ n, n ≤ s.length → sg (preP s n) k = tl (sf k) (s.take n)
  | 0, _ => by simp [preP, sg, fl, tl]
  | n + 1, hn => by
    have ih := sg_tl s k n (by omega)
    rw [tl_take _ _ (by omega), rsl_at, ← ih, preP_suc, sg_add, sg_add, sg_add]
    unfold sf
    split <;> split <;> split <;> omega
theorem sdl_all (s : List (List Int)) (k : Nat) : ((sdl (preP s s.length) k).length : Int) = tl (cf k) s := by
  have := sdl_tl s k s.length (Nat.le_refl _)
  rwa [List.take_length] at this
theorem sg_all (s : List (List Int)) (k : Nat) : sg (preP s s.length) k = tl (sf k) s := by
  have := sg_tl s k s.length (Nat.le_refl _)
  rwa [List.take_length] at this
theorem Surf.cnt2 {s : List (List Int)} (S : Surf s) {k : Nat} (h1 : 1 ≤ k) (h2 : k ≤ ed s.length) : tl (cf k) s = 2 := by
  have := S.edge (k - 1) (by omega)
  rw [← sdl_all, show k = k - 1 + 1 by omega, this]
  rfl
theorem surf_mk {s : List (List Int)} (h2 : 2 ≤ s.length) (h12 : s.length ≤ 12) (he : s.length % 2 = 0) (hr : ∀ r ∈ s, rowB (ed s.length) r = true) (hc : ∀ k, 1 ≤ k → k ≤ ed s.length → tl (cf k) s = 2) : Surf s := by
  refine ⟨h2, h12, he, fun i hi => ?_, fun k hk => ?_⟩
  · have e : gt s (i : Int) = s[i] := by simp [gt, List.getD, hi]
    rw [e]; exact hr _ (List.getElem_mem hi)
  · have := hc (k + 1) (by omega) (by omega)
    rw [← sdl_all] at this
    omega
theorem Surf.rowm {s : List (List Int)} (S : Surf s) {r : List Int} (hr : r ∈ s) : rowB (ed s.length) r = true := by
  obtain ⟨i, hi, rfl⟩ := List.getElem_of_mem hr
  have := S.row i hi
  have e : gt s (i : Int) = s[i] := by simp [gt, List.getD, hi]
  rwa [e] at this
theorem orB_iff (s : List (List Int)) : orB s = true ↔ ∀ k, 1 ≤ k → k ≤ ed s.length → tl (sf k) s = 0 := by
  unfold orB
  rw [Bool.not_eq_true', List.any_eq_false]
  constructor
  · intro h k h1 h2
    have := h (k - 1) (List.mem_range.2 (by omega))
    unfold sameE at this
    rw [show k - 1 + 1 = k by omega, sg_all] at this
    simpa using this
  · intro h k hk
    have := h (k + 1) (by omega) (by have := List.mem_range.1 hk; omega)
    unfold sameE
    rw [sg_all, this]
    simp
/-- Nothing is met that is greater than all sides. -/
theorem tl_zero {h : Int → Int} : ∀ {s : List (List Int)}, (∀ r ∈ s, rsl h r = 0) → tl h s = 0
  | [], _ => rfl
  | r :: s, hr => by
    have h1 := hr r (by simp)
    have h2 := tl_zero (h := h) (s := s) (fun q hq => hr q (by simp [hq]))
    simp only [tl, h1, h2]
    rfl
theorem rowB_of {m : Nat} {a b c : Int} (ha : entB m a = true) (hb : entB m b = true) (hc : entB m c = true) : rowB m [a, b, c] = true := by
  unfold rowB
  simp [ha, hb, hc]
theorem entB_mono {m m' : Nat} (h : m ≤ m') {x : Int} (hx : entB m x = true) : entB m' x = true := by
  unfold entB at hx ⊢
  simp only [Bool.and_eq_true, decide_eq_true_eq] at hx ⊢
  omega
theorem rowB_ent {m : Nat} {r : List Int} (hr : rowB m r = true) : ∃ a b c, r = [a, b, c] ∧ entB m a = true ∧ entB m b = true ∧ entB m c = true := by
  unfold rowB at hr
  simp only [Bool.and_eq_true, decide_eq_true_eq, List.all_eq_true] at hr
  match r, hr.1 with
  | [a, b, c], _ => exact ⟨a, b, c, rfl, hr.2 a (by simp), hr.2 b (by simp), hr.2 c (by simp)⟩
theorem rowB_mono {m m' : Nat} (h : m ≤ m') {r : List Int} (hr : rowB m r = true) : rowB m' r = true := by
  obtain ⟨a, b, c, rfl, ha, hb, hc⟩ := rowB_ent hr
  exact rowB_of (entB_mono h ha) (entB_mono h hb) (entB_mono h hc)
end Go.Proofs.Ytiiljfpbcanphaa.G

/- Edges that are flipped, triangles that are split: surfaces again. -/
namespace Go.Proofs.Ytiiljfpbcanphaa.G
open Go Go.Sx Go.Proofs
def flipped (s : List (List Int)) (k : Int) (i x j y : Nat) : List (List Int) :=
  (s.set i [k, entry s i ((x + 2) % 3), entry s j ((y + 1) % 3)]).set j [-k, entry s j ((y + 2) % 3), entry s i ((x + 1) % 3)]
theorem rsl_cyc (h : Int → Int) (s : List (List Int)) (i : Nat) {x : Nat} (hx : x < 3) : rsl h (gt s (i : Int)) = h (entry s i x) + h (entry s i ((x + 1) % 3)) + h (entry s i ((x + 2) % 3)) := by
  rw [rsl_at]
  have : x = 0 ∨ x = 1 ∨ x = 2 := by omega
  rcases this with rfl | rfl | rfl
  · rfl
  · show _ = h (entry s i 1) + h (entry s i 2) + h (entry s i 0)
    omega
  · show _ = h (entry s i 2) + h (entry s i 0) + h (entry s i 1)
    omega
theorem gt_set_ne {α : Type} [Inhabited α] (l : List α) {i j : Nat} (r : α) (h : i ≠ j) : gt (l.set i r) (j : Int) = gt l (j : Int) := by
  simp [gt, List.getD, h]
theorem rsl3 (h : Int → Int) (a b c : Int) : rsl h [a, b, c] = h a + h b + h c := rfl
/-- The edge k lies on two triangles, i forward and j backward. -/
structure Edge (s : List (List Int)) (k : Int) (i x j y : Nat) : Prop where
  hi : i < s.length
  hx : x < 3
  hj : j < s.length
  hy : y < 3
  ne : i ≠ j
  e1 : entry s i x = k
  e2 : entry s j y = -k
theorem flip_tl (h : Int → Int) {s : List (List Int)} {k : Int} {i x j y : Nat} (E : Edge s k i x j y) : tl h (flipped s k i x j y) = tl h s := by
  have t1 := tl_set h [k, entry s i ((x + 2) % 3), entry s j ((y + 1) % 3)] s i E.hi
  have t2 := tl_set h [-k, entry s j ((y + 2) % 3), entry s i ((x + 1) % 3)] (s.set i [k, entry s i ((x + 2) % 3), entry s j ((y + 1) % 3)]) j (by rw [List.length_set]; exact E.hj)
  rw [gt_set_ne _ _ E.ne, rsl_cyc h s j E.hy, E.e2, rsl3] at t2
  rw [rsl_cyc h s i E.hx, E.e1, rsl3] at t1
  unfold flipped
  omega
theorem ent_in {s : List (List Int)} (S : Surf s) {i q : Nat} (hi : i < s.length) : entB (ed s.length) (entry s i (q % 3)) = true := (row_entry (S.row i hi) (Nat.mod_lt q (by omega))).1
theorem flip_surf {s : List (List Int)} (S : Surf s) {k : Int} {i x j y : Nat} (E : Edge s k i x j y) : Surf (flipped s k i x j y) ∧ (orB s = true → orB (flipped s k i x j y) = true) := by
  have hl : (flipped s k i x j y).length = s.length := by unfold flipped; simp
  have hk : entB (ed s.length) k = true := by rw [← E.e1]; exact (row_entry (S.row i E.hi) E.hx).1
  have hk' : entB (ed s.length) (-k) = true := by rw [← E.e2]; exact (row_entry (S.row j E.hj) E.hy).1
  constructor
  · refine surf_mk (by rw [hl]; exact S.two) (by rw [hl]; exact S.most) (by rw [hl]; exact S.even) (fun r hr => ?_) (fun q h1 h2 => ?_)
    · rw [hl]
      unfold flipped at hr
      rcases List.mem_or_eq_of_mem_set hr with hr | rfl
      · rcases List.mem_or_eq_of_mem_set hr with hr | rfl
        · exact S.rowm hr
        · exact rowB_of hk (ent_in S E.hi) (ent_in S E.hj)
      · exact rowB_of hk' (ent_in S E.hj) (ent_in S E.hi)
    · rw [hl] at h2
      rw [flip_tl _ E]
      exact S.cnt2 h1 h2
  · intro h
    rw [orB_iff] at h ⊢
    intro q h1 h2
    rw [hl] at h2
    rw [flip_tl _ E]
    exact h q h1 h2
/-- Triangle i split into three. -/
def split3 (s : List (List Int)) (i : Nat) : List (List Int) :=
  (s.set i [entry s i 0, (ed s.length : Int) + 1, -((ed s.length : Int) + 2)]) ++ [[entry s i 1, (ed s.length : Int) + 3, -((ed s.length : Int) + 1)], [entry s i 2, (ed s.length : Int) + 2, -((ed s.length : Int) + 3)]]
theorem split_tl (h : Int → Int) {s : List (List Int)} {i : Nat} (hi : i < s.length) : tl h (split3 s i) = tl h s + ((h ((ed s.length : Int) + 1) + h (-((ed s.length : Int) + 1))) + (h ((ed s.length : Int) + 2) + h (-((ed s.length : Int) + 2))) + (h ((ed s.length : Int) + 3) + h (-((ed s.length : Int) + 3)))) := by
  have t1 := tl_set h [entry s i 0, (ed s.length : Int) + 1, -((ed s.length : Int) + 2)] s i hi
  rw [rsl_at, rsl3] at t1
  unfold split3
  rw [tl_app]
  simp only [tl, rsl3]
  omega
theorem split_len (s : List (List Int)) (i : Nat) : (split3 s i).length = s.length + 2 := by unfold split3; simp
theorem ed_two {n : Nat} (h : n % 2 = 0) : ed (n + 2) = ed n + 3 := by unfold ed; omega
theorem above (m k : Nat) (hk : m < k) {s : List (List Int)} (hs : ∀ r ∈ s, rowB m r = true) : tl (cf k) s = 0 ∧ tl (sf k) s = 0 := by
  have hz : ∀ x : Int, entB m x = true → ¬ x.natAbs = k := by
    intro x hx
    have := abs_le hx
    omega
  constructor
  · refine tl_zero fun r hr => ?_
    obtain ⟨a, b, c, rfl, ha, hb, hc⟩ := rowB_ent (hs r hr)
    rw [rsl3]
    unfold cf
    rw [if_neg (hz a ha), if_neg (hz b hb), if_neg (hz c hc)]; rfl
  · refine tl_zero fun r hr => ?_
    obtain ⟨a, b, c, rfl, ha, hb, hc⟩ := rowB_ent (hs r hr)
    rw [rsl3]
    unfold sf
    rw [if_neg (hz a ha), if_neg (hz b hb), if_neg (hz c hc)]; rfl
theorem split_surf {s : List (List Int)} (S : Surf s) {i : Nat} (hi : i < s.length) (hn : s.length + 2 ≤ 12) : Surf (split3 s i) ∧ orB (split3 s i) = orB s := by
  have hl := split_len s i
  have he := ed_two S.even
  have h2 := S.two
  have hev := S.even
  have hnew : ∀ t : Nat, 1 ≤ t → t ≤ 3 → entB (ed s.length + 3) ((ed s.length : Int) + t) = true ∧ entB (ed s.length + 3) (-((ed s.length : Int) + t)) = true := by
    intro t h1 h2
    unfold entB
    simp only [Bool.and_eq_true, decide_eq_true_eq]
    omega
  obtain ⟨n1, n1'⟩ := hnew 1 (by omega) (by omega)
  obtain ⟨n2, n2'⟩ := hnew 2 (by omega) (by omega)
  obtain ⟨n3, n3'⟩ := hnew 3 (by omega) (by omega)
  have hs : ∀ r ∈ s, rowB (ed s.length) r = true := fun r hr => S.rowm hr
  have hE : ∀ q : Nat, q < 3 → entB (ed s.length + 3) (entry s i q) = true := fun q hq => entB_mono (by omega) (row_entry (S.row i hi) hq).1
  constructor
  · refine surf_mk (by omega) (by omega) (by omega) (fun r hr => ?_) (fun q h1 h2 => ?_)
    · rw [hl, he]
      unfold split3 at hr
      rcases List.mem_append.1 hr with hr | hr
      · rcases List.mem_or_eq_of_mem_set hr with hr | rfl
        · exact rowB_mono (by omega) (hs r hr)
        · exact rowB_of (hE 0 (by omega)) n1 n2'
      · simp only [List.mem_cons, List.not_mem_nil, or_false] at hr
        rcases hr with rfl | rfl
        · exact rowB_of (hE 1 (by omega)) n3 n1'
        · exact rowB_of (hE 2 (by omega)) n2 n3'
    · rw [hl, he] at h2
      rw [split_tl _ hi]
      by_cases hq : q ≤ ed s.length
      · rw [S.cnt2 h1 hq]
        unfold cf
        rw [if_neg (by omega), if_neg (by omega), if_neg (by omega), if_neg (by omega), if_neg (by omega), if_neg (by omega)]; rfl
      · rw [(above (ed s.length) q (by omega) hs).1]
        unfold cf
        have : q = ed s.length + 1 ∨ q = ed s.length + 2 ∨ q = ed s.length + 3 := by omega
        rcases this with rfl | rfl | rfl
        · rw [if_pos (by omega), if_pos (by omega), if_neg (by omega), if_neg (by omega), if_neg (by omega), if_neg (by omega)]; rfl
        · rw [if_neg (by omega), if_neg (by omega), if_pos (by omega), if_pos (by omega), if_neg (by omega), if_neg (by omega)]; rfl
        · rw [if_neg (by omega), if_neg (by omega), if_neg (by omega), if_neg (by omega), if_pos (by omega), if_pos (by omega)]; rfl
  · rw [Bool.eq_iff_iff, orB_iff, orB_iff, hl, he]
    have hsf : ∀ (q t : Nat), 1 ≤ t → sf q ((ed s.length : Int) + t) + sf q (-((ed s.length : Int) + t)) = 0 := by
      intro q t ht
      unfold sf sn
      by_cases hq : ((ed s.length : Int) + t).natAbs = q
      · rw [if_pos hq, if_pos (by omega), if_pos (by omega), if_neg (by omega)]; rfl
      · rw [if_neg hq, if_neg (by omega)]; rfl
    have key : ∀ q, tl (sf q) (split3 s i) = tl (sf q) s := by
      intro q
      have a1 := hsf q 1 (by omega)
      have a2 := hsf q 2 (by omega)
      have a3 := hsf q 3 (by omega)
      have := split_tl (sf q) (s := s) (i := i) hi
      rw [this]
      have b1 : ((ed s.length : Int) + ((1 : Nat) : Int)) = (ed s.length : Int) + 1 := rfl
      have b2 : ((ed s.length : Int) + ((2 : Nat) : Int)) = (ed s.length : Int) + 2 := rfl
      have b3 : ((ed s.length : Int) + ((3 : Nat) : Int)) = (ed s.length : Int) + 3 := rfl
      rw [b1] at a1
      rw [b2] at a2
      rw [b3] at a3
      rw [a1, a2, a3]
      omega
    constructor
    · intro h q h1 h2
      rw [← key q]; exact h q h1 (by omega)
    · intro h q h1 h2
      rw [key q]
      by_cases hq : q ≤ ed s.length
      · exact h q h1 hq
      · exact (above (ed s.length) q (by omega) hs).2
end Go.Proofs.Ytiiljfpbcanphaa.G

/- How many different marks there are; the vertices of a surface whose edge is flipped, or whose triangle is split. -/
namespace Go.Proofs.Ytiiljfpbcanphaa.G
open Go Go.Sx Go.Proofs
/-- How many different marks. -/
def nd (f : Nat → Nat) : List Nat → Nat
  | [] => 0
  | x :: xs => (bif xs.any (fun y => decide (f y = f x)) then 0 else 1) + nd f xs
theorem any_eq {f : Nat → Nat} {x : Nat} {xs : List Nat} : xs.any (fun y => decide (f y = f x)) = true ↔ ∃ y ∈ xs, f y = f x := by simp
theorem nd_mid (f : Nat → Nat) (x : Nat) (bs : List Nat) : ∀ us : List Nat, nd f (us ++ x :: bs) = nd f (us ++ bs) + (bif (us ++ bs).any (fun y => decide (f y = f x)) then 0 else 1)
  | [] => by simp only [List.nil_append, nd]; omega
  | a :: us => by
    have ih := nd_mid f x bs us
    simp only [List.cons_append, nd, ih, List.any_cons]
    have e1 : (us ++ x :: bs).any (fun y => decide (f y = f a)) = (decide (f x = f a) || (us ++ bs).any (fun y => decide (f y = f a))) := by
      simp only [List.any_append, List.any_cons]
      cases us.any (fun y => decide (f y = f a)) <;> cases decide (f x = f a) <;> simp
    rw [e1]
    by_cases h : f x = f a
    · have h' : f a = f x := h.symm
      rw [h]
      simp only [decide_true, Bool.true_or, cond_true]
      omega
    · have h' : ¬ f a = f x := fun e => h e.symm
      rw [decide_eq_false h, decide_eq_false h', Bool.false_or, Bool.false_or]
      omega
theorem nd_rem {f : Nat → Nat} {x : Nat} {us bs : List Nat} (h : ∃ y ∈ us ++ bs, f y = f x) : nd f (us ++ x :: bs) = nd f (us ++ bs) := by
  rw [nd_mid, any_eq.2 h]; rfl
theorem nd_add {f : Nat → Nat} {x : Nat} {us bs : List Nat} (h : ¬ ∃ y ∈ us ++ bs, f y = f x) : nd f (us ++ x :: bs) = nd f (us ++ bs) + 1 := by
  have : (us ++ bs).any (fun y => decide (f y = f x)) = false := by
    rw [Bool.eq_false_iff]; exact fun hc => h (any_eq.1 hc)
  rw [nd_mid, this]; rfl
theorem nd_congr {f g : Nat → Nat} : ∀ {xs : List Nat}, (∀ x ∈ xs, ∀ y ∈ xs, f x = f y ↔ g x = g y) → nd f xs = nd g xs
  | [], _ => rfl
  | x :: xs, h => by
    have ih := nd_congr (f := f) (g := g) (xs := xs) (fun a ha b hb => h a (by simp [ha]) b (by simp [hb]))
    have e : xs.any (fun y => decide (f y = f x)) = xs.any (fun y => decide (g y = g x)) := by
      rw [Bool.eq_iff_iff, any_eq, any_eq]
      constructor
      · rintro ⟨y, hy, e⟩; exact ⟨y, hy, (h y (by simp [hy]) x (by simp)).1 e⟩
      · rintro ⟨y, hy, e⟩; exact ⟨y, hy, (h y (by simp [hy]) x (by simp)).2 e⟩
    simp only [nd, e, ih]
theorem roots_nd (f : Nat → Nat) : ∀ n, roots n (isFirst f) = nd f (List.range n)
  | 0 => rfl
  | n + 1 => by
    have ih := roots_nd f n
    rw [roots_succ, List.range_succ, ih]
    have := nd_mid f n [] (List.range n)
    rw [List.append_nil] at this
    rw [this]
    congr 1
    unfold isFirst
    have e : (List.range n).all (fun k => decide (f k ≠ f n)) = !(List.range n).any (fun y => decide (f y = f n)) := by
      rw [List.all_eq_not_any_not]
      simp
    rw [e]
    cases (List.range n).any (fun y => decide (f y = f n)) <;> rfl
/-- Something that has a mate is struck. -/
theorem nd_erase {f : Nat → Nat} {x : Nat} {xs : List Nat} (hx : x ∈ xs) (hn : xs.Nodup) (h : ∃ y ∈ xs, y ≠ x ∧ f y = f x) : nd f xs = nd f (xs.erase x) := by
  obtain ⟨us, bs, h1, h2, h3⟩ := List.exists_erase_eq hx
  obtain ⟨y, hy, hne, he⟩ := h
  have hy' : y ∈ xs.erase x := (hn.mem_erase_iff).2 ⟨hne, hy⟩
  rw [h3] at hy' ⊢
  conv => lhs; rw [h2]
  exact nd_rem ⟨y, hy', he⟩
/-- The vertices, told by whatever marks. -/
theorem vert_nd {s : List (List Int)} (S : Surf s) {f : Nat → Nat} (hf : Marks (3 * s.length) f (vall s s.length)) : impl_vertices.f s = some ((nd f (List.range (3 * s.length)) : Nat) : Int) := by
  obtain ⟨g, h1, h2⟩ := implVert S
  rw [h1, count_same h2 hf (fun _ _ => Iff.rfl), roots_nd]
theorem marks_ex {s : List (List Int)} (S : Surf s) : ∃ f, Marks (3 * s.length) f (vall s s.length) := by
  obtain ⟨f, _, h⟩ := specVert S
  exact ⟨f, h⟩
/-- The pairs that are joined. -/
theorem mem_vrow {s : List (List Int)} {i : Nat} {ps : List (Nat × Nat)} {p : Nat × Nat} : p ∈ vrow s i 3 ps ↔ (∃ q : Nat, q < 3 ∧ p = (endN (entry s i q), begN (entry s i ((q + 1) % 3)))) ∨ p ∈ ps := by
  have e : vrow s i 3 ps = (endN (entry s i 2), begN (entry s i 0)) :: (endN (entry s i 1), begN (entry s i 2)) :: (endN (entry s i 0), begN (entry s i 1)) :: ps := rfl
  rw [e]
  simp only [List.mem_cons]
  constructor
  · rintro (h | h | h | h)
    · exact .inl ⟨2, by omega, h⟩
    · exact .inl ⟨1, by omega, h⟩
    · exact .inl ⟨0, by omega, h⟩
    · exact .inr h
  · rintro (⟨q, hq, h⟩ | h)
    · have : q = 0 ∨ q = 1 ∨ q = 2 := by omega
      rcases this with rfl | rfl | rfl
      · exact .inr (.inr (.inl h))
      · exact .inr (.inl h)
      · exact .inl h
    · exact .inr (.inr (.inr h))
theorem mem_vall {s : List (List Int)} {p : Nat × Nat} : ∀ {n}, p ∈ vall s n ↔ ∃ i : Nat, i < n ∧ ∃ q : Nat, q < 3 ∧ p = (endN (entry s i q), begN (entry s i ((q + 1) % 3)))
  | 0 => by
    constructor
    · intro h; cases h
    · rintro ⟨i, hi, _⟩; omega
  | n + 1 => by
    show p ∈ vrow s n 3 (vall s n) ↔ _
    rw [mem_vrow, mem_vall (n := n)]
    constructor
    · rintro (h | ⟨i, hi, h⟩)
      · exact ⟨n, by omega, h⟩
      · exact ⟨i, by omega, h⟩
    · rintro ⟨i, hi, h⟩
      by_cases e : i = n
      · subst e; exact .inl h
      · exact .inr ⟨i, by omega, h⟩
/-- Two things that are joined. -/
def Jn (s : List (List Int)) (x y : Nat) : Prop := conn (vall s s.length) x y
theorem Jn.refl (s) (x : Nat) : Jn s x x := (conn_eqv _).1 x
theorem Jn.symm {s} {x y : Nat} (h : Jn s x y) : Jn s y x := (conn_eqv _).2.1 _ _ h
theorem Jn.trans {s} {x y z : Nat} (h : Jn s x y) (k : Jn s y z) : Jn s x z := (conn_eqv _).2.2 _ _ _ h k
theorem Jn.side {s : List (List Int)} {i q : Nat} (hi : i < s.length) (hq : q < 3) : Jn s (endN (entry s i q)) (begN (entry s i ((q + 1) % 3))) :=
  conn_mem (p := (endN (entry s i q), begN (entry s i ((q + 1) % 3)))) (mem_vall.2 ⟨i, hi, q, hq, rfl⟩)
theorem endN_neg {x : Int} (h : x ≠ 0) : endN (-x) = begN x ∧ begN (-x) = endN x := by
  unfold endN begN
  rw [Int.natAbs_neg]
  by_cases hx : x > 0
  · rw [if_neg (by omega), if_pos hx, if_neg (by omega), if_pos hx]; exact ⟨rfl, rfl⟩
  · rw [if_pos (by omega), if_neg hx, if_pos (by omega), if_neg hx]; exact ⟨rfl, rfl⟩
/-- Two sides of different edges have no end in common. -/
theorem end_ne {x y : Int} (hx : x ≠ 0) (hy : y ≠ 0) (h : x.natAbs ≠ y.natAbs) : endN x ≠ endN y ∧ endN x ≠ begN y ∧ begN x ≠ endN y ∧ begN x ≠ begN y := by
  unfold endN begN
  split <;> split <;> omega
theorem end_beg {x : Int} (hx : x ≠ 0) : endN x ≠ begN x := by
  unfold endN begN
  split <;> omega
end Go.Proofs.Ytiiljfpbcanphaa.G

/- The pieces of a surface, counted by both. -/
namespace Go.Proofs.Ytiiljfpbcanphaa.G
open Go Go.Sx Go.Proofs
theorem into_rowP (s : List (List Int)) (i : Nat) : ∀ {j q : Nat}, q < j → (((i : Int), (q : Int)), entry s i q) ∈ rowP s i j
  | 0, _, h => by omega
  | j + 1, q, h => by
    by_cases hq : q = j
    · subst hq; exact List.mem_append.2 (.inr (by simp))
    · exact List.mem_append.2 (.inl (into_rowP s i (by omega)))
theorem into_preP (s : List (List Int)) : ∀ {n i q : Nat}, i < n → q < 3 → (((i : Int), (q : Int)), entry s i q) ∈ preP s n
  | 0, _, _, h, _ => by omega
  | n + 1, i, q, h, hq => by
    by_cases hi : i = n
    · subst hi; exact List.mem_append.2 (.inr (into_rowP s i hq))
    · exact List.mem_append.2 (.inl (into_preP s (by omega) hq))
/-- The triangles of an edge. -/
def epair (s : List (List Int)) (e : Nat) : Nat × Nat := match fl (preP s s.length) (e + 1) with
  | [p, q] => (p.1.1.toNat, q.1.1.toNat)
  | _ => (0, 0)
def eall (s : List (List Int)) : Nat → List (Nat × Nat)
  | 0 => []
  | e + 1 => epair s e :: eall s e
theorem mem_eall {s : List (List Int)} : ∀ {m} {p : Nat × Nat}, p ∈ eall s m → ∃ e : Nat, e < m ∧ p = epair s e
  | 0, _, h => by cases h
  | m + 1, p, h => by
    rcases List.mem_cons.1 h with rfl | h
    · exact ⟨m, by omega, rfl⟩
    · obtain ⟨e, he, h⟩ := mem_eall h; exact ⟨e, by omega, h⟩
theorem into_eall {s : List (List Int)} : ∀ {m e : Nat}, e < m → epair s e ∈ eall s m
  | 0, _, h => by omega
  | m + 1, e, h => by
    by_cases he : e = m
    · subst he; exact List.mem_cons_self
    · exact List.mem_cons_of_mem _ (into_eall (by omega))
def touchB (s : List (List Int)) (i k : Nat) : Bool := (List.range 3).any fun a => (List.range 3).any fun b => decide ((entry s i a).natAbs = (entry s k b).natAbs)
def trow (s : List (List Int)) (i : Nat) : Nat → List (Nat × Nat) → List (Nat × Nat)
  | 0, ps => ps
  | k + 1, ps => bif touchB s i k then (i, k) :: trow s i k ps else trow s i k ps
def tall (s : List (List Int)) : Nat → List (Nat × Nat)
  | 0 => []
  | i + 1 => trow s i i (tall s i)
theorem mem_trow {s : List (List Int)} {i : Nat} {ps : List (Nat × Nat)} : ∀ {k} {p : Nat × Nat}, p ∈ trow s i k ps → (∃ q : Nat, q < k ∧ touchB s i q = true ∧ p = (i, q)) ∨ p ∈ ps
  | 0, _, h => .inr h
  | k + 1, p, h => by
    unfold trow at h
    cases ht : touchB s i k with
    | false =>
      rw [ht] at h
      rcases mem_trow h with ⟨q, hq, h⟩ | h
      · exact .inl ⟨q, by omega, h⟩
      · exact .inr h
    | true =>
      rw [ht] at h
      rcases List.mem_cons.1 h with rfl | h
      · exact .inl ⟨k, by omega, ht, rfl⟩
      · rcases mem_trow h with ⟨q, hq, h⟩ | h
        · exact .inl ⟨q, by omega, h⟩
        · exact .inr h
theorem into_trow {s : List (List Int)} {i : Nat} {ps : List (Nat × Nat)} : ∀ {k q : Nat}, q < k → touchB s i q = true → (i, q) ∈ trow s i k ps
  | 0, _, h, _ => by omega
  | k + 1, q, h, ht => by
    unfold trow
    by_cases hq : q = k
    · subst hq; rw [ht]; exact List.mem_cons_self
    · have := into_trow (ps := ps) (k := k) (q := q) (by omega) ht
      cases touchB s i k with
      | false => exact this
      | true => exact List.mem_cons_of_mem _ this
theorem old_trow {s : List (List Int)} {i : Nat} {ps : List (Nat × Nat)} {p : Nat × Nat} (hp : p ∈ ps) : ∀ {k : Nat}, p ∈ trow s i k ps
  | 0 => hp
  | k + 1 => by
    unfold trow
    cases touchB s i k with
    | false => exact old_trow hp
    | true => exact List.mem_cons_of_mem _ (old_trow hp)
theorem mem_tall {s : List (List Int)} : ∀ {n} {p : Nat × Nat}, p ∈ tall s n → ∃ i q : Nat, i < n ∧ q < i ∧ touchB s i q = true ∧ p = (i, q)
  | 0, _, h => by cases h
  | n + 1, p, h => by
    rcases mem_trow h with ⟨q, hq, ht, rfl⟩ | h
    · exact ⟨n, q, by omega, hq, ht, rfl⟩
    · obtain ⟨i, q, hi, h⟩ := mem_tall h; exact ⟨i, q, by omega, h⟩
theorem into_tall {s : List (List Int)} : ∀ {n i q : Nat}, i < n → q < i → touchB s i q = true → (i, q) ∈ tall s n
  | 0, _, _, h, _, _ => by omega
  | n + 1, i, q, h, hq, ht => by
    by_cases hi : i = n
    · subst hi; exact into_trow hq ht
    · exact old_trow (into_tall (by omega) hq ht)
theorem touch_iff {s : List (List Int)} {i k : Nat} : touchB s i k = true ↔ ∃ a b : Nat, a < 3 ∧ b < 3 ∧ (entry s i a).natAbs = (entry s k b).natAbs := by
  unfold touchB
  rw [List.any_eq_true]
  constructor
  · rintro ⟨a, ha, h⟩
    obtain ⟨b, hb, h⟩ := List.any_eq_true.1 h
    exact ⟨a, b, List.mem_range.1 ha, List.mem_range.1 hb, by simpa using h⟩
  · rintro ⟨a, b, ha, hb, h⟩
    exact ⟨a, List.mem_range.2 ha, List.any_eq_true.2 ⟨b, List.mem_range.2 hb, by simpa using h⟩⟩
theorem touch_symm {s : List (List Int)} {i k : Nat} (h : touchB s i k = true) : touchB s k i = true := by
  obtain ⟨a, b, ha, hb, e⟩ := touch_iff.1 h
  exact touch_iff.2 ⟨b, a, hb, ha, e.symm⟩
theorem pieces_conn {s : List (List Int)} (h : Surf s) (x y : Nat) : conn (eall s (ed s.length)) x y ↔ conn (tall s s.length) x y := by
  refine conn_same ?_ ?_ x y
  · intro p hp
    obtain ⟨e, he, rfl⟩ := mem_eall hp
    obtain ⟨p, q, hf, hp, hq, ap, aq⟩ := h.edge2 he
    obtain ⟨i, a, hi, ha, rfl⟩ := mem_preP hp
    obtain ⟨j, b, hj, hb, rfl⟩ := mem_preP hq
    have e1 : epair s e = (i, j) := by
      unfold epair; rw [hf]; simp
    rw [e1]
    simp only at ap aq
    have ht : touchB s i j = true := touch_iff.2 ⟨a, b, ha, hb, by omega⟩
    rcases Nat.lt_trichotomy i j with hlt | heq | hgt
    · exact (conn_eqv _).2.1 _ _ (conn_mem (into_tall hj hlt (touch_symm ht)))
    · subst heq; exact (conn_eqv _).1 _
    · exact conn_mem (into_tall hi hgt ht)
  · intro p hp
    obtain ⟨i, k, hi, hk, ht, rfl⟩ := mem_tall hp
    obtain ⟨a, b, ha, hb, hab⟩ := touch_iff.1 ht
    have hen := (row_entry (h.row i hi) ha).1
    have hle := abs_le hen
    unfold entB at hen
    simp only [Bool.and_eq_true, decide_eq_true_eq] at hen
    obtain ⟨e, he⟩ : ∃ e, (entry s i a).natAbs = e + 1 := ⟨(entry s i a).natAbs - 1, by omega⟩
    obtain ⟨p, q, hf, _, _, _, _⟩ := h.edge2 (k := e) (by omega)
    have m1 : ((((i : Int), (a : Int)), entry s i a) : Side) ∈ fl (preP s s.length) (e + 1) := by
      unfold fl; rw [List.mem_filter]; exact ⟨into_preP s hi ha, by simpa using he⟩
    have m2 : ((((k : Int), (b : Int)), entry s k b) : Side) ∈ fl (preP s s.length) (e + 1) := by
      unfold fl; rw [List.mem_filter]; exact ⟨into_preP s (by omega) hb, by simp only [beq_iff_eq]; omega⟩
    rw [hf] at m1 m2
    simp only [List.mem_cons, List.not_mem_nil, or_false] at m1 m2
    have hmem := into_eall (s := s) (m := ed s.length) (e := e) (by omega)
    have hc := conn_mem hmem
    rcases m1 with rfl | rfl <;> rcases m2 with m2 | m2
    · exfalso
      have := congrArg (fun z : Side => z.1.1) m2
      simp only at this; omega
    · subst m2
      have e1 : epair s e = (i, k) := by unfold epair; rw [hf]; simp
      rw [e1] at hc; exact hc
    · subst m2
      have e1 : epair s e = (k, i) := by unfold epair; rw [hf]; simp
      rw [e1] at hc; exact (conn_eqv _).2.1 _ _ hc
    · exfalso
      have := congrArg (fun z : Side => z.1.1) m2
      simp only at this; omega
theorem implPieces {s : List (List Int)} (h : Surf s) : ∃ g, impl_pieces.f s = some (roots s.length (isRoot g) : Int) ∧ Pool s.length g (eall s (ed s.length)) := by
  have h2 := h.most
  have hm : ed s.length ≤ 18 := by unfold ed; omega
  unfold impl_pieces.f
  rw [poolOf_eq _ (by omega), Option.bind_some, sides_eq (by omega) h.row, Option.bind_some]
  have e4 : (decide (0 ≤ 1) && decide (1 ≤ ((tab (ed s.length) (preP s s.length)).length : Int)) && decide (((tab (ed s.length) (preP s s.length)).length : Int) ≤ ((tab (ed s.length) (preP s s.length)).length : Int))) = true := by
    rw [tab_length]; simp; omega
  rw [e4]
  simp only [grd, cond_true]
  obtain ⟨o, ho, g, hg, hp⟩ := loop1_ex (f := impl_pieces.b0 (tab (ed s.length) (preP s s.length))) (fun e st => ∃ g, st = (lz s.length g, (e : Int)) ∧ Pool s.length g (eall s e)) (fun o => ∃ g, o.1 = lz s.length g ∧ Pool s.length g (eall s (ed s.length))) (ed s.length) (by omega) (lz s.length id, 0) ⟨id, rfl, Pool.start _⟩
    (by
      rintro e st he ⟨g, rfl, hp⟩
      unfold impl_pieces.b0
      rw [drop_tab]
      have hlen : ((List.range (ed s.length)).map fun k => sdl (preP s s.length) (k + 1)).length = ed s.length := by simp
      have hgt : gt ((List.range (ed s.length)).map fun k => sdl (preP s s.length) (k + 1)) (e : Int) = sdl (preP s s.length) (e + 1) := by
        rw [gt_at (by rw [hlen]; exact he)]; simp
      obtain ⟨p, q, hf, hpp, hqq, ap, aq⟩ := h.edge2 he
      obtain ⟨i, a, hi, ha, rfl⟩ := mem_preP hpp
      obtain ⟨j, b, hj, hb, rfl⟩ := mem_preP hqq
      have e0 : sdl (preP s s.length) (e + 1) = [((i : Int), (a : Int)), ((j : Int), (b : Int))] := by rw [sdl_fl, hf]; rfl
      have e1 : epair s e = (i, j) := by unfold epair; rw [hf]; simp
      simp only [hlen, dlt_nat, he, decide_true, cond_true, hgt, e0]
      have g0 : gt [((i : Int), (a : Int)), ((j : Int), (b : Int))] 0 = ((i : Int), (a : Int)) := rfl
      have g1 : gt [((i : Int), (a : Int)), ((j : Int), (b : Int))] 1 = ((j : Int), (b : Int)) := rfl
      rw [chk_in (by omega), chk_in (by simp), chk_in (by simp), g0, g1]
      obtain ⟨g', hg', hp'⟩ := hp.join (by omega) hi hj
      simp only
      rw [hg', Option.bind_some, w64_succ (by omega)]
      exact ⟨_, rfl, g', rfl, by simp only [eall]; rw [e1]; exact hp'⟩)
    (by
      rintro st ⟨g, rfl, hp⟩
      unfold impl_pieces.b0
      rw [drop_tab]
      have hlen : ((List.range (ed s.length)).map fun k => sdl (preP s s.length) (k + 1)).length = ed s.length := by simp
      simp only [hlen, dlt_nat, Nat.lt_irrefl, decide_false, cond_false]
      exact ⟨_, rfl, g, rfl, hp⟩)
  refine ⟨g, ?_, hp⟩
  rw [ho]
  simp only [Option.bind_some]
  obtain ⟨o1, o2⟩ := o
  simp only at hg
  subst hg
  show (impl_pool_distinct.f (lz s.length g)).bind _ = _
  rw [distinct_eq hp.le (by omega)]
  rfl
theorem touch_eq {s : List (List Int)} (h : Surf s) {i k : Nat} (hi : i < s.length) (hk : k < s.length) : ∃ b, spec_l07Touch.f (gt s (i : Int)) (gt s (k : Int)) = some (touchB s i k, b) := by
  have h2 := h.most
  have hm : ed s.length ≤ 18 := by unfold ed; omega
  have li := (row_entry (h.row i hi) (q := 0) (by omega)).2
  have lk := (row_entry (h.row k hk) (q := 0) (by omega)).2
  unfold spec_l07Touch.f
  obtain ⟨o, ho, b, hb⟩ := loop1_ex (f := spec_l07Touch.b1 (gt s (i : Int)) (gt s (k : Int))) (fun a st => ∃ b, st = ((List.range a).any (fun a => (List.range 3).any fun b => decide ((entry s i a).natAbs = (entry s k b).natAbs)), b, (a : Int))) (fun o => ∃ b, o = (touchB s i k, b, 3)) 3 (by omega) (false, false, 0) ⟨false, rfl⟩
    (by
      rintro a st ha ⟨b, rfl⟩
      unfold spec_l07Touch.b1
      have ha' : decide ((a : Int) < 3) = true := by simp; omega
      simp only [ha', cond_true]
      obtain ⟨o, ho, c, rfl⟩ := loop1_ex (f := spec_l07Touch.b0 a (gt s (i : Int)) (gt s (k : Int))) (fun b st => ∃ c, st = ((List.range a).any (fun a => (List.range 3).any fun b => decide ((entry s i a).natAbs = (entry s k b).natAbs)) || (List.range b).any (fun b => decide ((entry s i a).natAbs = (entry s k b).natAbs)), c, (b : Int)))
        (fun o => ∃ c, o = ((List.range (a + 1)).any (fun a => (List.range 3).any fun b => decide ((entry s i a).natAbs = (entry s k b).natAbs)), c, 3)) 3 (by omega) ((List.range a).any (fun a => (List.range 3).any fun b => decide ((entry s i a).natAbs = (entry s k b).natAbs)), b, 0) ⟨b, by simp⟩
        (by
          rintro b st hb ⟨c, rfl⟩
          unfold spec_l07Touch.b0 spec_l07Edge.f
          have hb' : decide ((b : Int) < 3) = true := by simp; omega
          have en1 : gt (gt s (i : Int)) (a : Int) = entry s i a := rfl
          have en2 : gt (gt s (k : Int)) (b : Int) = entry s k b := rfl
          simp only [hb', cond_true]
          rw [chk_in (by omega), Option.bind_some, chk_in (by omega), Option.bind_some, en1, en2, size_abs (m := ed s.length) (by omega) (row_entry (h.row i hi) ha).1, size_abs (m := ed s.length) (by omega) (row_entry (h.row k hk) hb).1, beq_nat, w64_succ (by omega)]
          have hr : (List.range (b + 1)).any (fun b => decide ((entry s i a).natAbs = (entry s k b).natAbs)) = ((List.range b).any (fun b => decide ((entry s i a).natAbs = (entry s k b).natAbs)) || decide ((entry s i a).natAbs = (entry s k b).natAbs)) := by
            rw [List.range_succ, List.any_append]; simp
          rw [hr]
          cases decide ((entry s i a).natAbs = (entry s k b).natAbs) with
          | false => exact ⟨_, rfl, c, by simp⟩
          | true =>
            cases c with
            | false => exact ⟨_, rfl, _, by simp; rfl⟩
            | true => exact ⟨_, rfl, true, by simp⟩)
        (by
          rintro st ⟨c, rfl⟩
          unfold spec_l07Touch.b0
          refine ⟨_, rfl, c, ?_⟩
          have hF : ∀ F : Nat → Bool, (List.range (a + 1)).any F = ((List.range a).any F || F a) := fun F => by rw [List.range_succ, List.any_append]; simp
          rw [hF]
          rfl)
      rw [ho]
      simp only [Option.bind_some]
      rw [w64_succ (by omega)]
      exact ⟨_, rfl, c, rfl⟩)
    (by
      rintro st ⟨b, rfl⟩
      unfold spec_l07Touch.b1
      exact ⟨_, rfl, b, rfl⟩)
  subst hb
  rw [ho]
  exact ⟨b, rfl⟩
theorem specPieces {s : List (List Int)} (h : Surf s) : ∃ f, spec_l07Pieces.f s = some (lz s.length f) ∧ Marks s.length f (tall s s.length) := by
  have h2 := h.most
  unfold spec_l07Pieces.f
  rw [numbers_eq _ (by omega), Option.bind_some]
  obtain ⟨o, ho, g, hg, hp⟩ := loop1_ex (f := spec_l07Pieces.b1 s) (fun i st => ∃ g, st = (lz s.length g, (i : Int)) ∧ Marks s.length g (tall s i)) (fun o => ∃ g, o.1 = lz s.length g ∧ Marks s.length g (tall s s.length)) s.length (by omega) (lz s.length id, 0) ⟨id, rfl, Marks.start _⟩
    (by
      rintro i st hi ⟨g, rfl, hp⟩
      unfold spec_l07Pieces.b1
      simp only [dlt_nat, hi, decide_true, cond_true]
      obtain ⟨o, ho, g', rfl, hp'⟩ := loop1_ex (f := spec_l07Pieces.b0 i s) (fun k st => ∃ g, st = (lz s.length g, (k : Int)) ∧ Marks s.length g (trow s i k (tall s i))) (fun o => ∃ g, o = (lz s.length g, (i : Int)) ∧ Marks s.length g (trow s i i (tall s i))) i (by omega) (lz s.length g, 0) ⟨g, rfl, hp⟩
        (by
          rintro k st hk ⟨g, rfl, hp⟩
          unfold spec_l07Pieces.b0
          simp only [dlt_nat, hk, decide_true, cond_true]
          rw [chk_in (by omega), chk_in (by omega)]
          obtain ⟨b, hb⟩ := touch_eq h hi (k := k) (by omega)
          rw [hb]
          simp only [Option.bind_some]
          rw [w64_succ (by omega)]
          cases ht : touchB s i k with
          | false => exact ⟨_, rfl, g, rfl, by simp only [trow]; rw [ht]; exact hp⟩
          | true =>
            obtain ⟨g', hg', hp'⟩ := hp.join (by omega) hi (k := k) (by omega)
            simp only [cond_true]
            rw [hg']
            exact ⟨_, rfl, g', rfl, by simp only [trow]; rw [ht]; exact hp'⟩)
        (by
          rintro st ⟨g, rfl, hp⟩
          unfold spec_l07Pieces.b0
          simp only [dlt_nat, Nat.lt_irrefl, decide_false, cond_false]
          exact ⟨_, rfl, g, rfl, hp⟩)
      rw [ho]
      simp only [Option.bind_some]
      rw [w64_succ (by omega)]
      exact ⟨_, rfl, g', rfl, hp'⟩)
    (by
      rintro st ⟨g, rfl, hp⟩
      unfold spec_l07Pieces.b1
      simp only [dlt_nat, Nat.lt_irrefl, decide_false, cond_false]
      exact ⟨_, rfl, g, rfl, hp⟩)
  refine ⟨g, ?_, hp⟩
  rw [ho]
  obtain ⟨o1, o2⟩ := o
  simp only at hg
  subst hg
  rfl
theorem piece_same {s : List (List Int)} (h : Surf s) : ∃ (v : Nat) (l : List Int), v ≤ 12 ∧ impl_pieces.f s = some (v : Int) ∧ spec_l07Pieces.f s = some l ∧ spec_l07Different.f l = some (v : Int) := by
  obtain ⟨g, h1, h2⟩ := implPieces h
  obtain ⟨f, h3, h4⟩ := specPieces h
  have h5 := h.most
  have h6 := roots_le s.length (isRoot g)
  refine ⟨_, _, by omega, h1, h3, ?_⟩
  rw [different_eq (by omega), count_same h2 h4 (pieces_conn h)]
end Go.Proofs.Ytiiljfpbcanphaa.G

/- A flip keeps how many vertices there are. -/
namespace Go.Proofs.Ytiiljfpbcanphaa.G
open Go Go.Sx Go.Proofs
theorem ent_ne0 {m : Nat} {x : Int} (h : entB m x = true) : x ≠ 0 := by
  unfold entB at h
  simp only [Bool.and_eq_true, decide_eq_true_eq] at h
  exact h.1.1
/-- An edge lies on its two places alone. -/
theorem edge_only {s : List (List Int)} (S : Surf s) {k : Int} {i x j y : Nat} (E : Edge s k i x j y) {a q : Nat} (ha : a < s.length) (hq : q < 3) (h : (entry s a q).natAbs = k.natAbs) : (a = i ∧ q = x) ∨ (a = j ∧ q = y) := by
  have hk := (row_entry (S.row i E.hi) E.hx).1
  rw [E.e1] at hk
  have h0 := ent_ne0 hk
  have hle := abs_le hk
  obtain ⟨u, v, hf, hu, hv, au, av⟩ := S.edge2 (k := k.natAbs - 1) (by omega)
  rw [show k.natAbs - 1 + 1 = k.natAbs by omega] at hf au av
  have key : ∀ a q : Nat, a < s.length → q < 3 → (entry s a q).natAbs = k.natAbs → ((((a : Int), (q : Int)), entry s a q) : Side) = u ∨ ((((a : Int), (q : Int)), entry s a q) : Side) = v := by
    intro a q ha hq h
    have hm : ((((a : Int), (q : Int)), entry s a q) : Side) ∈ fl (preP s s.length) k.natAbs := by
      unfold fl
      rw [List.mem_filter]
      exact ⟨into_preP s ha hq, by simpa using h⟩
    rw [hf] at hm
    simpa using hm
  have h1 := key i x E.hi E.hx (by rw [E.e1])
  have h2 := key j y E.hj E.hy (by rw [E.e2, Int.natAbs_neg])
  have h3 := key a q ha hq h
  have hne := E.ne
  have pos : ∀ {a q b r : Nat} {u : Side}, ((((a : Int), (q : Int)), entry s a q) : Side) = u → ((((b : Int), (r : Int)), entry s b r) : Side) = u → a = b ∧ q = r := by
    intro a q b r u h1 h2
    have := h1.trans h2.symm
    simp only [Prod.mk.injEq] at this
    omega
  rcases h1 with h1 | h1 <;> rcases h2 with h2 | h2 <;> rcases h3 with h3 | h3
  · exact absurd (pos h1 h2).1 hne
  · exact absurd (pos h1 h2).1 hne
  · exact .inl (pos h3 h1)
  · exact .inr (pos h3 h2)
  · exact .inr (pos h3 h2)
  · exact .inl (pos h3 h1)
  · exact absurd (pos h1 h2).1 hne
  · exact absurd (pos h1 h2).1 hne
theorem gt_set_eq {α : Type} [Inhabited α] (l : List α) {i : Nat} (r : α) (h : i < l.length) : gt (l.set i r) (i : Int) = r := by simp [gt, List.getD, h]
/-- The two ends of an edge, put elsewhere. -/
def ph (k : Int) (A B u : Nat) : Nat := if u = begN k then A else if u = endN k then B else u
theorem ph_p (k : Int) (A B : Nat) : ph k A B (begN k) = A := if_pos rfl
theorem ph_q {k : Int} (h : endN k ≠ begN k) (A B : Nat) : ph k A B (endN k) = B := by unfold ph; rw [if_neg h, if_pos rfl]
theorem ph_o {k : Int} {u : Nat} (h1 : u ≠ begN k) (h2 : u ≠ endN k) (A B : Nat) : ph k A B u = u := by unfold ph; rw [if_neg h1, if_neg h2]
section
variable {s : List (List Int)} (S : Surf s) {k : Int} {i x j y : Nat} (E : Edge s k i x j y)
include S E
omit S in
theorem flip_row (a : Nat) : gt (flipped s k i x j y) (a : Int) = if a = j then [-k, entry s j ((y + 2) % 3), entry s i ((x + 1) % 3)] else if a = i then [k, entry s i ((x + 2) % 3), entry s j ((y + 1) % 3)] else gt s (a : Int) := by
  unfold flipped
  by_cases h1 : a = j
  · subst h1
    rw [if_pos rfl, gt_set_eq _ _ (by rw [List.length_set]; exact E.hj)]
  · rw [if_neg h1, gt_set_ne _ _ (fun e => h1 e.symm)]
    by_cases h2 : a = i
    · subst h2
      rw [if_pos rfl, gt_set_eq _ _ E.hi]
    · rw [if_neg h2, gt_set_ne _ _ (fun e => h2 e.symm)]
theorem not_k {a q : Nat} (ha : a < s.length) (hq : q < 3) (h1 : ¬ (a = i ∧ q = x)) (h2 : ¬ (a = j ∧ q = y)) : entry s a q ≠ 0 ∧ (entry s a q).natAbs ≠ k.natAbs := by
  refine ⟨ent_ne0 (row_entry (S.row a ha) hq).1, fun h => ?_⟩
  rcases edge_only S E ha hq h with h | h
  · exact h1 h
  · exact h2 h
theorem k_ne0 : k ≠ 0 := by
  have hk := (row_entry (S.row i E.hi) E.hx).1
  rw [E.e1] at hk
  exact ent_ne0 hk
/-- What is joined behind the flip was joined before. -/
theorem flip_to {u v : Nat} (hu : u ≠ begN k ∧ u ≠ endN k) (hv : v ≠ begN k ∧ v ≠ endN k) (h : Jn (flipped s k i x j y) u v) : Jn s u v := by
  have hx := E.hx
  have hy := E.hy
  have hne := E.ne
  have h0 := k_ne0 S E
  have hpq := end_beg h0
  obtain ⟨n1, n2⟩ := endN_neg h0
  obtain ⟨b0, bk⟩ := not_k S E (a := i) (q := (x + 1) % 3) E.hi (by omega) (by omega) (by omega)
  obtain ⟨c0, ck⟩ := not_k S E (a := i) (q := (x + 2) % 3) E.hi (by omega) (by omega) (by omega)
  obtain ⟨d0, dk⟩ := not_k S E (a := j) (q := (y + 1) % 3) E.hj (by omega) (by omega) (by omega)
  obtain ⟨e0, ek⟩ := not_k S E (a := j) (q := (y + 2) % 3) E.hj (by omega) (by omega) (by omega)
  have s1 := Jn.side (s := s) (i := i) (q := x) E.hi E.hx
  have s2 := Jn.side (s := s) (i := i) (q := (x + 1) % 3) E.hi (by omega)
  have s3 := Jn.side (s := s) (i := i) (q := (x + 2) % 3) E.hi (by omega)
  have s4 := Jn.side (s := s) (i := j) (q := y) E.hj E.hy
  have s5 := Jn.side (s := s) (i := j) (q := (y + 1) % 3) E.hj (by omega)
  have s6 := Jn.side (s := s) (i := j) (q := (y + 2) % 3) E.hj (by omega)
  rw [show ((x + 1) % 3 + 1) % 3 = (x + 2) % 3 by omega] at s2
  rw [show ((x + 2) % 3 + 1) % 3 = x by omega, E.e1] at s3
  rw [E.e1] at s1
  rw [show ((y + 1) % 3 + 1) % 3 = (y + 2) % 3 by omega] at s5
  rw [show ((y + 2) % 3 + 1) % 3 = y by omega, E.e2, n2] at s6
  rw [E.e2, n1] at s4
  obtain ⟨bb1, bb2, bb3, bb4⟩ := end_ne b0 h0 bk
  obtain ⟨cc1, cc2, cc3, cc4⟩ := end_ne c0 h0 ck
  obtain ⟨dd1, dd2, dd3, dd4⟩ := end_ne d0 h0 dk
  obtain ⟨ee1, ee2, ee3, ee4⟩ := end_ne e0 h0 ek
  have hrow := flip_row E
  have hlen : (flipped s k i x j y).length = s.length := by unfold flipped; simp
  generalize hb : entry s i ((x + 1) % 3) = b at *
  generalize hc : entry s i ((x + 2) % 3) = c at *
  generalize hd : entry s j ((y + 1) % 3) = d at *
  generalize he : entry s j ((y + 2) % 3) = e at *
  generalize ht : flipped s k i x j y = t at *
  have key : ∀ u v, Jn t u v → Jn s (ph k (endN d) (begN c) u) (ph k (endN d) (begN c) v) := by
    refine conn_least (E := fun u v => Jn s (ph k (endN d) (begN c) u) (ph k (endN d) (begN c) v)) (fun _ => Jn.refl _ _) (fun _ _ h => h.symm) (fun _ _ _ h h' => h.trans h') ?_
    intro p hp
    obtain ⟨a, ha, q, hq, rfl⟩ := mem_vall.1 hp
    have hal : a < s.length := by omega
    have hra := hrow a
    by_cases haj : a = j
    · subst haj
      rw [if_pos rfl] at hra
      have t0 : entry t a 0 = -k := by unfold entry; rw [hra]; rfl
      have t1 : entry t a 1 = e := by unfold entry; rw [hra]; rfl
      have t2 : entry t a 2 = b := by unfold entry; rw [hra]; rfl
      have : q = 0 ∨ q = 1 ∨ q = 2 := by omega
      rcases this with rfl | rfl | rfl
      · show Jn s (ph k (endN d) (begN c) (endN (entry t a 0))) (ph k (endN d) (begN c) (begN (entry t a 1)))
        rw [t0, t1, n1, ph_p, ph_o ee4 ee3]
        exact s5
      · show Jn s (ph k (endN d) (begN c) (endN (entry t a 1))) (ph k (endN d) (begN c) (begN (entry t a 2)))
        rw [t1, t2, ph_o ee2 ee1, ph_o bb4 bb3]
        exact s6.trans s1
      · show Jn s (ph k (endN d) (begN c) (endN (entry t a 2))) (ph k (endN d) (begN c) (begN (entry t a 0)))
        rw [t2, t0, n2, ph_o bb2 bb1, ph_q hpq]
        exact s2
    · rw [if_neg haj] at hra
      by_cases hai : a = i
      · subst hai
        rw [if_pos rfl] at hra
        have t0 : entry t a 0 = k := by unfold entry; rw [hra]; rfl
        have t1 : entry t a 1 = c := by unfold entry; rw [hra]; rfl
        have t2 : entry t a 2 = d := by unfold entry; rw [hra]; rfl
        have : q = 0 ∨ q = 1 ∨ q = 2 := by omega
        rcases this with rfl | rfl | rfl
        · show Jn s (ph k (endN d) (begN c) (endN (entry t a 0))) (ph k (endN d) (begN c) (begN (entry t a 1)))
          rw [t0, t1, ph_q hpq, ph_o cc4 cc3]
          exact Jn.refl _ _
        · show Jn s (ph k (endN d) (begN c) (endN (entry t a 1))) (ph k (endN d) (begN c) (begN (entry t a 2)))
          rw [t1, t2, ph_o cc2 cc1, ph_o dd4 dd3]
          exact s3.trans s4
        · show Jn s (ph k (endN d) (begN c) (endN (entry t a 2))) (ph k (endN d) (begN c) (begN (entry t a 0)))
          rw [t2, t0, ph_p, ph_o dd2 dd1]
          exact Jn.refl _ _
      · rw [if_neg hai] at hra
        have en : ∀ q : Nat, entry t a q = entry s a q := fun q => by unfold entry; rw [hra]
        obtain ⟨z0, zk⟩ := not_k S E (a := a) (q := q) hal hq (fun h => hai h.1) (fun h => haj h.1)
        obtain ⟨w0, wk⟩ := not_k S E (a := a) (q := (q + 1) % 3) hal (by omega) (fun h => hai h.1) (fun h => haj h.1)
        obtain ⟨z1, z2, z3, z4⟩ := end_ne z0 h0 zk
        obtain ⟨w1, w2, w3, w4⟩ := end_ne w0 h0 wk
        show Jn s (ph k (endN d) (begN c) (endN (entry t a q))) (ph k (endN d) (begN c) (begN (entry t a ((q + 1) % 3))))
        rw [en, en, ph_o z2 z1, ph_o w4 w3]
        exact Jn.side hal hq
  have := key u v h
  rwa [ph_o hu.1 hu.2, ph_o hv.1 hv.2] at this
/-- What was joined before is joined behind the flip. -/
theorem flip_of {u v : Nat} (hu : u ≠ begN k ∧ u ≠ endN k) (hv : v ≠ begN k ∧ v ≠ endN k) (h : Jn s u v) : Jn (flipped s k i x j y) u v := by
  have hx := E.hx
  have hy := E.hy
  have hne := E.ne
  have h0 := k_ne0 S E
  have hpq := end_beg h0
  obtain ⟨n1, n2⟩ := endN_neg h0
  obtain ⟨b0, bk⟩ := not_k S E (a := i) (q := (x + 1) % 3) E.hi (by omega) (by omega) (by omega)
  obtain ⟨c0, ck⟩ := not_k S E (a := i) (q := (x + 2) % 3) E.hi (by omega) (by omega) (by omega)
  obtain ⟨d0, dk⟩ := not_k S E (a := j) (q := (y + 1) % 3) E.hj (by omega) (by omega) (by omega)
  obtain ⟨e0, ek⟩ := not_k S E (a := j) (q := (y + 2) % 3) E.hj (by omega) (by omega) (by omega)
  obtain ⟨bb1, bb2, bb3, bb4⟩ := end_ne b0 h0 bk
  obtain ⟨cc1, cc2, cc3, cc4⟩ := end_ne c0 h0 ck
  obtain ⟨dd1, dd2, dd3, dd4⟩ := end_ne d0 h0 dk
  obtain ⟨ee1, ee2, ee3, ee4⟩ := end_ne e0 h0 ek
  have hri := flip_row E i
  have hrj := flip_row E j
  have hrow := flip_row E
  rw [if_neg hne, if_pos rfl] at hri
  rw [if_pos rfl] at hrj
  have hlen : (flipped s k i x j y).length = s.length := by unfold flipped; simp
  have hi := E.hi
  have hj := E.hj
  have e1 := E.e1
  have e2 := E.e2
  generalize hb : entry s i ((x + 1) % 3) = b at *
  generalize hc : entry s i ((x + 2) % 3) = c at *
  generalize hd : entry s j ((y + 1) % 3) = d at *
  generalize he : entry s j ((y + 2) % 3) = e at *
  generalize ht : flipped s k i x j y = t at *
  have i0 : entry t i 0 = k := by unfold entry; rw [hri]; rfl
  have i1 : entry t i 1 = c := by unfold entry; rw [hri]; rfl
  have i2 : entry t i 2 = d := by unfold entry; rw [hri]; rfl
  have j0 : entry t j 0 = -k := by unfold entry; rw [hrj]; rfl
  have j1 : entry t j 1 = e := by unfold entry; rw [hrj]; rfl
  have j2 : entry t j 2 = b := by unfold entry; rw [hrj]; rfl
  have s1 : Jn t (endN k) (begN c) := by have := Jn.side (s := t) (i := i) (q := 0) (by omega) (by omega); rwa [i0, show (0 + 1) % 3 = 1 from rfl, i1] at this
  have s2 : Jn t (endN c) (begN d) := by have := Jn.side (s := t) (i := i) (q := 1) (by omega) (by omega); rwa [i1, show (1 + 1) % 3 = 2 from rfl, i2] at this
  have s3 : Jn t (endN d) (begN k) := by have := Jn.side (s := t) (i := i) (q := 2) (by omega) (by omega); rwa [i2, show (2 + 1) % 3 = 0 from rfl, i0] at this
  have s4 : Jn t (begN k) (begN e) := by have := Jn.side (s := t) (i := j) (q := 0) (by omega) (by omega); rwa [j0, n1, show (0 + 1) % 3 = 1 from rfl, j1] at this
  have s5 : Jn t (endN e) (begN b) := by have := Jn.side (s := t) (i := j) (q := 1) (by omega) (by omega); rwa [j1, show (1 + 1) % 3 = 2 from rfl, j2] at this
  have s6 : Jn t (endN b) (endN k) := by have := Jn.side (s := t) (i := j) (q := 2) (by omega) (by omega); rwa [j2, show (2 + 1) % 3 = 0 from rfl, j0, n2] at this
  have key : ∀ u v, Jn s u v → Jn t (ph k (endN c) (begN b) u) (ph k (endN c) (begN b) v) := by
    refine conn_least (E := fun u v => Jn t (ph k (endN c) (begN b) u) (ph k (endN c) (begN b) v)) (fun _ => Jn.refl _ _) (fun _ _ h => h.symm) (fun _ _ _ h h' => h.trans h') ?_
    intro p hp
    obtain ⟨a, ha, q, hq, rfl⟩ := mem_vall.1 hp
    show Jn t (ph k (endN c) (begN b) (endN (entry s a q))) (ph k (endN c) (begN b) (begN (entry s a ((q + 1) % 3))))
    by_cases haj : a = j
    · subst haj
      have : q = y ∨ q = (y + 1) % 3 ∨ q = (y + 2) % 3 := by omega
      rcases this with rfl | rfl | rfl
      · rw [e2, hd, n1, ph_p, ph_o dd4 dd3]
        exact s2
      · rw [hd, show ((y + 1) % 3 + 1) % 3 = (y + 2) % 3 by omega, he, ph_o dd2 dd1, ph_o ee4 ee3]
        exact s3.trans s4
      · rw [he, show ((y + 2) % 3 + 1) % 3 = y by omega, e2, n2, ph_o ee2 ee1, ph_q hpq]
        exact s5
    · by_cases hai : a = i
      · subst hai
        have : q = x ∨ q = (x + 1) % 3 ∨ q = (x + 2) % 3 := by omega
        rcases this with rfl | rfl | rfl
        · rw [e1, hb, ph_q hpq, ph_o bb4 bb3]
          exact Jn.refl _ _
        · rw [hb, show ((x + 1) % 3 + 1) % 3 = (x + 2) % 3 by omega, hc, ph_o bb2 bb1, ph_o cc4 cc3]
          exact s6.trans s1
        · rw [hc, show ((x + 2) % 3 + 1) % 3 = x by omega, e1, ph_p, ph_o cc2 cc1]
          exact Jn.refl _ _
      · have hra := hrow a
        rw [if_neg haj, if_neg hai] at hra
        have en : ∀ q : Nat, entry t a q = entry s a q := fun q => by unfold entry; rw [hra]
        obtain ⟨z0, zk⟩ := not_k S E (a := a) (q := q) ha hq (fun h => hai h.1) (fun h => haj h.1)
        obtain ⟨w0, wk⟩ := not_k S E (a := a) (q := (q + 1) % 3) ha (by omega) (fun h => hai h.1) (fun h => haj h.1)
        obtain ⟨z1, z2, z3, z4⟩ := end_ne z0 h0 zk
        obtain ⟨w1, w2, w3, w4⟩ := end_ne w0 h0 wk
        rw [ph_o z2 z1, ph_o w4 w3, ← en, ← en]
        exact Jn.side (by omega) hq
  have := key u v h
  rwa [ph_o hu.1 hu.2, ph_o hv.1 hv.2] at this
end
end Go.Proofs.Ytiiljfpbcanphaa.G

/- Euler numbers of surfaces, told by both. -/
namespace Go.Proofs.Ytiiljfpbcanphaa.G
open Go Go.Sx Go.Proofs
theorem euler_same {s : List (List Int)} (h : Surf s) : ∃ e : Int, spec_l07Euler.f s = some e ∧ impl_eulerOf.f s = some e := by
  obtain ⟨v, hv, e1, e2⟩ := vert_same h
  have h2 := h.most
  have h3 := h.two
  have h4 := h.even
  have he := ed2 h.even
  unfold spec_l07Euler.f impl_eulerOf.f impl_edgesOf.f
  rw [e1, e2]
  simp only [Option.bind_some]
  rw [edges_eq (by omega), Int.tdiv_eq_ediv_of_nonneg (by omega), w64_in (x := (s.length : Int) / 2) (by omega), w64_in (x := (v : Int) - (ed s.length : Int)) (by omega), w64_in (x := (v : Int) - (s.length : Int) / 2) (by omega), w64_in (x := (v : Int) - (ed s.length : Int) + (s.length : Int)) (by omega)]
  exact ⟨_, rfl, by congr 1; omega⟩
end Go.Proofs.Ytiiljfpbcanphaa.G

/- A flip keeps the Euler number. -/
namespace Go.Proofs.Ytiiljfpbcanphaa.G
open Go Go.Sx Go.Proofs
theorem ends_lt {s : List (List Int)} (S : Surf s) {x : Int} (h : entB (ed s.length) x = true) : endN x < 3 * s.length ∧ begN x < 3 * s.length := end_lt (ed2 S.even) h
section
variable {s : List (List Int)} (S : Surf s) {k : Int} {i x j y : Nat} (E : Edge s k i x j y)
include S E
/-- Both ends of the edge hang on other ends. -/
theorem two_mates : (∃ u, u < 3 * s.length ∧ u ≠ begN k ∧ u ≠ endN k ∧ Jn s u (begN k)) ∧ (∃ u, u < 3 * s.length ∧ u ≠ begN k ∧ u ≠ endN k ∧ Jn s u (endN k)) := by
  have hx := E.hx
  have hy := E.hy
  have h0 := k_ne0 S E
  obtain ⟨n1, n2⟩ := endN_neg h0
  obtain ⟨b0, bk⟩ := not_k S E (a := i) (q := (x + 1) % 3) E.hi (by omega) (fun h => by omega) (fun h => E.ne h.1)
  obtain ⟨d0, dk⟩ := not_k S E (a := j) (q := (y + 1) % 3) E.hj (by omega) (fun h => E.ne h.1.symm) (fun h => by omega)
  have s1 := Jn.side (s := s) (i := i) (q := x) E.hi E.hx
  have s4 := Jn.side (s := s) (i := j) (q := y) E.hj E.hy
  rw [E.e1] at s1
  rw [E.e2, n1] at s4
  obtain ⟨bb1, bb2, bb3, bb4⟩ := end_ne b0 h0 bk
  obtain ⟨dd1, dd2, dd3, dd4⟩ := end_ne d0 h0 dk
  exact ⟨⟨_, (ends_lt S (ent_in S (q := y + 1) E.hj)).2, dd4, dd3, s4.symm⟩, ⟨_, (ends_lt S (ent_in S (q := x + 1) E.hi)).2, bb4, bb3, s1.symm⟩⟩
theorem strike {f : Nat → Nat} (hf : Marks (3 * s.length) f (vall s s.length)) : nd f (List.range (3 * s.length)) = nd f (((List.range (3 * s.length)).erase (begN k)).erase (endN k)) := by
  have h0 := k_ne0 S E
  have hpq := end_beg h0
  have hkB : entB (ed s.length) k = true := by rw [← E.e1]; exact (row_entry (S.row i E.hi) E.hx).1
  have hk := ends_lt S hkB
  obtain ⟨⟨u, u1, u2, u3, u4⟩, ⟨v, v1, v2, v3, v4⟩⟩ := two_mates S E
  have hN := List.nodup_range (n := 3 * s.length)
  rw [nd_erase (x := begN k) (List.mem_range.2 hk.2) hN ⟨u, List.mem_range.2 u1, u2, (hf u _ u1 hk.2).2 u4⟩]
  exact nd_erase ((hN.mem_erase_iff).2 ⟨hpq, List.mem_range.2 hk.1⟩) (hN.erase _) ⟨v, (hN.mem_erase_iff).2 ⟨v2, List.mem_range.2 v1⟩, v3, (hf v _ v1 hk.1).2 v4⟩
end
/-- The flipped edge lies on its two triangles. -/
theorem Edge.flip {s : List (List Int)} {k : Int} {i x j y : Nat} (E : Edge s k i x j y) : Edge (flipped s k i x j y) k i 0 j 0 := by
  have hl : (flipped s k i x j y).length = s.length := by unfold flipped; simp
  refine ⟨by rw [hl]; exact E.hi, by omega, by rw [hl]; exact E.hj, by omega, E.ne, ?_, ?_⟩
  · unfold entry
    rw [flip_row E, if_neg E.ne, if_pos rfl]; rfl
  · unfold entry
    rw [flip_row E, if_pos rfl]; rfl
theorem flip_vert {s : List (List Int)} (S : Surf s) {k : Int} {i x j y : Nat} (E : Edge s k i x j y) : ∃ v : Nat, v ≤ 36 ∧ impl_vertices.f s = some (v : Int) ∧ impl_vertices.f (flipped s k i x j y) = some (v : Int) := by
  obtain ⟨S', _⟩ := flip_surf S E
  have hl : (flipped s k i x j y).length = s.length := by unfold flipped; simp
  obtain ⟨f, hf⟩ := marks_ex S
  obtain ⟨g, hg⟩ := marks_ex S'
  have e1 := vert_nd S hf
  have e2 := vert_nd S' hg
  have t1 := strike S E hf
  have t2 := strike S' E.flip hg
  rw [hl] at e2 t2
  have hN := List.nodup_range (n := 3 * s.length)
  have hin : ∀ z ∈ ((List.range (3 * s.length)).erase (begN k)).erase (endN k), z < 3 * s.length ∧ z ≠ begN k ∧ z ≠ endN k := by
    intro z hz
    obtain ⟨h1, h2⟩ := ((hN.erase _).mem_erase_iff).1 hz
    obtain ⟨h3, h4⟩ := (hN.mem_erase_iff).1 h2
    exact ⟨List.mem_range.1 h4, h3, h1⟩
  have hc : nd f (((List.range (3 * s.length)).erase (begN k)).erase (endN k)) = nd g (((List.range (3 * s.length)).erase (begN k)).erase (endN k)) := by
    refine nd_congr fun u hu v hv => ?_
    obtain ⟨u1, u2, u3⟩ := hin u hu
    obtain ⟨v1, v2, v3⟩ := hin v hv
    rw [hf u v u1 v1, hg u v (by rw [hl]; exact u1) (by rw [hl]; exact v1)]
    exact ⟨fun h => flip_of S E ⟨u2, u3⟩ ⟨v2, v3⟩ h, fun h => flip_to S E ⟨u2, u3⟩ ⟨v2, v3⟩ h⟩
  obtain ⟨w, hw, hw2, _⟩ := vert_same S
  rw [t1, hc, ← t2] at e1
  rw [e1] at hw2
  have : (nd g (List.range (3 * s.length)) : Int) = (w : Int) := Option.some.inj hw2
  refine ⟨nd g (List.range (3 * s.length)), by omega, e1, e2⟩
theorem euler_of {s : List (List Int)} (S : Surf s) {v : Nat} (hv : v ≤ 40) (h : impl_vertices.f s = some (v : Int)) : impl_eulerOf.f s = some ((v : Int) - (ed s.length : Int) + (s.length : Int)) := by
  have h2 := S.most
  have he : ed s.length ≤ 18 := by unfold ed; omega
  unfold impl_eulerOf.f impl_edgesOf.f
  rw [h]
  simp only [Option.bind_some]
  rw [edges_eq (by omega), w64_in (x := (v : Int) - (ed s.length : Int)) (by omega), w64_in (by omega)]
end Go.Proofs.Ytiiljfpbcanphaa.G

/- Surfaces copied. -/
namespace Go.Proofs.Ytiiljfpbcanphaa.G
open Go Go.Sx Go.Proofs
theorem clone_eq (s : List (List Int)) (h : s.length ≤ 1000000) (hr : ∀ r ∈ s, r.length ≤ 1000000) : spec_l07Copy.f s = some s ∧ impl_cloneSurface.f s = some s := by
  have key : ∀ f : (List (List Int)) × Int → Option (LB ((List (List Int)) × Int)), (∀ (o : List (List Int)) (i : Nat), i < s.length → o.length ≤ 1000000 → f (o, (i : Int)) = some (.next (o ++ [gt s (i : Int)], ((i + 1 : Nat) : Int)))) → (∀ o, f (o, (s.length : Int)) = some (.brk (o, (s.length : Int)))) → loop1 f ([], 0) = some (s, (s.length : Int)) := by
    intro f hs hf
    have := loop1_upto (f := f) (fun i => (s.take i, (i : Int))) s.length (s, (s.length : Int)) (by omega) (fun i hi => by
      rw [hs _ i hi (by simp; omega), gt_at hi, List.take_add_one, List.getElem?_eq_getElem hi]
      rfl) (by rw [List.take_length]; exact hf s)
    simpa using this
  constructor
  · unfold spec_l07Copy.f
    rw [key _ (fun o i hi ho => by
      unfold spec_l07Copy.b0 spec_l01Own.f
      simp only [dlt_nat, hi, decide_true, cond_true]
      have := hr (gt s (i : Int)) (by rw [gt_at hi]; exact List.getElem_mem _)
      rw [chk_in (by omega), small_in (by simp; omega), Option.bind_some, small_in (by omega), w64_succ (by omega)]
      rfl) (fun o => by
      unfold spec_l07Copy.b0
      simp)]
    rfl
  · unfold impl_cloneSurface.f
    rw [key _ (fun o i hi ho => by
      unfold impl_cloneSurface.b0 slices_Clone_int64_int64.f
      simp only [dlt_nat, hi, decide_true, cond_true]
      have := hr (gt s (i : Int)) (by rw [gt_at hi]; exact List.getElem_mem _)
      rw [chk_in (by omega), small_in (by simp; omega), Option.bind_some, small_in (by omega), w64_succ (by omega)]
      rfl) (fun o => by
      unfold impl_cloneSurface.b0
      simp)]
    rfl
end Go.Proofs.Ytiiljfpbcanphaa.G

/- Flips, told by both. -/
namespace Go.Proofs.Ytiiljfpbcanphaa.G
open Go Go.Sx Go.Proofs
theorem find_eq {s : List (List Int)} (h : Surf s) {i0 q0 : Nat} (hi0 : i0 < s.length) (hq0 : q0 < 3) (hu : ∀ i q : Nat, i < s.length → q < 3 → entry s i q = entry s i0 q0 → i = i0 ∧ q = q0) : spec_l07Find.f s (entry s i0 q0) = some ((i0 : Int), (q0 : Int)) := by
  have h2 := h.most
  unfold spec_l07Find.f
  have hin : ∀ i, i < s.length → loop (spec_l07Find.b0 i s (entry s i0 q0)) 0 = some (match (List.range 3).find? (fun q => entry s i q == entry s i0 q0) with | some q => .ret (.ret ((i : Int), (q : Int))) | none => .brk ((3 : Nat) : Int)) := by
    intro i hi
    exact loop_find (f := spec_l07Find.b0 i s (entry s i0 q0)) (fun q => (q : Int)) 3 (fun q => entry s i q == entry s i0 q0) (fun q => .ret ((i : Int), (q : Int))) ((3 : Nat) : Int) (by omega) (fun q hq => by
      unfold spec_l07Find.b0
      have h3 := (row_entry (h.row i hi) (q := 0) (by omega)).2
      have hq' : decide ((q : Int) < 3) = true := by simp; omega
      rw [hq', cond_true, chk_in (by omega), chk_in (by omega), w64_succ (by omega)]
      have : (gt (gt s (i : Int)) (q : Int) == entry s i0 q0) = (entry s i q == entry s i0 q0) := rfl
      rw [this]
      cases (entry s i q == entry s i0 q0) <;> rfl) (by
      unfold spec_l07Find.b0
      rfl)
  have ho := loop_find (f := spec_l07Find.b1 s (entry s i0 q0)) (fun i => (i : Int)) s.length (fun i => (List.range 3).any fun q => entry s i q == entry s i0 q0) (fun i => ((i : Int), ((((List.range 3).find? (fun q => entry s i q == entry s i0 q0)).getD 0 : Nat) : Int))) (s.length : Int) (by omega) (fun i hi => by
    unfold spec_l07Find.b1
    simp only [dlt_nat, hi, decide_true, cond_true]
    rw [hin i hi, w64_succ (by omega)]
    cases hf : (List.range 3).find? (fun q => entry s i q == entry s i0 q0) with
    | none =>
      have : (List.range 3).any (fun q => entry s i q == entry s i0 q0) = false := by
        rw [List.any_eq_false]; intro x hx; have := List.find?_eq_none.1 hf x hx; simpa using this
      rw [this]; rfl
    | some q =>
      have : (List.range 3).any (fun q => entry s i q == entry s i0 q0) = true := List.any_eq_true.2 ⟨q, List.mem_of_find?_eq_some hf, List.find?_some (p := fun q => entry s i q == entry s i0 q0) hf⟩
      rw [this]; rfl) (by
    unfold spec_l07Find.b1
    simp)
  have hfi : (List.range s.length).find? (fun i => (List.range 3).any fun q => entry s i q == entry s i0 q0) = some i0 := by
    cases hc : (List.range s.length).find? (fun i => (List.range 3).any fun q => entry s i q == entry s i0 q0) with
    | none =>
      have := List.find?_eq_none.1 hc i0 (List.mem_range.2 hi0)
      exact absurd (List.any_eq_true.2 ⟨q0, List.mem_range.2 hq0, by simp⟩) this
    | some i =>
      have a1 := List.mem_range.1 (List.mem_of_find?_eq_some hc)
      have a2 := List.find?_some (p := fun i => (List.range 3).any fun q => entry s i q == entry s i0 q0) hc
      obtain ⟨q, hq, hb⟩ := List.any_eq_true.1 a2
      rw [(hu i q a1 (List.mem_range.1 hq) (by simpa using hb)).1]
  have hfq : (List.range 3).find? (fun q => entry s i0 q == entry s i0 q0) = some q0 := by
    cases hc : (List.range 3).find? (fun q => entry s i0 q == entry s i0 q0) with
    | none =>
      have := List.find?_eq_none.1 hc q0 (List.mem_range.2 hq0)
      simp at this
    | some q =>
      have a1 := List.mem_range.1 (List.mem_of_find?_eq_some hc)
      have a2 := List.find?_some (p := fun q => entry s i0 q == entry s i0 q0) hc
      rw [(hu i0 q hi0 a1 (by simpa using a2)).2]
  have ho' : loop (spec_l07Find.b1 s (entry s i0 q0)) 0 = _ := ho
  rw [ho', hfi]
  show some ((i0 : Int), ((((List.range 3).find? (fun q => entry s i0 q == entry s i0 q0)).getD 0 : Nat) : Int)) = _
  rw [hfq]; rfl
/-- The two sides of an edge of an oriented surface. -/
theorem Surf.pair {s : List (List Int)} (h : Surf s) {k : Nat} (hk : k < ed s.length) (ho : sg (preP s s.length) (k + 1) = 0) :
    ∃ i x j y : Nat, i < s.length ∧ x < 3 ∧ j < s.length ∧ y < 3 ∧ entry s i x = ((k + 1 : Nat) : Int) ∧ entry s j y = -((k + 1 : Nat) : Int) ∧
      (sdl (preP s s.length) (k + 1) = [((i : Int), (x : Int)), ((j : Int), (y : Int))] ∨ sdl (preP s s.length) (k + 1) = [((j : Int), (y : Int)), ((i : Int), (x : Int))]) ∧
      (∀ a b : Nat, a < s.length → b < 3 → entry s a b = entry s i x → a = i ∧ b = x) ∧ (∀ a b : Nat, a < s.length → b < 3 → entry s a b = entry s j y → a = j ∧ b = y) := by
  obtain ⟨p, q, hf, hp, hq, ap, aq⟩ := h.edge2 hk
  obtain ⟨i, x, hi, hx, rfl⟩ := mem_preP hp
  obtain ⟨j, y, hj, hy, rfl⟩ := mem_preP hq
  have hs : sdl (preP s s.length) (k + 1) = [((i : Int), (x : Int)), ((j : Int), (y : Int))] := by rw [sdl_fl, hf]; rfl
  unfold sg at ho
  rw [hf] at ho
  simp only [List.map_cons, List.map_nil, List.sum_cons, List.sum_nil] at ho ap aq
  have hu : ∀ a b : Nat, a < s.length → b < 3 → (entry s a b).natAbs = k + 1 → ((((a : Int), (b : Int)), entry s a b) : Side) = (((i : Int), (x : Int)), entry s i x) ∨ ((((a : Int), (b : Int)), entry s a b) : Side) = (((j : Int), (y : Int)), entry s j y) := by
    intro a b ha hb hab
    have hm : ((((a : Int), (b : Int)), entry s a b) : Side) ∈ fl (preP s s.length) (k + 1) := by
      unfold fl
      rw [List.mem_filter]
      exact ⟨in_preP s ha hb, by simpa using hab⟩
    rw [hf] at hm
    simpa using hm
  have hsgn : (entry s i x > 0 ∧ ¬ entry s j y > 0) ∨ (¬ entry s i x > 0 ∧ entry s j y > 0) := by
    unfold sn at ho
    by_cases h1 : entry s i x > 0 <;> by_cases h2 : entry s j y > 0 <;> simp [h1, h2] at ho ⊢ <;> omega
  have key1 : ∀ a b : Nat, a < s.length → b < 3 → entry s a b = entry s i x → a = i ∧ b = x := by
    intro a b ha hb he
    rcases hu a b ha hb (by rw [he]; exact ap) with e | e
    · simp only [Prod.mk.injEq] at e; omega
    · simp only [Prod.mk.injEq] at e; omega
  have key2 : ∀ a b : Nat, a < s.length → b < 3 → entry s a b = entry s j y → a = j ∧ b = y := by
    intro a b ha hb he
    rcases hu a b ha hb (by rw [he]; exact aq) with e | e
    · simp only [Prod.mk.injEq] at e; omega
    · simp only [Prod.mk.injEq] at e; omega
  rcases hsgn with ⟨h1, h2⟩ | ⟨h1, h2⟩
  · exact ⟨i, x, j, y, hi, hx, hj, hy, by omega, by omega, .inl hs, key1, key2⟩
  · exact ⟨j, y, i, x, hj, hy, hi, hx, by omega, by omega, .inr hs, key2, key1⟩
theorem mod3 (x : Nat) (c : Nat) (hx : x < 3) (hc : c < 10) : Int.tmod (w64 ((x : Int) + (c : Int))) 3 = (((x + c) % 3 : Nat) : Int) := by
  rw [w64_in (by omega), Int.tmod_eq_emod_of_nonneg (by omega)]; omega
theorem from_eq {s : List (List Int)} (h : Surf s) {i x : Nat} (hi : i < s.length) (hx : x < 3) : impl_from.f (gt s (i : Int)) x = some (entry s i ((x + 1) % 3), entry s i ((x + 2) % 3)) := by
  have h3 := (row_entry (h.row i hi) (q := 0) (by omega)).2
  have m1 := mod3 x 1 hx (by omega)
  have m2 := mod3 x 2 hx (by omega)
  unfold impl_from.f
  rw [show ((x : Int) + 1) = (x : Int) + ((1 : Nat) : Int) from rfl, show ((x : Int) + 2) = (x : Int) + ((2 : Nat) : Int) from rfl, m1, m2, h3, chk_in (by omega), chk_in (by omega)]
  rfl
theorem specFlip {s : List (List Int)} (h : Surf s) {k : Nat} {i x j y : Nat} (hk : k < ed s.length) (hi : i < s.length) (hx : x < 3) (hj : j < s.length) (hy : y < 3) (e1 : entry s i x = ((k + 1 : Nat) : Int)) (e2 : entry s j y = -((k + 1 : Nat) : Int))
    (u1 : ∀ a b : Nat, a < s.length → b < 3 → entry s a b = entry s i x → a = i ∧ b = x) (u2 : ∀ a b : Nat, a < s.length → b < 3 → entry s a b = entry s j y → a = j ∧ b = y) :
    spec_l07Flip.f s ((k + 1 : Nat) : Int) = some (if i = j then ([], false) else (flipped s ((k + 1 : Nat) : Int) i x j y, true)) := by
  have h2 := h.most
  have hm : ed s.length ≤ 18 := by unfold ed; omega
  have f1 := find_eq h hi hx u1
  have f2 := find_eq h hj hy u2
  rw [e1] at f1
  rw [e2] at f2
  unfold spec_l07Flip.f
  have en : w64 (0 - ((k + 1 : Nat) : Int)) = -((k + 1 : Nat) : Int) := by rw [w64_in (by omega)]; omega
  rw [f1, en, f2]
  simp only [Option.bind_some]
  by_cases hij : i = j
  · subst hij
    simp
  · have hb : ((i : Int) == (j : Int)) = false := by simp; omega
    rw [hb, cond_false, if_neg hij, (clone_eq s (by omega) (fun r hr => by have := rows3 h r hr; omega)).1, Option.bind_some]
    have h3 := (row_entry (h.row i hi) (q := 0) (by omega)).2
    have h4 := (row_entry (h.row j hj) (q := 0) (by omega)).2
    have m1 := mod3 x 1 hx (by omega)
    have m2 := mod3 x 2 hx (by omega)
    have m3 := mod3 y 1 hy (by omega)
    have m4 := mod3 y 2 hy (by omega)
    have c1 : ∀ q : Int, q + 1 = q + ((1 : Nat) : Int) := fun _ => rfl
    have c2 : ∀ q : Int, q + 2 = q + ((2 : Nat) : Int) := fun _ => rfl
    rw [c1 (x : Int), c2 (x : Int), c1 (y : Int), c2 (y : Int), m1, m2, m3, m4, h3, h4]
    simp only [List.length_set]
    rw [chk_in (by omega), chk_in (by omega), chk_in (by omega), chk_in (by omega), chk_in (by omega), chk_in (by omega), chk_in (by omega), chk_in (by omega)]
    rfl
theorem implTail {s : List (List Int)} (h : Surf s) {k : Nat} {i x j y : Nat} (hk : k < ed s.length) (hi : i < s.length) (hx : x < 3) (hj : j < s.length) (hy : y < 3) :
    (chk (i : Int) s.length ((impl_from.f (gt s i) x).bind (fun p => match p with | (r_8, r_9) => chk (j : Int) s.length ((impl_from.f (gt s j) y).bind (fun p => match p with | (r_10, r_11) => (impl_cloneSurface.f s).bind (fun r_12 => chk (i : Int) r_12.length (chk (j : Int) ((r_12.set (i : Int).toNat ([((k + 1 : Nat) : Int), r_9, r_10] : List Int)).length) (some (((r_12.set (i : Int).toNat ([((k + 1 : Nat) : Int), r_9, r_10] : List Int)).set (j : Int).toNat ([(w64 (0 - ((k + 1 : Nat) : Int))), r_11, r_8] : List Int)), (0 : Int)))))))))) = some (flipped s ((k + 1 : Nat) : Int) i x j y, 0) := by
  have h2 := h.most
  have hm : ed s.length ≤ 18 := by unfold ed; omega
  have en : w64 (0 - ((k + 1 : Nat) : Int)) = -((k + 1 : Nat) : Int) := by rw [w64_in (by omega)]; omega
  rw [chk_in (by omega), from_eq h hi hx]
  simp only [Option.bind_some]
  rw [chk_in (by omega), from_eq h hj hy]
  simp only [Option.bind_some]
  rw [(clone_eq s (by omega) (fun r hr => by have := rows3 h r hr; omega)).2, Option.bind_some, chk_in (by omega), List.length_set, chk_in (by omega), en]
  rfl
/-- What a flip gives, where it gives something. -/
def FlipTo (s : List (List Int)) (k : Int) (o : List (List Int)) : Prop := Surf s ∧ orB s = true ∧ ∃ i x j y : Nat, Edge s k i x j y ∧ o = flipped s k i x j y
theorem flip_draw {s : List (List Int)} (S : Surf s) (ho : orB s = true) {q : Nat} (hq : q < ed s.length) : ∃ o b, spec_l07Flip.f s ((q + 1 : Nat) : Int) = some (o, b) ∧ (b = true → FlipTo s ((q + 1 : Nat) : Int) o) := by
  obtain ⟨i, x, j, y, hi, hx, hj, hy, e1, e2, hs, u1, u2⟩ := S.pair hq (Surf.sg0 ho hq)
  rw [specFlip S hq hi hx hj hy e1 e2 u1 u2]
  by_cases hij : i = j
  · rw [if_pos hij]; exact ⟨_, _, rfl, nofun⟩
  · rw [if_neg hij]; exact ⟨_, _, rfl, fun _ => ⟨S, ho, i, x, j, y, ⟨hi, hx, hj, hy, hij, e1, e2⟩, rfl⟩⟩
theorem fe_full {s : List (List Int)} (h1 : s.length ≤ 1048576) (k : Int) : ∃ o e, spec_FlipEdge.f s k = some (o, e) ∧ impl_FlipEdge.f s k = some (o, e) ∧ (o.length ≤ 12 ∧ ∀ r ∈ o, r.length ≤ 3) ∧ (e = 0 → FlipTo s k o) := by
  unfold spec_FlipEdge.f impl_FlipEdge.f
  rw [specSurf h1, implSurf h1]
  cases hb : surfB s with
  | false => exact ⟨_, _, rfl, rfl, ⟨by simp, by simp⟩, fun h => absurd h (by decide)⟩
  | true =>
    have h := surf_of hb
    have h2 := h.most
    have h0 := h.two
    have hm : ed s.length ≤ 18 := by unfold ed; omega
    unfold spec_l01In.f impl_edgesOf.f impl_in.f
    simp only [Option.bind_some, Bool.not_true, cond_false]
    rw [edges_eq (by omega)]
    by_cases hk : 1 ≤ k ∧ k ≤ (ed s.length : Int)
    · have e : (decide (k ≥ 1) && decide (k ≤ (ed s.length : Int))) = true := by simp; omega
      rw [e]
      simp only [Bool.not_true, cond_false]
      obtain ⟨q, hq⟩ : ∃ q : Nat, k = ((q + 1 : Nat) : Int) := ⟨(k - 1).toNat, by omega⟩
      subst hq
      have hqk : q < ed s.length := by omega
      rw [specOr h, sides_eq (by omega) h.row, implOr h]
      simp only [Option.bind_some]
      rw [tab_length, chk_in (by omega), tab_gt _ (by omega)]
      cases hor : orB s with
      | false => exact ⟨_, _, rfl, rfl, ⟨by simp, by simp⟩, fun h => absurd h (by decide)⟩
      | true =>
        have hsg := Surf.sg0 hor hqk
        obtain ⟨i, x, j, y, hi, hx, hj, hy, e1, e2, hs, u1, u2⟩ := h.pair hqk hsg
        simp only [Bool.not_true, cond_false]
        rw [specFlip h hqk hi hx hj hy e1 e2 u1 u2]
        have tail := implTail h hqk hi hx hj hy
        have r3 := rows3 h
        have h3 := (row_entry (h.row i hi) (q := 0) (by omega)).2
        have h4 := (row_entry (h.row j hj) (q := 0) (by omega)).2
        have ei : gt (gt s (i : Int)) (x : Int) = ((q + 1 : Nat) : Int) := e1
        have ej : gt (gt s (j : Int)) (y : Int) = -((q + 1 : Nat) : Int) := e2
        have fin : (flipped s ((q + 1 : Nat) : Int) i x j y).length ≤ 12 ∧ ∀ r ∈ flipped s ((q + 1 : Nat) : Int) i x j y, r.length ≤ 3 := by
          unfold flipped
          refine ⟨by simp; omega, fun r hr => ?_⟩
          rcases List.mem_or_eq_of_mem_set hr with hr | rfl
          · rcases List.mem_or_eq_of_mem_set hr with hr | rfl
            · have := r3 r hr; omega
            · simp
          · simp
        by_cases hij : i = j
        · refine ⟨[], 5, ?_, ?_, ⟨by simp, by simp⟩, fun h => absurd h (by decide)⟩
          · rw [if_pos hij]; rfl
          · subst hij
            rcases hs with hs | hs <;> rw [hs]
            · have g0 : gt [((i : Int), (x : Int)), ((i : Int), (y : Int))] 0 = ((i : Int), (x : Int)) := rfl
              have g1 : gt [((i : Int), (x : Int)), ((i : Int), (y : Int))] 1 = ((i : Int), (y : Int)) := rfl
              rw [chk_in (by simp), chk_in (by simp), g0, g1]
              simp
            · have g0 : gt [((i : Int), (y : Int)), ((i : Int), (x : Int))] 0 = ((i : Int), (y : Int)) := rfl
              have g1 : gt [((i : Int), (y : Int)), ((i : Int), (x : Int))] 1 = ((i : Int), (x : Int)) := rfl
              rw [chk_in (by simp), chk_in (by simp), g0, g1]
              simp
        · refine ⟨flipped s ((q + 1 : Nat) : Int) i x j y, 0, ?_, ?_, fin, fun _ => ⟨h, hor, i, x, j, y, ⟨hi, hx, hj, hy, hij, e1, e2⟩, rfl⟩⟩
          · rw [if_neg hij]; rfl
          · rcases hs with hs | hs <;> rw [hs]
            · have g0 : gt [((i : Int), (x : Int)), ((j : Int), (y : Int))] 0 = ((i : Int), (x : Int)) := rfl
              have g1 : gt [((i : Int), (x : Int)), ((j : Int), (y : Int))] 1 = ((j : Int), (y : Int)) := rfl
              rw [chk_in (by simp), chk_in (by simp), g0, g1]
              have hb : ((i : Int) == (j : Int)) = false := by simp; omega
              simp only [hb, cond_false]
              rw [chk_in (by omega), h3, chk_in (by omega), ei, decide_eq_false (by omega), cond_false, Option.bind_some]
              exact tail
            · have g0 : gt [((j : Int), (y : Int)), ((i : Int), (x : Int))] 0 = ((j : Int), (y : Int)) := rfl
              have g1 : gt [((j : Int), (y : Int)), ((i : Int), (x : Int))] 1 = ((i : Int), (x : Int)) := rfl
              rw [chk_in (by simp), chk_in (by simp), g0, g1]
              have hb : ((j : Int) == (i : Int)) = false := by simp; omega
              simp only [hb, cond_false]
              rw [chk_in (by omega), h4, chk_in (by omega), ej, decide_eq_true (by omega), cond_true, Option.bind_some]
              exact tail
    · have e : (decide (k ≥ 1) && decide (k ≤ (ed s.length : Int))) = false := by
        rw [Bool.and_eq_false_iff]
        simp only [decide_eq_false_iff_not]
        omega
      rw [e]
      exact ⟨_, _, rfl, rfl, ⟨by simp, by simp⟩, fun h => absurd h (by decide)⟩
end Go.Proofs.Ytiiljfpbcanphaa.G

/- A triangle that is split gives one vertex more. -/
namespace Go.Proofs.Ytiiljfpbcanphaa.G
open Go Go.Sx Go.Proofs
theorem new_ends (m t : Nat) (ht : 1 ≤ t) : endN ((m : Int) + t) = 2 * m + 2 * t - 1 ∧ begN ((m : Int) + t) = 2 * m + 2 * t - 2 ∧ endN (-((m : Int) + t)) = 2 * m + 2 * t - 2 ∧ begN (-((m : Int) + t)) = 2 * m + 2 * t - 1 := by
  unfold endN begN
  rw [if_pos (by omega), if_pos (by omega), if_neg (by omega), if_neg (by omega)]
  omega
/-- The new ends that hang on old ones, put there. -/
def pn (N A B C u : Nat) : Nat := if u = N then A else if u = N + 4 then B else if u = N + 2 then C else u
theorem pn_old {N A B C u : Nat} (h : u < N) : pn N A B C u = u := by unfold pn; rw [if_neg (by omega), if_neg (by omega), if_neg (by omega)]
theorem pn_0 (N A B C : Nat) : pn N A B C N = A := if_pos rfl
theorem pn_4 (N A B C : Nat) : pn N A B C (N + 4) = B := by unfold pn; rw [if_neg (by omega), if_pos rfl]
theorem pn_2 (N A B C : Nat) : pn N A B C (N + 2) = C := by unfold pn; rw [if_neg (by omega), if_neg (by omega), if_pos rfl]
def cen (N u : Nat) : Prop := u = N + 1 ∨ u = N + 3 ∨ u = N + 5
section
variable {s : List (List Int)} (S : Surf s) {i : Nat} (hi : i < s.length)
include S hi
omit S in
theorem split_row (a : Nat) : (a < s.length → gt (split3 s i) (a : Int) = if a = i then [entry s i 0, (ed s.length : Int) + 1, -((ed s.length : Int) + 2)] else gt s (a : Int)) ∧
    gt (split3 s i) (s.length : Int) = [entry s i 1, (ed s.length : Int) + 3, -((ed s.length : Int) + 1)] ∧ gt (split3 s i) ((s.length + 1 : Nat) : Int) = [entry s i 2, (ed s.length : Int) + 2, -((ed s.length : Int) + 3)] := by
  unfold split3
  refine ⟨fun ha => ?_, ?_, ?_⟩
  · have h1 : gt ((s.set i [entry s i 0, (ed s.length : Int) + 1, -((ed s.length : Int) + 2)]) ++ [[entry s i 1, (ed s.length : Int) + 3, -((ed s.length : Int) + 1)], [entry s i 2, (ed s.length : Int) + 2, -((ed s.length : Int) + 3)]]) (a : Int) = gt (s.set i [entry s i 0, (ed s.length : Int) + 1, -((ed s.length : Int) + 2)]) (a : Int) := by
      have hl : a < (s.set i [entry s i 0, (ed s.length : Int) + 1, -((ed s.length : Int) + 2)]).length := by rw [List.length_set]; exact ha
      simp only [gt, List.getD, Int.toNat_natCast]
      rw [List.getElem?_append_left hl]
    rw [h1]
    by_cases e : a = i
    · subst e
      rw [if_pos rfl, gt_set_eq _ _ ha]
    · rw [if_neg e, gt_set_ne _ _ (fun h => e h.symm)]
  · simp only [gt, List.getD, Int.toNat_natCast]
    rw [List.getElem?_append_right (by simp)]
    simp
  · simp only [gt, List.getD, Int.toNat_natCast]
    rw [List.getElem?_append_right (by simp)]
    simp
/-- The ends of the sides of the three triangles. -/
theorem split_vals : let N := 3 * s.length
    let t := split3 s i
    ((endN (entry t i 0) = endN (entry s i 0) ∧ begN (entry t i 0) = begN (entry s i 0)) ∧ (endN (entry t i 1) = N + 1 ∧ begN (entry t i 1) = N) ∧ (endN (entry t i 2) = N + 2 ∧ begN (entry t i 2) = N + 3)) ∧
    ((endN (entry t s.length 0) = endN (entry s i 1) ∧ begN (entry t s.length 0) = begN (entry s i 1)) ∧ (endN (entry t s.length 1) = N + 5 ∧ begN (entry t s.length 1) = N + 4) ∧ (endN (entry t s.length 2) = N ∧ begN (entry t s.length 2) = N + 1)) ∧
    ((endN (entry t (s.length + 1) 0) = endN (entry s i 2) ∧ begN (entry t (s.length + 1) 0) = begN (entry s i 2)) ∧ (endN (entry t (s.length + 1) 1) = N + 3 ∧ begN (entry t (s.length + 1) 1) = N + 2) ∧ (endN (entry t (s.length + 1) 2) = N + 4 ∧ begN (entry t (s.length + 1) 2) = N + 5)) := by
  intro N t
  have hN : 2 * ed s.length = N := ed2 S.even
  have hl := split_len s i
  obtain ⟨r0, r1, r2⟩ := split_row hi i
  have r0 := r0 hi
  rw [if_pos rfl] at r0
  obtain ⟨a1, a2, a3, a4⟩ := new_ends (ed s.length) 1 (by omega)
  obtain ⟨b1, b2, b3, b4⟩ := new_ends (ed s.length) 2 (by omega)
  obtain ⟨c1, c2, c3, c4⟩ := new_ends (ed s.length) 3 (by omega)
  rw [show ((ed s.length : Int) + ((1 : Nat) : Int)) = (ed s.length : Int) + 1 from rfl] at a1 a2 a3 a4
  rw [show ((ed s.length : Int) + ((2 : Nat) : Int)) = (ed s.length : Int) + 2 from rfl] at b1 b2 b3 b4
  rw [show ((ed s.length : Int) + ((3 : Nat) : Int)) = (ed s.length : Int) + 3 from rfl] at c1 c2 c3 c4
  rw [show 2 * ed s.length + 2 * 1 - 1 = N + 1 by omega] at a1
  rw [show 2 * ed s.length + 2 * 1 - 2 = N by omega] at a2
  rw [show 2 * ed s.length + 2 * 1 - 2 = N by omega] at a3
  rw [show 2 * ed s.length + 2 * 1 - 1 = N + 1 by omega] at a4
  rw [show 2 * ed s.length + 2 * 2 - 1 = N + 3 by omega] at b1
  rw [show 2 * ed s.length + 2 * 2 - 2 = N + 2 by omega] at b2
  rw [show 2 * ed s.length + 2 * 2 - 2 = N + 2 by omega] at b3
  rw [show 2 * ed s.length + 2 * 2 - 1 = N + 3 by omega] at b4
  rw [show 2 * ed s.length + 2 * 3 - 1 = N + 5 by omega] at c1
  rw [show 2 * ed s.length + 2 * 3 - 2 = N + 4 by omega] at c2
  rw [show 2 * ed s.length + 2 * 3 - 2 = N + 4 by omega] at c3
  rw [show 2 * ed s.length + 2 * 3 - 1 = N + 5 by omega] at c4
  have i0 : entry t i 0 = entry s i 0 := by show gt (gt (split3 s i) (i : Int)) _ = _; rw [r0]; rfl
  have i1 : entry t i 1 = (ed s.length : Int) + 1 := by show gt (gt (split3 s i) (i : Int)) _ = _; rw [r0]; rfl
  have i2 : entry t i 2 = -((ed s.length : Int) + 2) := by show gt (gt (split3 s i) (i : Int)) _ = _; rw [r0]; rfl
  have j0 : entry t s.length 0 = entry s i 1 := by show gt (gt (split3 s i) (s.length : Int)) _ = _; rw [r1]; rfl
  have j1 : entry t s.length 1 = (ed s.length : Int) + 3 := by show gt (gt (split3 s i) (s.length : Int)) _ = _; rw [r1]; rfl
  have j2 : entry t s.length 2 = -((ed s.length : Int) + 1) := by show gt (gt (split3 s i) (s.length : Int)) _ = _; rw [r1]; rfl
  have k0 : entry t (s.length + 1) 0 = entry s i 2 := by show gt (gt (split3 s i) ((s.length + 1 : Nat) : Int)) _ = _; rw [r2]; rfl
  have k1 : entry t (s.length + 1) 1 = (ed s.length : Int) + 2 := by show gt (gt (split3 s i) ((s.length + 1 : Nat) : Int)) _ = _; rw [r2]; rfl
  have k2 : entry t (s.length + 1) 2 = -((ed s.length : Int) + 3) := by show gt (gt (split3 s i) ((s.length + 1 : Nat) : Int)) _ = _; rw [r2]; rfl
  rw [i0, i1, i2, j0, j1, j2, k0, k1, k2]
  exact ⟨⟨⟨rfl, rfl⟩, ⟨a1, a2⟩, ⟨b3, b4⟩⟩, ⟨⟨rfl, rfl⟩, ⟨c1, c2⟩, ⟨a3, a4⟩⟩, ⟨⟨rfl, rfl⟩, ⟨b1, b2⟩, ⟨c3, c4⟩⟩⟩
/-- The nine joinings of the three triangles. -/
theorem split_joins : let N := 3 * s.length
    (Jn (split3 s i) (endN (entry s i 0)) N ∧ Jn (split3 s i) (N + 1) (N + 3) ∧ Jn (split3 s i) (N + 2) (begN (entry s i 0))) ∧
    (Jn (split3 s i) (endN (entry s i 1)) (N + 4) ∧ Jn (split3 s i) (N + 5) (N + 1) ∧ Jn (split3 s i) N (begN (entry s i 1))) ∧
    (Jn (split3 s i) (endN (entry s i 2)) (N + 2) ∧ Jn (split3 s i) (N + 3) (N + 5) ∧ Jn (split3 s i) (N + 4) (begN (entry s i 2))) := by
  intro N
  have hl := split_len s i
  obtain ⟨⟨⟨v1, v2⟩, ⟨v3, v4⟩, ⟨v5, v6⟩⟩, ⟨⟨w1, w2⟩, ⟨w3, w4⟩, ⟨w5, w6⟩⟩, ⟨⟨z1, z2⟩, ⟨z3, z4⟩, ⟨z5, z6⟩⟩⟩ := split_vals S hi
  have go : ∀ w : Nat, w < (split3 s i).length → Jn (split3 s i) (endN (entry (split3 s i) w 0)) (begN (entry (split3 s i) w 1)) ∧ Jn (split3 s i) (endN (entry (split3 s i) w 1)) (begN (entry (split3 s i) w 2)) ∧ Jn (split3 s i) (endN (entry (split3 s i) w 2)) (begN (entry (split3 s i) w 0)) := fun w hw =>
    ⟨Jn.side (q := 0) hw (by omega), Jn.side (q := 1) hw (by omega), Jn.side (q := 2) hw (by omega)⟩
  have g1 := go i (by omega)
  have g2 := go s.length (by omega)
  have g3 := go (s.length + 1) (by omega)
  rw [v1, v2, v3, v4, v5, v6] at g1
  rw [w1, w2, w3, w4, w5, w6] at g2
  rw [z1, z2, z3, z4, z5, z6] at g3
  exact ⟨g1, g2, g3⟩
omit S in
theorem old_row {a : Nat} (ha : a < s.length) (hne : a ≠ i) (q : Nat) : entry (split3 s i) a q = entry s a q := by
  have := (split_row hi a).1 ha
  rw [if_neg hne] at this
  unfold entry
  rw [this]
/-- What was joined before is joined behind the split. -/
theorem split_of {u v : Nat} (h : Jn s u v) : Jn (split3 s i) u v := by
  obtain ⟨⟨g1, g2, g3⟩, ⟨h1, h2, h3⟩, ⟨k1, k2, k3⟩⟩ := split_joins S hi
  have hl := split_len s i
  refine conn_least (E := fun u v => Jn (split3 s i) u v) (fun _ => Jn.refl _ _) (fun _ _ h => h.symm) (fun _ _ _ h h' => h.trans h') ?_ u v h
  intro p hp
  obtain ⟨a, ha, q, hq, rfl⟩ := mem_vall.1 hp
  show Jn (split3 s i) (endN (entry s a q)) (begN (entry s a ((q + 1) % 3)))
  by_cases e : a = i
  · subst e
    have : q = 0 ∨ q = 1 ∨ q = 2 := by omega
    rcases this with rfl | rfl | rfl
    · exact g1.trans h3
    · exact h1.trans k3
    · exact k1.trans g3
  · rw [← old_row hi ha e, ← old_row hi ha e]
    exact Jn.side (by omega) hq
/-- What is joined behind the split was joined before, or is the new vertex. -/
theorem split_to {u v : Nat} (h : Jn (split3 s i) u v) : (cen (3 * s.length) u ∧ cen (3 * s.length) v) ∨ (¬ cen (3 * s.length) u ∧ ¬ cen (3 * s.length) v ∧
    Jn s (pn (3 * s.length) (endN (entry s i 0)) (endN (entry s i 1)) (endN (entry s i 2)) u) (pn (3 * s.length) (endN (entry s i 0)) (endN (entry s i 1)) (endN (entry s i 2)) v)) := by
  obtain ⟨⟨⟨v1, v2⟩, ⟨v3, v4⟩, ⟨v5, v6⟩⟩, ⟨⟨w1, w2⟩, ⟨w3, w4⟩, ⟨w5, w6⟩⟩, ⟨⟨z1, z2⟩, ⟨z3, z4⟩, ⟨z5, z6⟩⟩⟩ := split_vals S hi
  have hl := split_len s i
  have s1 := Jn.side (s := s) (i := i) (q := 0) hi (by omega)
  have s2 := Jn.side (s := s) (i := i) (q := 1) hi (by omega)
  have s3 := Jn.side (s := s) (i := i) (q := 2) hi (by omega)
  have e0 := ends_lt S (ent_in S (i := i) (q := 0) hi)
  have e1 := ends_lt S (ent_in S (i := i) (q := 1) hi)
  have e2 := ends_lt S (ent_in S (i := i) (q := 2) hi)
  have olds : ∀ u, u < 3 * s.length → ¬ cen (3 * s.length) u := fun u hu hc => by unfold cen at hc; omega
  refine conn_least (E := fun u v => (cen (3 * s.length) u ∧ cen (3 * s.length) v) ∨ (¬ cen (3 * s.length) u ∧ ¬ cen (3 * s.length) v ∧ Jn s (pn (3 * s.length) (endN (entry s i 0)) (endN (entry s i 1)) (endN (entry s i 2)) u) (pn (3 * s.length) (endN (entry s i 0)) (endN (entry s i 1)) (endN (entry s i 2)) v)))
    (fun u => ?_) (fun u v h => ?_) (fun u v w h h' => ?_) ?_ u v h
  · by_cases hc : cen (3 * s.length) u
    · exact .inl ⟨hc, hc⟩
    · exact .inr ⟨hc, hc, Jn.refl _ _⟩
  · rcases h with ⟨a, b⟩ | ⟨a, b, c⟩
    · exact .inl ⟨b, a⟩
    · exact .inr ⟨b, a, c.symm⟩
  · rcases h with ⟨a, b⟩ | ⟨a, b, c⟩
    · rcases h' with ⟨a', b'⟩ | ⟨a', b', c'⟩
      · exact .inl ⟨a, b'⟩
      · exact absurd b a'
    · rcases h' with ⟨a', b'⟩ | ⟨a', b', c'⟩
      · exact absurd a' b
      · exact .inr ⟨a, b', c.trans c'⟩
  · intro p hp
    obtain ⟨a, ha, q, hq, rfl⟩ := mem_vall.1 hp
    have hq3 : q = 0 ∨ q = 1 ∨ q = 2 := by omega
    by_cases c1 : a = s.length
    · subst c1
      rcases hq3 with rfl | rfl | rfl
      · refine .inr ?_
        show ¬ cen _ (endN (entry (split3 s i) s.length 0)) ∧ ¬ cen _ (begN (entry (split3 s i) s.length 1)) ∧ Jn s (pn _ _ _ _ (endN (entry (split3 s i) s.length 0))) (pn _ _ _ _ (begN (entry (split3 s i) s.length 1)))
        rw [w1, w4, pn_4, pn_old e1.1]
        exact ⟨olds _ e1.1, by unfold cen; omega, Jn.refl _ _⟩
      · refine .inl ?_
        show cen _ (endN (entry (split3 s i) s.length 1)) ∧ cen _ (begN (entry (split3 s i) s.length 2))
        rw [w3, w6]
        exact ⟨.inr (.inr rfl), .inl rfl⟩
      · refine .inr ?_
        show ¬ cen _ (endN (entry (split3 s i) s.length 2)) ∧ ¬ cen _ (begN (entry (split3 s i) s.length 0)) ∧ Jn s (pn _ _ _ _ (endN (entry (split3 s i) s.length 2))) (pn _ _ _ _ (begN (entry (split3 s i) s.length 0)))
        rw [w5, w2, pn_0, pn_old e1.2]
        exact ⟨by unfold cen; omega, olds _ e1.2, s1⟩
    · by_cases c2 : a = s.length + 1
      · subst c2
        rcases hq3 with rfl | rfl | rfl
        · refine .inr ?_
          show ¬ cen _ (endN (entry (split3 s i) (s.length + 1) 0)) ∧ ¬ cen _ (begN (entry (split3 s i) (s.length + 1) 1)) ∧ Jn s (pn _ _ _ _ (endN (entry (split3 s i) (s.length + 1) 0))) (pn _ _ _ _ (begN (entry (split3 s i) (s.length + 1) 1)))
          rw [z1, z4, pn_2, pn_old e2.1]
          exact ⟨olds _ e2.1, by unfold cen; omega, Jn.refl _ _⟩
        · refine .inl ?_
          show cen _ (endN (entry (split3 s i) (s.length + 1) 1)) ∧ cen _ (begN (entry (split3 s i) (s.length + 1) 2))
          rw [z3, z6]
          exact ⟨.inr (.inl rfl), .inr (.inr rfl)⟩
        · refine .inr ?_
          show ¬ cen _ (endN (entry (split3 s i) (s.length + 1) 2)) ∧ ¬ cen _ (begN (entry (split3 s i) (s.length + 1) 0)) ∧ Jn s (pn _ _ _ _ (endN (entry (split3 s i) (s.length + 1) 2))) (pn _ _ _ _ (begN (entry (split3 s i) (s.length + 1) 0)))
          rw [z5, z2, pn_4, pn_old e2.2]
          exact ⟨by unfold cen; omega, olds _ e2.2, s2⟩
      · have hal : a < s.length := by omega
        by_cases c3 : a = i
        · subst c3
          rcases hq3 with rfl | rfl | rfl
          · refine .inr ?_
            show ¬ cen _ (endN (entry (split3 s a) a 0)) ∧ ¬ cen _ (begN (entry (split3 s a) a 1)) ∧ Jn s (pn _ _ _ _ (endN (entry (split3 s a) a 0))) (pn _ _ _ _ (begN (entry (split3 s a) a 1)))
            rw [v1, v4, pn_0, pn_old e0.1]
            exact ⟨olds _ e0.1, by unfold cen; omega, Jn.refl _ _⟩
          · refine .inl ?_
            show cen _ (endN (entry (split3 s a) a 1)) ∧ cen _ (begN (entry (split3 s a) a 2))
            rw [v3, v6]
            exact ⟨.inl rfl, .inr (.inl rfl)⟩
          · refine .inr ?_
            show ¬ cen _ (endN (entry (split3 s a) a 2)) ∧ ¬ cen _ (begN (entry (split3 s a) a 0)) ∧ Jn s (pn _ _ _ _ (endN (entry (split3 s a) a 2))) (pn _ _ _ _ (begN (entry (split3 s a) a 0)))
            rw [v5, v2, pn_2, pn_old e0.2]
            exact ⟨by unfold cen; omega, olds _ e0.2, s3⟩
        · rw [old_row hi hal c3, old_row hi hal c3]
          have x1 := (ends_lt S (row_entry (S.row a hal) hq).1).1
          have x2 := (ends_lt S (ent_in S (i := a) (q := q + 1) hal)).2
          refine .inr ⟨olds _ x1, olds _ x2, ?_⟩
          show Jn s (pn _ _ _ _ (endN (entry s a q))) (pn _ _ _ _ (begN (entry s a ((q + 1) % 3))))
          rw [pn_old x1, pn_old x2]
          exact Jn.side hal hq
/-- One vertex more. -/
theorem split_vert (hn : s.length + 2 ≤ 12) : ∃ v : Nat, v ≤ 36 ∧ impl_vertices.f s = some (v : Int) ∧ impl_vertices.f (split3 s i) = some ((v + 1 : Nat) : Int) := by
  obtain ⟨S', _⟩ := split_surf S hi hn
  have hl := split_len s i
  obtain ⟨f, hf⟩ := marks_ex S
  obtain ⟨g, hg⟩ := marks_ex S'
  have e1 := vert_nd S hf
  have e2 := vert_nd S' hg
  rw [hl] at e2
  obtain ⟨⟨g1, g2, g3⟩, ⟨h1, h2, h3⟩, ⟨k1, k2, k3⟩⟩ := split_joins S hi
  have q0 := (ends_lt S (ent_in S (i := i) (q := 0) hi)).1
  have q1 := (ends_lt S (ent_in S (i := i) (q := 1) hi)).1
  have q2 := (ends_lt S (ent_in S (i := i) (q := 2) hi)).1
  have hm : ∀ u v, u < 3 * s.length + 6 → v < 3 * s.length + 6 → Jn (split3 s i) u v → g u = g v := fun u v hu hv h => (hg u v (by omega) (by omega)).2 h
  generalize hN : 3 * s.length = N at *
  have hr : List.range (3 * (s.length + 2)) = List.range N ++ [N, N + 1, N + 2, N + 3, N + 4, N + 5] := by
    rw [show 3 * (s.length + 2) = N + 6 by omega]
    simp [List.range_succ]
  have t1 : nd g (List.range N ++ [N, N + 1, N + 2, N + 3, N + 4, N + 5]) = nd g (List.range N ++ [N + 1, N + 2, N + 3, N + 4, N + 5]) :=
    nd_rem (us := List.range N) (x := N) ⟨_, List.mem_append.2 (.inl (List.mem_range.2 q0)), hm _ _ (by omega) (by omega) g1⟩
  have t2 : nd g (List.range N ++ [N + 1, N + 2, N + 3, N + 4, N + 5]) = nd g (List.range N ++ [N + 1, N + 3, N + 4, N + 5]) := by
    have := nd_rem (f := g) (us := List.range N ++ [N + 1]) (x := N + 2) (bs := [N + 3, N + 4, N + 5]) ⟨_, List.mem_append.2 (.inl (List.mem_append.2 (.inl (List.mem_range.2 q2)))), hm _ _ (by omega) (by omega) k1⟩
    simpa using this
  have t3 : nd g (List.range N ++ [N + 1, N + 3, N + 4, N + 5]) = nd g (List.range N ++ [N + 1, N + 4, N + 5]) := by
    have := nd_rem (f := g) (us := List.range N ++ [N + 1]) (x := N + 3) (bs := [N + 4, N + 5]) ⟨N + 1, by simp, hm _ _ (by omega) (by omega) g2⟩
    simpa using this
  have t4 : nd g (List.range N ++ [N + 1, N + 4, N + 5]) = nd g (List.range N ++ [N + 1, N + 5]) := by
    have := nd_rem (f := g) (us := List.range N ++ [N + 1]) (x := N + 4) (bs := [N + 5]) ⟨_, List.mem_append.2 (.inl (List.mem_append.2 (.inl (List.mem_range.2 q1)))), hm _ _ (by omega) (by omega) h1⟩
    simpa using this
  have t5 : nd g (List.range N ++ [N + 1, N + 5]) = nd g (List.range N ++ [N + 1]) := by
    have := nd_rem (f := g) (us := List.range N ++ [N + 1]) (x := N + 5) (bs := []) ⟨N + 1, by simp, hm _ _ (by omega) (by omega) h2.symm⟩
    simpa using this
  have t6 : nd g (List.range N ++ [N + 1]) = nd g (List.range N) + 1 := by
    have := nd_add (f := g) (us := List.range N) (x := N + 1) (bs := []) (by
      rintro ⟨y, hy, he⟩
      have hy' : y < N := by simpa using hy
      have := (hg y (N + 1) (by omega) (by omega)).1 he
      rcases split_to S hi this with ⟨a, _⟩ | ⟨_, b, _⟩
      · unfold cen at a; omega
      · exact b (.inl (by rw [hN])))
    simpa using this
  have t7 : nd g (List.range N) = nd f (List.range N) := by
    refine nd_congr fun u hu v hv => ?_
    have hu' := List.mem_range.1 hu
    have hv' := List.mem_range.1 hv
    rw [hf u v (by omega) (by omega), hg u v (by omega) (by omega)]
    constructor
    · intro h
      rcases split_to S hi h with ⟨a, _⟩ | ⟨_, _, c⟩
      · unfold cen at a; omega
      · rwa [pn_old (by omega), pn_old (by omega)] at c
    · exact fun h => split_of S hi h
  rw [hr, t1, t2, t3, t4, t5, t6, t7] at e2
  obtain ⟨w, hw, hw2, _⟩ := vert_same S
  rw [e1] at hw2
  have : (nd f (List.range N) : Int) = (w : Int) := Option.some.inj hw2
  exact ⟨nd f (List.range N), by omega, e1, e2⟩
end
end Go.Proofs.Ytiiljfpbcanphaa.G

/- Splits, told by both. -/
namespace Go.Proofs.Ytiiljfpbcanphaa.G
open Go Go.Sx Go.Proofs
theorem neg_side (m : Nat) (c : Int) (h : m ≤ 18 ∧ 0 ≤ c ∧ c ≤ 3) : w64 (0 - ((m : Int) + c)) = -((m : Int) + c) := (w64_in (by omega)).trans (Int.zero_sub _)
theorem split_same {s : List (List Int)} (h : Surf s) {i : Nat} (hi : i < s.length) : spec_l07Split.f s i = some (split3 s i) ∧ ((split3 s i).length ≤ 14 ∧ ∀ r ∈ (split3 s i), r.length ≤ 3) ∧ ((impl_cloneSurface.f s).bind (fun r_3 => (impl_edgesOf.f s).bind (fun r_4 => chk i s.length (chk 0 ((gt s i).length) (chk i r_3.length (chk 1 ((gt s i).length) (chk 2 ((gt s i).length) (small ((r_3.set (i : Int).toNat ([(gt (gt s i) 0), (w64 (r_4 + 1)), (w64 (0 - (w64 (r_4 + 2))))] : List Int)).length + 2) (some (((r_3.set (i : Int).toNat ([(gt (gt s i) 0), (w64 (r_4 + 1)), (w64 (0 - (w64 (r_4 + 2))))] : List Int)) ++ [([(gt (gt s i) 1), (w64 (r_4 + 3)), (w64 (0 - (w64 (r_4 + 1))))] : List Int), ([(gt (gt s i) 2), (w64 (r_4 + 2)), (w64 (0 - (w64 (r_4 + 3))))] : List Int)]), (0 : Int))))))))))) = some (split3 s i, 0) := by
  have h2 := h.most
  have hm : ed s.length ≤ 18 := by unfold ed; omega
  have h3 := (row_entry (h.row i hi) (q := 0) (by omega)).2
  have hr3 : ∀ r ∈ s, r.length = 3 := by
    intro r hr
    obtain ⟨q, hq, rfl⟩ := List.mem_iff_getElem.1 hr
    have := (row_entry (h.row q hq) (q := 0) (by omega)).2
    rwa [gt_at hq] at this
  have hc := clone_eq s (by omega) (fun r hr => by have := hr3 r hr; omega)
  unfold spec_l07Split.f impl_edgesOf.f
  rw [hc.1, hc.2, edges_eq (by omega)]
  simp only [Option.bind_some, h3, List.length_set]
  rw [chk_in (by omega), chk_in (by simp), chk_in (by omega), chk_in (by simp), chk_in (by simp), small_in (by omega)]
  have e1 : w64 (w64 (0 - (ed s.length : Int)) - 2) = -((ed s.length : Int) + 2) := by
    rw [w64_in (x := 0 - (ed s.length : Int)) (by omega), w64_in (by omega)]; omega
  have e2 : w64 (w64 (0 - (ed s.length : Int)) - 1) = -((ed s.length : Int) + 1) := by
    rw [w64_in (x := 0 - (ed s.length : Int)) (by omega), w64_in (by omega)]; omega
  have e3 : w64 (w64 (0 - (ed s.length : Int)) - 3) = -((ed s.length : Int) + 3) := by
    rw [w64_in (x := 0 - (ed s.length : Int)) (by omega), w64_in (by omega)]; omega
  have f1 : w64 ((ed s.length : Int) + 1) = (ed s.length : Int) + 1 := w64_in (by omega)
  have f2 : w64 ((ed s.length : Int) + 2) = (ed s.length : Int) + 2 := w64_in (by omega)
  have f3 : w64 ((ed s.length : Int) + 3) = (ed s.length : Int) + 3 := w64_in (by omega)
  have g1 : w64 (0 - ((ed s.length : Int) + 1)) = -((ed s.length : Int) + 1) := neg_side _ _ ⟨hm, by decide, by decide⟩
  have g2 : w64 (0 - ((ed s.length : Int) + 2)) = -((ed s.length : Int) + 2) := neg_side _ _ ⟨hm, by decide, by decide⟩
  have g3 : w64 (0 - ((ed s.length : Int) + 3)) = -((ed s.length : Int) + 3) := neg_side _ _ ⟨hm, by decide, by decide⟩
  rw [e1, e2, e3, f1, f2, f3, g1, g2, g3]
  refine ⟨rfl, ⟨by unfold split3; simp; omega, ?_⟩, by rw [chk_in (by omega), chk_in (by simp), chk_in (by omega), chk_in (by simp), chk_in (by simp), small_in (by omega)]; rfl⟩
  intro r hr
  rcases List.mem_append.1 hr with hr | hr
  · rcases List.mem_or_eq_of_mem_set hr with hr | rfl
    · have := hr3 r hr; omega
    · simp
  · simp only [List.mem_cons, List.not_mem_nil, or_false] at hr
    rcases hr with rfl | rfl <;> simp
theorem st_full {s : List (List Int)} (h1 : s.length ≤ 1048576) (i : Int) : ∃ o e, spec_SplitTriangle.f s i = some (o, e) ∧ impl_SplitTriangle.f s i = some (o, e) ∧ (o.length ≤ 14 ∧ ∀ r ∈ o, r.length ≤ 3) ∧ (e = 0 → Surf s ∧ s.length + 2 ≤ 12 ∧ ∃ j : Nat, j < s.length ∧ o = split3 s j) := by
  unfold spec_SplitTriangle.f impl_SplitTriangle.f
  rw [specSurf h1, implSurf h1]
  cases hb : surfB s with
  | false => exact ⟨_, _, rfl, rfl, ⟨by simp, by simp⟩, fun h => absurd h (by decide)⟩
  | true =>
    have h := surf_of hb
    have h2 := h.most
    have h0 := h.two
    unfold spec_l01In.f impl_in.f
    simp only [Option.bind_some, Bool.not_true, cond_false]
    rw [w64_in (x := (s.length : Int) - 1) (by omega), w64_in (x := (s.length : Int) + 2) (by omega)]
    by_cases hi : 0 ≤ i ∧ i ≤ (s.length : Int) - 1
    · have e : (decide (i ≥ 0) && decide (i ≤ (s.length : Int) - 1)) = true := by simp; omega
      rw [e]
      simp only [Bool.not_true, cond_false]
      by_cases hl : (s.length : Int) + 2 > 12
      · rw [decide_eq_true hl]
        exact ⟨_, _, rfl, rfl, ⟨by simp, by simp⟩, fun h => absurd h (by decide)⟩
      · rw [decide_eq_false hl]
        simp only [cond_false]
        obtain ⟨j, rfl⟩ := Int.eq_ofNat_of_zero_le hi.1
        obtain ⟨a1, a2, a3⟩ := split_same h (i := j) (by omega)
        rw [a1]
        exact ⟨_, 0, rfl, a3, a2, fun _ => ⟨h, by omega, j, by omega, rfl⟩⟩
    · have e : (decide (i ≥ 0) && decide (i ≤ (s.length : Int) - 1)) = false := by
        rw [Bool.and_eq_false_iff]
        simp only [decide_eq_false_iff_not]
        omega
      rw [e]
      exact ⟨_, _, rfl, rfl, ⟨by simp, by simp⟩, fun h => absurd h (by decide)⟩
end Go.Proofs.Ytiiljfpbcanphaa.G
