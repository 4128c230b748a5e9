/- The law of FlipEdge tells true. -/
import Derived.Test.YtnppkcemnjkboaaPOriented
import Derived.Test.YtnppkcemnjkboaaPMarkDeep
import Derived.Test.YtnppkcemnjkboaaPClone
import Derived.Test.YtnppkcemnjkboaaQ8
namespace Go.Proofs.Ytnppkcemnjkboaa.G
open Go Go.Sx Go.Proofs
theorem in_rowP (s : List (List Int)) (i : Nat) : ∀ {j q : Nat}, q < j → (((i : Int), (q : Int)), entry s i q) ∈ rowP s i j
  | 0, _, h => by omega
  | j + 1, q, h => by
    by_cases hq : q = j
    · subst hq; exact List.mem_append.2 (.inr (by simp))
    · exact List.mem_append.2 (.inl (in_rowP s i (by omega)))
theorem in_preP (s : List (List Int)) : ∀ {n i q : Nat}, i < n → q < 3 → (((i : Int), (q : Int)), entry s i q) ∈ preP s n
  | 0, _, _, h, _ => by omega
  | n + 1, i, q, h, hq => by
    by_cases hi : i = n
    · subst hi; exact List.mem_append.2 (.inr (in_rowP s i hq))
    · exact List.mem_append.2 (.inl (in_preP s (by omega) hq))
theorem find_eq {s : List (List Int)} (h : Surf s) {i0 q0 : Nat} (hi0 : i0 < s.length) (hq0 : q0 < 3) (hu : ∀ i q : Nat, i < s.length → q < 3 → entry s i q = entry s i0 q0 → i = i0 ∧ q = q0) : spec_l07Find.f s (entry s i0 q0) = some ((i0 : Int), (q0 : Int)) := by
  have h2 := h.most
  unfold spec_l07Find.f
  have hin : ∀ i, i < s.length → loop (spec_l07Find.b0 i s (entry s i0 q0)) 0 = some (match (List.range 3).find? (fun q => entry s i q == entry s i0 q0) with | some q => .ret (.ret ((i : Int), (q : Int))) | none => .brk ((3 : Nat) : Int)) := by
    intro i hi
    exact loop_find (f := spec_l07Find.b0 i s (entry s i0 q0)) (fun q => (q : Int)) 3 (fun q => entry s i q == entry s i0 q0) (fun q => .ret ((i : Int), (q : Int))) ((3 : Nat) : Int) (by omega) (fun q hq => by
      unfold spec_l07Find.b0
      have h3 := (row_entry (h.row i hi) (q := 0) (by omega)).2
      have hq' : decide ((q : Int) < 3) = true := by simp; omega
      rw [hq', cond_true, chk_in (by omega), chk_in (by omega), w64_succ (by omega)]
      have : (gt (gt s (i : Int)) (q : Int) == entry s i0 q0) = (entry s i q == entry s i0 q0) := rfl
      rw [this]
      cases (entry s i q == entry s i0 q0) <;> rfl) (by
      unfold spec_l07Find.b0
      rfl)
  have ho := loop_find (f := spec_l07Find.b1 s (entry s i0 q0)) (fun i => (i : Int)) s.length (fun i => (List.range 3).any fun q => entry s i q == entry s i0 q0) (fun i => ((i : Int), ((((List.range 3).find? (fun q => entry s i q == entry s i0 q0)).getD 0 : Nat) : Int))) (s.length : Int) (by omega) (fun i hi => by
    unfold spec_l07Find.b1
    simp only [dlt_nat, hi, decide_true, cond_true]
    rw [hin i hi, w64_succ (by omega)]
    cases hf : (List.range 3).find? (fun q => entry s i q == entry s i0 q0) with
    | none =>
      have : (List.range 3).any (fun q => entry s i q == entry s i0 q0) = false := by
        rw [List.any_eq_false]; intro x hx; have := List.find?_eq_none.1 hf x hx; simpa using this
      rw [this]; rfl
    | some q =>
      have : (List.range 3).any (fun q => entry s i q == entry s i0 q0) = true := List.any_eq_true.2 ⟨q, List.mem_of_find?_eq_some hf, List.find?_some (p := fun q => entry s i q == entry s i0 q0) hf⟩
      rw [this]; rfl) (by
    unfold spec_l07Find.b1
    simp)
  have hfi : (List.range s.length).find? (fun i => (List.range 3).any fun q => entry s i q == entry s i0 q0) = some i0 := by
    cases hc : (List.range s.length).find? (fun i => (List.range 3).any fun q => entry s i q == entry s i0 q0) with
    | none =>
      have := List.find?_eq_none.1 hc i0 (List.mem_range.2 hi0)
      exact absurd (List.any_eq_true.2 ⟨q0, List.mem_range.2 hq0, by simp⟩) this
    | some i =>
      have a1 := List.mem_range.1 (List.mem_of_find?_eq_some hc)
      have a2 := List.find?_some (p := fun i => (List.range 3).any fun q => entry s i q == entry s i0 q0) hc
      obtain ⟨q, hq, hb⟩ := List.any_eq_true.1 a2
      rw [(hu i q a1 (List.mem_range.1 hq) (by simpa using hb)).1]
  have hfq : (List.range 3).find? (fun q => entry s i0 q == entry s i0 q0) = some q0 := by
    cases hc : (List.range 3).find? (fun q => entry s i0 q == entry s i0 q0) with
    | none =>
      have := List.find?_eq_none.1 hc q0 (List.mem_range.2 hq0)
      simp at this
    | some q =>
      have a1 := List.mem_range.1 (List.mem_of_find?_eq_some hc)
      have a2 := List.find?_some (p := fun q => entry s i0 q == entry s i0 q0) hc
      rw [(hu i0 q hi0 a1 (by simpa using a2)).2]
  have ho' : loop (spec_l07Find.b1 s (entry s i0 q0)) 0 = _ := ho
  rw [ho', hfi]
  show some ((i0 : Int), ((((List.range 3).find? (fun q => entry s i0 q == entry s i0 q0)).getD 0 : Nat) : Int)) = _
  rw [hfq]; rfl
/-- The two sides of an edge of an oriented surface. -/
theorem Surf.pair {s : List (List Int)} (h : Surf s) {k : Nat} (hk : k < ed s.length) (ho : sg (preP s s.length) (k + 1) = 0) :
    ∃ i x j y : Nat, i < s.length ∧ x < 3 ∧ j < s.length ∧ y < 3 ∧ entry s i x = ((k + 1 : Nat) : Int) ∧ entry s j y = -((k + 1 : Nat) : Int) ∧
      (sdl (preP s s.length) (k + 1) = [((i : Int), (x : Int)), ((j : Int), (y : Int))] ∨ sdl (preP s s.length) (k + 1) = [((j : Int), (y : Int)), ((i : Int), (x : Int))]) ∧
      (∀ a b : Nat, a < s.length → b < 3 → entry s a b = entry s i x → a = i ∧ b = x) ∧ (∀ a b : Nat, a < s.length → b < 3 → entry s a b = entry s j y → a = j ∧ b = y) := by
  obtain ⟨p, q, hf, hp, hq, ap, aq⟩ := h.edge2 hk
  obtain ⟨i, x, hi, hx, rfl⟩ := mem_preP hp
  obtain ⟨j, y, hj, hy, rfl⟩ := mem_preP hq
  have hs : sdl (preP s s.length) (k + 1) = [((i : Int), (x : Int)), ((j : Int), (y : Int))] := by rw [sdl_fl, hf]; rfl
  unfold sg at ho
  rw [hf] at ho
  simp only [List.map_cons, List.map_nil, List.sum_cons, List.sum_nil] at ho ap aq
  have hu : ∀ a b : Nat, a < s.length → b < 3 → (entry s a b).natAbs = k + 1 → ((((a : Int), (b : Int)), entry s a b) : Side) = (((i : Int), (x : Int)), entry s i x) ∨ ((((a : Int), (b : Int)), entry s a b) : Side) = (((j : Int), (y : Int)), entry s j y) := by
    intro a b ha hb hab
    have hm : ((((a : Int), (b : Int)), entry s a b) : Side) ∈ fl (preP s s.length) (k + 1) := by
      unfold fl
      rw [List.mem_filter]
      exact ⟨in_preP s ha hb, by simpa using hab⟩
    rw [hf] at hm
    simpa using hm
  have hsgn : (entry s i x > 0 ∧ ¬ entry s j y > 0) ∨ (¬ entry s i x > 0 ∧ entry s j y > 0) := by
    unfold sn at ho
    by_cases h1 : entry s i x > 0 <;> by_cases h2 : entry s j y > 0 <;> simp [h1, h2] at ho ⊢ <;> omega
  have key1 : ∀ a b : Nat, a < s.length → b < 3 → entry s a b = entry s i x → a = i ∧ b = x := by
    intro a b ha hb he
    rcases hu a b ha hb (by rw [he]; exact ap) with e | e
    · simp only [Prod.mk.injEq] at e; omega
    · simp only [Prod.mk.injEq] at e; omega
  have key2 : ∀ a b : Nat, a < s.length → b < 3 → entry s a b = entry s j y → a = j ∧ b = y := by
    intro a b ha hb he
    rcases hu a b ha hb (by rw [he]; exact aq) with e | e
    · simp only [Prod.mk.injEq] at e; omega
    · simp only [Prod.mk.injEq] at e; omega
  rcases hsgn with ⟨h1, h2⟩ | ⟨h1, h2⟩
  · exact ⟨i, x, j, y, hi, hx, hj, hy, by omega, by omega, .inl hs, key1, key2⟩
  · exact ⟨j, y, i, x, hj, hy, hi, hx, by omega, by omega, .inr hs, key2, key1⟩
def flipped (s : List (List Int)) (k : Int) (i x j y : Nat) : List (List Int) :=
  (s.set i [k, entry s i ((x + 2) % 3), entry s j ((y + 1) % 3)]).set j [-k, entry s j ((y + 2) % 3), entry s i ((x + 1) % 3)]
theorem mod3 (x : Nat) (c : Nat) (hx : x < 3) (hc : c < 10) : Int.tmod (w64 ((x : Int) + (c : Int))) 3 = (((x + c) % 3 : Nat) : Int) := by
  rw [w64_in (by omega), Int.tmod_eq_emod_of_nonneg (by omega)]; omega
theorem from_eq {s : List (List Int)} (h : Surf s) {i x : Nat} (hi : i < s.length) (hx : x < 3) : impl_from.f (gt s (i : Int)) x = some (entry s i ((x + 1) % 3), entry s i ((x + 2) % 3)) := by
  have h3 := (row_entry (h.row i hi) (q := 0) (by omega)).2
  have m1 := mod3 x 1 hx (by omega)
  have m2 := mod3 x 2 hx (by omega)
  unfold impl_from.f
  rw [show ((x : Int) + 1) = (x : Int) + ((1 : Nat) : Int) from rfl, show ((x : Int) + 2) = (x : Int) + ((2 : Nat) : Int) from rfl, m1, m2, h3, chk_in (by omega), chk_in (by omega)]
  rfl
theorem rows3 {s : List (List Int)} (h : Surf s) : ∀ r ∈ s, r.length = 3 := by
  intro r hr
  obtain ⟨q, hq, rfl⟩ := List.mem_iff_getElem.1 hr
  have := (row_entry (h.row q hq) (q := 0) (by omega)).2
  rwa [gt_at hq] at this
theorem specFlip {s : List (List Int)} (h : Surf s) {k : Nat} {i x j y : Nat} (hk : k < ed s.length) (hi : i < s.length) (hx : x < 3) (hj : j < s.length) (hy : y < 3) (e1 : entry s i x = ((k + 1 : Nat) : Int)) (e2 : entry s j y = -((k + 1 : Nat) : Int))
    (u1 : ∀ a b : Nat, a < s.length → b < 3 → entry s a b = entry s i x → a = i ∧ b = x) (u2 : ∀ a b : Nat, a < s.length → b < 3 → entry s a b = entry s j y → a = j ∧ b = y) :
    spec_l07Flip.f s ((k + 1 : Nat) : Int) = some (if i = j then ([], false) else (flipped s ((k + 1 : Nat) : Int) i x j y, true)) := by
  have h2 := h.most
  have hm : ed s.length ≤ 18 := by unfold ed; omega
  have f1 := find_eq h hi hx u1
  have f2 := find_eq h hj hy u2
  rw [e1] at f1
  rw [e2] at f2
  unfold spec_l07Flip.f
  have en : w64 (0 - ((k + 1 : Nat) : Int)) = -((k + 1 : Nat) : Int) := by rw [w64_in (by omega)]; omega
  rw [f1, en, f2]
  simp only [Option.bind_some]
  by_cases hij : i = j
  · subst hij
    simp
  · have hb : ((i : Int) == (j : Int)) = false := by simp; omega
    rw [hb, cond_false, if_neg hij, (clone_eq s (by omega) (fun r hr => by have := rows3 h r hr; omega)).1, Option.bind_some]
    have h3 := (row_entry (h.row i hi) (q := 0) (by omega)).2
    have h4 := (row_entry (h.row j hj) (q := 0) (by omega)).2
    have m1 := mod3 x 1 hx (by omega)
    have m2 := mod3 x 2 hx (by omega)
    have m3 := mod3 y 1 hy (by omega)
    have m4 := mod3 y 2 hy (by omega)
    have c1 : ∀ q : Int, q + 1 = q + ((1 : Nat) : Int) := fun _ => rfl
    have c2 : ∀ q : Int, q + 2 = q + ((2 : Nat) : Int) := fun _ => rfl
    rw [c1 (x : Int), c2 (x : Int), c1 (y : Int), c2 (y : Int), m1, m2, m3, m4, h3, h4]
    simp only [List.length_set]
    rw [chk_in (by omega), chk_in (by omega), chk_in (by omega), chk_in (by omega), chk_in (by omega), chk_in (by omega), chk_in (by omega), chk_in (by omega)]
    rfl
theorem implTail {s : List (List Int)} (h : Surf s) {k : Nat} {i x j y : Nat} (hk : k < ed s.length) (hi : i < s.length) (hx : x < 3) (hj : j < s.length) (hy : y < 3) :
    (chk (i : Int) s.length ((impl_from.f (gt s i) x).bind (fun p => match p with | (r_8, r_9) => chk (j : Int) s.length ((impl_from.f (gt s j) y).bind (fun p => match p with | (r_10, r_11) => (impl_cloneSurface.f s).bind (fun r_12 => chk (i : Int) r_12.length (chk (j : Int) ((r_12.set (i : Int).toNat ([((k + 1 : Nat) : Int), r_9, r_10] : List Int)).length) (some (((r_12.set (i : Int).toNat ([((k + 1 : Nat) : Int), r_9, r_10] : List Int)).set (j : Int).toNat ([(w64 (0 - ((k + 1 : Nat) : Int))), r_11, r_8] : List Int)), (0 : Int)))))))))) = some (flipped s ((k + 1 : Nat) : Int) i x j y, 0) := by
  have h2 := h.most
  have hm : ed s.length ≤ 18 := by unfold ed; omega
  have en : w64 (0 - ((k + 1 : Nat) : Int)) = -((k + 1 : Nat) : Int) := by rw [w64_in (by omega)]; omega
  rw [chk_in (by omega), from_eq h hi hx]
  simp only [Option.bind_some]
  rw [chk_in (by omega), from_eq h hj hy]
  simp only [Option.bind_some]
  rw [(clone_eq s (by omega) (fun r hr => by have := rows3 h r hr; omega)).2, Option.bind_some, chk_in (by omega), List.length_set, chk_in (by omega), en]
  rfl
theorem fe_same {s : List (List Int)} (h1 : s.length ≤ 1048576) (k : Int) : ∃ o e, spec_FlipEdge.f s k = some (o, e) ∧ impl_FlipEdge.f s k = some (o, e) ∧ o.length ≤ 12 ∧ ∀ r ∈ o, r.length ≤ 3 := by
  unfold spec_FlipEdge.f impl_FlipEdge.f
  rw [specSurf h1, implSurf h1]
  cases hb : surfB s with
  | false => exact ⟨_, _, rfl, rfl, by simp, by simp⟩
  | true =>
    have h := surf_of hb
    have h2 := h.most
    have h0 := h.two
    have hm : ed s.length ≤ 18 := by unfold ed; omega
    unfold spec_l01In.f impl_edgesOf.f impl_in.f
    simp only [Option.bind_some, Bool.not_true, cond_false]
    rw [edges_eq (by omega)]
    by_cases hk : 1 ≤ k ∧ k ≤ (ed s.length : Int)
    · have e : (decide (k ≥ 1) && decide (k ≤ (ed s.length : Int))) = true := by simp; omega
      rw [e]
      simp only [Bool.not_true, cond_false]
      obtain ⟨q, hq⟩ : ∃ q : Nat, k = ((q + 1 : Nat) : Int) := ⟨(k - 1).toNat, by omega⟩
      subst hq
      have hqk : q < ed s.length := by omega
      rw [specOr h, sides_eq (by omega) h.row, implOr h]
      simp only [Option.bind_some]
      rw [tab_length, chk_in (by omega), tab_gt _ (by omega)]
      cases hor : orB s with
      | false => exact ⟨_, _, rfl, rfl, by simp, by simp⟩
      | true =>
        have hsg : sg (preP s s.length) (q + 1) = 0 := by
          unfold orB at hor
          have hor2 : (List.range (ed s.length)).any (sameE s) = false := by simpa using hor
          rw [List.any_eq_false] at hor2
          have := hor2 q (List.mem_range.2 hqk)
          unfold sameE at this
          simpa using this
        obtain ⟨i, x, j, y, hi, hx, hj, hy, e1, e2, hs, u1, u2⟩ := h.pair hqk hsg
        simp only [Bool.not_true, cond_false]
        rw [specFlip h hqk hi hx hj hy e1 e2 u1 u2]
        have tail := implTail h hqk hi hx hj hy
        have r3 := rows3 h
        have h3 := (row_entry (h.row i hi) (q := 0) (by omega)).2
        have h4 := (row_entry (h.row j hj) (q := 0) (by omega)).2
        have ei : gt (gt s (i : Int)) (x : Int) = ((q + 1 : Nat) : Int) := e1
        have ej : gt (gt s (j : Int)) (y : Int) = -((q + 1 : Nat) : Int) := e2
        have fin : (flipped s ((q + 1 : Nat) : Int) i x j y).length ≤ 12 ∧ ∀ r ∈ flipped s ((q + 1 : Nat) : Int) i x j y, r.length ≤ 3 := by
          unfold flipped
          refine ⟨by simp; omega, fun r hr => ?_⟩
          rcases List.mem_or_eq_of_mem_set hr with hr | rfl
          · rcases List.mem_or_eq_of_mem_set hr with hr | rfl
            · have := r3 r hr; omega
            · simp
          · simp
        by_cases hij : i = j
        · refine ⟨[], 5, ?_, ?_, by simp, by simp⟩
          · rw [if_pos hij]; rfl
          · subst hij
            rcases hs with hs | hs <;> rw [hs]
            · have g0 : gt [((i : Int), (x : Int)), ((i : Int), (y : Int))] 0 = ((i : Int), (x : Int)) := rfl
              have g1 : gt [((i : Int), (x : Int)), ((i : Int), (y : Int))] 1 = ((i : Int), (y : Int)) := rfl
              rw [chk_in (by simp), chk_in (by simp), g0, g1]
              simp
            · have g0 : gt [((i : Int), (y : Int)), ((i : Int), (x : Int))] 0 = ((i : Int), (y : Int)) := rfl
              have g1 : gt [((i : Int), (y : Int)), ((i : Int), (x : Int))] 1 = ((i : Int), (x : Int)) := rfl
              rw [chk_in (by simp), chk_in (by simp), g0, g1]
              simp
        · refine ⟨flipped s ((q + 1 : Nat) : Int) i x j y, 0, ?_, ?_, fin.1, fin.2⟩
          · rw [if_neg hij]; rfl
          · rcases hs with hs | hs <;> rw [hs]
            · have g0 : gt [((i : Int), (x : Int)), ((j : Int), (y : Int))] 0 = ((i : Int), (x : Int)) := rfl
              have g1 : gt [((i : Int), (x : Int)), ((j : Int), (y : Int))] 1 = ((j : Int), (y : Int)) := rfl
              rw [chk_in (by simp), chk_in (by simp), g0, g1]
              have hb : ((i : Int) == (j : Int)) = false := by simp; omega
              simp only [hb, cond_false]
              rw [chk_in (by omega), h3, chk_in (by omega), ei, decide_eq_false (by omega), cond_false, Option.bind_some]
              exact tail
            · have g0 : gt [((j : Int), (y : Int)), ((i : Int), (x : Int))] 0 = ((j : Int), (y : Int)) := rfl
              have g1 : gt [((j : Int), (y : Int)), ((i : Int), (x : Int))] 1 = ((i : Int), (x : Int)) := rfl
              rw [chk_in (by simp), chk_in (by simp), g0, g1]
              have hb : ((j : Int) == (i : Int)) = false := by simp; omega
              simp only [hb, cond_false]
              rw [chk_in (by omega), h4, chk_in (by omega), ej, decide_eq_true (by omega), cond_true, Option.bind_some]
              exact tail
    · have e : (decide (k ≥ 1) && decide (k ≤ (ed s.length : Int))) = false := by
        rw [Bool.and_eq_false_iff]
        simp only [decide_eq_false_iff_not]
        omega
      rw [e]
      exact ⟨_, _, rfl, rfl, by simp, by simp⟩
theorem plain_FnExactFlipEdge (s : List (List Int)) (k : Int) (_w : ∀ r ∈ s, ∀ x ∈ r, IntKind.i64.has x) (z : ∀ r ∈ s, r.length ≤ 9223372036854775807) (y : s.length ≤ 9223372036854775807) (_wi : IntKind.i64.has k) : laws_FnExactFlipEdge.f s k = some true := by
  unfold laws_FnExactFlipEdge.f
  obtain ⟨q, hq, h⟩ := szSS s 1048576 (by omega) y z
  have hq' : laws_szInt64SS.f s 1048576 = some q := hq
  rw [hq', Option.bind_some]
  rcases h with h | ⟨h0, h1, h2, h3⟩
  · rw [decide_eq_true h]; rfl
  · rw [decide_eq_false (by omega), cond_false, toSS s h1 h2]
    obtain ⟨o, e, e1, e2, e3, e4⟩ := fe_same h1 k
    have b1 := eqSS_refl s (by omega) (fun r hr => by have := h2 r hr; omega)
    have b2 := eqSS_refl o (by omega) (fun r hr => by have := e4 r hr; omega)
    have t1 : tot 1 s ≤ 1048577 := by rw [tot_eq]; omega
    have t2 : tot 1 o ≤ 100 := by
      have := sum_le_mul 3 o e4
      rw [tot_eq]; omega
    have m1 : laws_markInt64SS.f s 1 = some ((tot 1 s : Int), marks 1 s) := markSS s 1 (by omega) (by omega)
    have m2 : laws_markInt64SS.f o 1 = some ((tot 1 o : Int), marks 1 o) := markSS o 1 (by omega) (by omega)
    have m3 : laws_heldInt64SS.f (marks 1 o) 1 = some (tot 1 o : Int) := heldSS o 1 (by omega) (by omega)
    have d1 : decide ((tot 1 s : Int) < 0) = false := decide_eq_false (by omega)
    have d2 : decide ((tot 1 o : Int) < 0) = false := decide_eq_false (by omega)
    have n1 : (e != e) = false := by simp
    have n2 : ((tot 1 o : Int) != (tot 1 o : Int)) = false := by simp
    simp only [Option.bind_some, e1, e2, b1, b2, m1, m2, m3, d1, d2, n1, n2, Bool.not_true, Bool.or_false, cond_false]
end Go.Proofs.Ytnppkcemnjkboaa.G
