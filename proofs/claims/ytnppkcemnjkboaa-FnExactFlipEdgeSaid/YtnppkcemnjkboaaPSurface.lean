/- What a surface is, told by both. -/
import Derived.Test.YtnppkcemnjkboaaPCopyDeep
import Derived.Test.YtnppkcemnjkboaaQ53
import Derived.Test.YtnppkcemnjkboaaQ37
namespace Go.Proofs.Ytnppkcemnjkboaa.G
open Go Go.Sx Go.Proofs
theorem any_at {α : Type} [Inhabited α] (a : List α) (p : α → Bool) : (List.range a.length).any (fun (i : Nat) => p (gt a (i : Int))) = a.any p := by
  rw [Bool.eq_iff_iff, List.any_eq_true, List.any_eq_true]
  constructor
  · rintro ⟨i, hi, h⟩
    have hi' := List.mem_range.1 hi
    exact ⟨a[i], List.getElem_mem _, by rwa [gt_at hi'] at h⟩
  · rintro ⟨x, hx, h⟩
    obtain ⟨i, hi, rfl⟩ := List.mem_iff_getElem.1 hx
    exact ⟨i, List.mem_range.2 hi, by rw [gt_at hi]; exact h⟩
theorem containsInts (a : List Int) (h : a.length < 1000000) (f : Int → Option Bool) (p : Int → Bool) (hf : ∀ x ∈ a, f x = some (p x)) : slices_ContainsFunc_int64_int64.f a f = some (a.any p) := by
  unfold slices_ContainsFunc_int64_int64.f slices_IndexFunc_int64_int64.f
  have hl := loop_find (f := slices_IndexFunc_int64_int64.b0 a f) (fun i => (i : Int)) a.length (fun (i : Nat) => p (gt a (i : Int))) (fun i => (i : Int)) (a.length : Int) (by omega) (fun i hi => by
    unfold slices_IndexFunc_int64_int64.b0
    simp only [dlt_nat, hi, decide_true, cond_true]
    rw [chk_in (by omega), hf _ (by rw [gt_at hi]; exact List.getElem_mem _), Option.bind_some, w64_succ (by omega)]
    cases p (gt a (i : Int)) <;> rfl) (by
    unfold slices_IndexFunc_int64_int64.b0
    simp)
  have hl' : loop (slices_IndexFunc_int64_int64.b0 a f) 0 = _ := hl
  rw [hl', ← any_at a p]
  cases hfd : (List.range a.length).find? (fun (i : Nat) => p (gt a (i : Int))) with
  | none =>
    have : (List.range a.length).any (fun (i : Nat) => p (gt a (i : Int))) = false := by
      rw [List.any_eq_false]; intro x hx; have := List.find?_eq_none.1 hfd x hx; simpa using this
    rw [this]; rfl
  | some i =>
    have : (List.range a.length).any (fun (i : Nat) => p (gt a (i : Int))) = true := List.any_eq_true.2 ⟨i, List.mem_of_find?_eq_some hfd, List.find?_some (p := fun (i : Nat) => p (gt a (i : Int))) hfd⟩
    rw [this]
    have hd : decide ((i : Int) ≥ 0) = true := by simp
    simp only [Option.bind_some, ln, hd]
theorem containsSides (a : List (List (Int × Int))) (h : a.length < 1000000) (f : List (Int × Int) → Option Bool) (p : List (Int × Int) → Bool) (hf : ∀ x ∈ a, f x = some (p x)) : slices_ContainsFunc_impl_sided_impl_sided.f a f = some (a.any p) := by
  unfold slices_ContainsFunc_impl_sided_impl_sided.f slices_IndexFunc_impl_sided_impl_sided.f
  have hl := loop_find (f := slices_IndexFunc_impl_sided_impl_sided.b0 a f) (fun i => (i : Int)) a.length (fun (i : Nat) => p (gt a (i : Int))) (fun i => (i : Int)) (a.length : Int) (by omega) (fun i hi => by
    unfold slices_IndexFunc_impl_sided_impl_sided.b0
    simp only [dlt_nat, hi, decide_true, cond_true]
    rw [chk_in (by omega), hf _ (by rw [gt_at hi]; exact List.getElem_mem _), Option.bind_some, w64_succ (by omega)]
    cases p (gt a (i : Int)) <;> rfl) (by
    unfold slices_IndexFunc_impl_sided_impl_sided.b0
    simp)
  have hl' : loop (slices_IndexFunc_impl_sided_impl_sided.b0 a f) 0 = _ := hl
  rw [hl', ← any_at a p]
  cases hfd : (List.range a.length).find? (fun (i : Nat) => p (gt a (i : Int))) with
  | none =>
    have : (List.range a.length).any (fun (i : Nat) => p (gt a (i : Int))) = false := by
      rw [List.any_eq_false]; intro x hx; have := List.find?_eq_none.1 hfd x hx; simpa using this
    rw [this]; rfl
  | some i =>
    have : (List.range a.length).any (fun (i : Nat) => p (gt a (i : Int))) = true := List.any_eq_true.2 ⟨i, List.mem_of_find?_eq_some hfd, List.find?_some (p := fun (i : Nat) => p (gt a (i : Int))) hfd⟩
    rw [this]
    have hd : decide ((i : Int) ≥ 0) = true := by simp
    simp only [Option.bind_some, ln, hd]

/-! ### the sides of the edges -/
abbrev Side := (Int × Int) × Int
def entry (s : List (List Int)) (i q : Nat) : Int := gt (gt s (i : Int)) (q : Int)
def rowP (s : List (List Int)) (i : Nat) : Nat → List Side
  | 0 => []
  | j + 1 => rowP s i j ++ [(((i : Int), (j : Int)), entry s i j)]
def preP (s : List (List Int)) : Nat → List Side
  | 0 => []
  | i + 1 => preP s i ++ rowP s i 3
def sdl (P : List Side) (k : Nat) : List (Int × Int) := (P.filter fun p => p.2.natAbs == k).map (·.1)
def tab (m : Nat) (P : List Side) : List (List (Int × Int)) := (List.range (m + 1)).map (sdl P)
def cnt (m : Nat) (P : List Side) : List Int := (List.range (m + 1)).map fun k => ((sdl P k).length : Int)
theorem rowP_length (s : List (List Int)) (i : Nat) : ∀ j, (rowP s i j).length = j
  | 0 => rfl
  | j + 1 => by simp only [rowP, List.length_append, rowP_length s i j]; rfl
theorem preP_length (s : List (List Int)) : ∀ i, (preP s i).length = 3 * i
  | 0 => rfl
  | i + 1 => by simp only [preP, List.length_append, preP_length s i, rowP_length]; omega
theorem sdl_le (P : List Side) (k : Nat) : (sdl P k).length ≤ P.length := by
  unfold sdl; rw [List.length_map]; exact List.length_filter_le _ _
theorem sdl_add (P : List Side) (a : Int × Int) (x : Int) (k : Nat) : sdl (P ++ [(a, x)]) k = if x.natAbs = k then sdl P k ++ [a] else sdl P k := by
  unfold sdl
  rw [List.filter_append, List.map_append]
  by_cases h : x.natAbs = k
  · rw [if_pos h]
    simp [List.filter, h]
  · rw [if_neg h]
    have : (x.natAbs == k) = false := by simpa using h
    simp [List.filter, this]
theorem tab_length (m : Nat) (P : List Side) : (tab m P).length = m + 1 := by simp [tab]
theorem cnt_length (m : Nat) (P : List Side) : (cnt m P).length = m + 1 := by simp [cnt]
theorem tab_gt {m k : Nat} (P : List Side) (h : k ≤ m) : gt (tab m P) (k : Int) = sdl P k := by
  have : k < m + 1 := by omega
  simp [gt, tab, List.getD, this]
theorem cnt_gt {m k : Nat} (P : List Side) (h : k ≤ m) : gt (cnt m P) (k : Int) = ((sdl P k).length : Int) := by
  have : k < m + 1 := by omega
  simp [gt, cnt, List.getD, this]
theorem tab_add {m : Nat} (P : List Side) (a : Int × Int) (x : Int) : (tab m P).set x.natAbs (sdl P x.natAbs ++ [a]) = tab m (P ++ [(a, x)]) := by
  apply List.ext_getElem?
  intro q
  simp only [tab, List.getElem?_set, List.length_map, List.length_range, List.getElem?_map]
  by_cases hq : q < m + 1
  · by_cases hx : x.natAbs = q
    · subst hx; simp [hq, sdl_add]
    · simp [hq, hx, sdl_add]
  · by_cases hx : x.natAbs = q
    · subst hx; simp [hq]
    · simp [hq, hx]
theorem cnt_add {m : Nat} (P : List Side) (a : Int × Int) (x : Int) : (cnt m P).set x.natAbs (((sdl P x.natAbs).length + 1 : Nat) : Int) = cnt m (P ++ [(a, x)]) := by
  apply List.ext_getElem?
  intro q
  simp only [cnt, List.getElem?_set, List.length_map, List.length_range, List.getElem?_map]
  by_cases hq : q < m + 1
  · by_cases hx : x.natAbs = q
    · subst hx; simp [hq, sdl_add]
    · simp [hq, hx, sdl_add]
  · by_cases hx : x.natAbs = q
    · subst hx; simp [hq]
    · simp [hq, hx]
def entB (m : Nat) (x : Int) : Bool := decide (x ≠ 0) && decide (-(m : Int) ≤ x) && decide (x ≤ (m : Int))
def rowB (m : Nat) (t : List Int) : Bool := decide (t.length = 3) && t.all (entB m)
theorem size_abs {m : Nat} (hm : m ≤ 100) {x : Int} (h : entB m x = true) : (if (w64 (0 - x)) > x then (w64 (0 - x)) else x) = (x.natAbs : Int) := by
  unfold entB at h
  simp only [Bool.and_eq_true, decide_eq_true_eq] at h
  rw [w64_in (by omega)]
  split <;> omega
theorem abs_le {m : Nat} {x : Int} (h : entB m x = true) : x.natAbs ≤ m := by
  unfold entB at h
  simp only [Bool.and_eq_true, decide_eq_true_eq] at h
  omega
def ed (n : Nat) : Nat := n * 3 / 2
theorem edges_eq {n : Nat} (h : n ≤ 100) : w64 (Int.tdiv (w64 ((n : Int) * 3)) 2) = (ed n : Int) := by
  have e1 : w64 ((n : Int) * 3) = (n : Int) * 3 := w64_in (by omega)
  rw [e1, Int.tdiv_eq_ediv_of_nonneg (by omega), w64_in (by omega)]
  unfold ed; omega
theorem row_entry {m : Nat} {s : List (List Int)} {i : Nat} (h : rowB m (gt s (i : Int)) = true) {q : Nat} (hq : q < 3) : entB m (entry s i q) = true ∧ (gt s (i : Int)).length = 3 := by
  unfold rowB at h
  simp only [Bool.and_eq_true, decide_eq_true_eq, List.all_eq_true] at h
  refine ⟨h.2 _ ?_, h.1⟩
  unfold entry
  have e : gt (gt s (i : Int)) (q : Int) = (gt s (i : Int))[q]'(by omega) := gt_at (by omega)
  rw [e]
  exact List.getElem_mem _
/-- The program's list of sides, where all rows are good. -/
theorem sides_eq {s : List (List Int)} (hn : s.length ≤ 100) (hr : ∀ i, i < s.length → rowB (ed s.length) (gt s (i : Int)) = true) : impl_sidesOfEdges.f s = some (tab (ed s.length) (preP s s.length)) := by
  have hm : ed s.length ≤ 150 := by unfold ed; omega
  have hm2 : ed s.length ≤ 100 ∨ True := .inr trivial
  unfold impl_sidesOfEdges.f impl_edgesOf.f
  rw [Option.bind_some, edges_eq hn, w64_succ (by omega), show decide ((0 : Int) ≤ ((ed s.length + 1 : Nat) : Int)) = true by simp; omega]
  simp only [grd, cond_true, Int.toNat_natCast]
  rw [small_in (by omega)]
  have ho := loop1_upto (f := impl_sidesOfEdges.b1 s) (fun i => (tab (ed s.length) (preP s i), (i : Int))) s.length (tab (ed s.length) (preP s s.length), (s.length : Int)) (by omega) (fun i hi => by
    unfold impl_sidesOfEdges.b1
    simp only [dlt_nat, hi, decide_true, cond_true]
    rw [chk_in (by omega)]
    have h3 := (row_entry (hr i hi) (q := 0) (by omega)).2
    have hin := loop1_upto (f := impl_sidesOfEdges.b0 s i) (fun j => (tab (ed s.length) (preP s i ++ rowP s i j), (j : Int))) 3 (tab (ed s.length) (preP s i ++ rowP s i 3), 3) (by omega) (fun j hj => by
      unfold impl_sidesOfEdges.b0
      have he := (row_entry (hr i hi) hj).1
      have hle := abs_le he
      simp only [h3]
      rw [show (((3 : Nat) : Int)) = ((3 : Nat) : Int) from rfl]
      simp only [dlt_nat, hj, decide_true, cond_true]
      rw [chk_in (by omega)]
      have hsz : impl_size.f (gt (gt s (i : Int)) (j : Int)) = some ((entry s i j).natAbs : Int) := by
        unfold impl_size.f
        have : entB (ed s.length) (gt (gt s (i : Int)) (j : Int)) = true := he
        have h2 : (if (w64 (0 - gt (gt s (i : Int)) (j : Int))) > gt (gt s (i : Int)) (j : Int) then (w64 (0 - gt (gt s (i : Int)) (j : Int))) else gt (gt s (i : Int)) (j : Int)) = ((entry s i j).natAbs : Int) := by
          unfold entB at this
          simp only [Bool.and_eq_true, decide_eq_true_eq] at this
          rw [w64_in (by omega)]
          unfold entry
          split <;> omega
        rw [h2]
      rw [hsz, Option.bind_some, tab_length, chk_in (by omega), tab_gt _ hle]
      have hlen : (sdl (preP s i ++ rowP s i j) (entry s i j).natAbs).length + 1 ≤ 1099511627776 := by
        have h1 := sdl_le (preP s i ++ rowP s i j) (entry s i j).natAbs
        rw [List.length_append, preP_length, rowP_length] at h1
        omega
      rw [small_in (by simpa using hlen), Int.toNat_natCast, tab_add, w64_succ (by omega)]
      simp only [rowP, List.append_assoc]) (by
      unfold impl_sidesOfEdges.b0
      simp [h3])
    have hin' : loop1 (impl_sidesOfEdges.b0 s i) (tab (ed s.length) (preP s i), 0) = some (tab (ed s.length) (preP s i ++ rowP s i 3), 3) := by simpa [rowP] using hin
    rw [hin']
    simp only [Option.bind_some, w64_succ (by omega : i < 4611686018427387904)]
    rfl) (by
    unfold impl_sidesOfEdges.b1
    simp)
  have e : List.replicate (ed s.length + 1) ([] : List (Int × Int)) = tab (ed s.length) (preP s 0) := by
    apply List.ext_getElem?
    intro q
    by_cases hq : q < ed s.length + 1 <;> simp [tab, preP, sdl, hq]
  rw [e]
  have ho' : loop1 (impl_sidesOfEdges.b1 s) (tab (ed s.length) (preP s 0), 0) = some (tab (ed s.length) (preP s s.length), (s.length : Int)) := ho
  rw [ho']; rfl
def badRows (s : List (List Int)) : Bool := s.any fun t => !rowB (ed s.length) t
def badEdges (s : List (List Int)) : Bool := (List.range (ed s.length)).any fun k => decide ((sdl (preP s s.length) (k + 1)).length ≠ 2)
/-- What both tell. -/
def surfB (s : List (List Int)) : Bool := decide (2 ≤ s.length) && decide (s.length ≤ 12) && decide (s.length % 2 = 0) && !badRows s && !badEdges s
theorem good_rows {s : List (List Int)} (h : badRows s = false) : ∀ i, i < s.length → rowB (ed s.length) (gt s (i : Int)) = true := by
  intro i hi
  unfold badRows at h
  rw [List.any_eq_false] at h
  have := h (gt s (i : Int)) (by rw [gt_at hi]; exact List.getElem_mem _)
  simpa using this
theorem is1_eq {s : List (List Int)} (hn : s.length ≤ 100) (x : Int) : impl_IsSurface_1.f x s = some (!entB (ed s.length) x) := by
  have hm : ed s.length ≤ 150 := by unfold ed; omega
  unfold impl_IsSurface_1.f impl_edgesOf.f impl_in.f
  rw [edges_eq hn]
  simp only [Option.bind_some]
  rw [w64_in (by omega)]
  unfold entB
  by_cases h0 : x = 0
  · subst h0; simp
  · have : (x == 0) = false := by simpa using h0
    rw [this, cond_false]
    congr 2
    have : decide (x ≠ 0) = true := by simpa using h0
    rw [this, Bool.true_and]
    congr 1
    · congr 1
      apply propext
      constructor <;> intro h <;> omega
theorem drop_tab (m : Nat) (P : List Side) : ((tab m P).drop 1).take ((tab m P).length - 1) = (List.range m).map fun k => sdl P (k + 1) := by
  rw [List.take_of_length_le (by simp)]
  apply List.ext_getElem?
  intro q
  simp only [tab, List.getElem?_drop, List.getElem?_map]
  by_cases hq : q < m
  · rw [List.getElem?_range hq, List.getElem?_range (by omega)]
    simp [Nat.add_comm]
  · rw [List.getElem?_eq_none (by simp; omega), List.getElem?_eq_none (by simp; omega)]
    rfl
theorem implSurf {s : List (List Int)} (hn : s.length ≤ 1048576) : impl_IsSurface.f s = some (surfB s) := by
  unfold impl_IsSurface.f impl_in.f
  rw [Option.bind_some]
  by_cases h : 2 ≤ s.length ∧ s.length ≤ 12 ∧ s.length % 2 = 0
  · obtain ⟨h1, h2, h3⟩ := h
    have e1 : (decide ((s.length : Int) ≥ 2) && decide ((s.length : Int) ≤ 12)) = true := by simp; omega
    have e2 : (Int.tmod (s.length : Int) 2 != 0) = false := by rw [Int.tmod_eq_emod_of_nonneg (by omega)]; simp; omega
    rw [e1, e2]
    simp only [Bool.not_true, Bool.or_false, cond_false]
    have hm : ed s.length ≤ 18 := by unfold ed; omega
    have hl := loop_any (f := impl_IsSurface.b0 s) (fun i => (i : Int)) s.length (fun i => !rowB (ed s.length) (gt s (i : Int))) false (s.length : Int) (by omega) (fun i hi => by
      unfold impl_IsSurface.b0
      simp only [dlt_nat, hi, decide_true, cond_true]
      rw [chk_in (by omega), w64_succ (by omega)]
      unfold rowB
      by_cases h3 : (gt s (i : Int)).length = 3
      · have e3 : (((gt s (i : Int)).length : Int) != 3) = false := by rw [h3]; rfl
        rw [e3, cond_false, containsInts _ (by omega) _ (fun x => !entB (ed s.length) x) (fun x _ => is1_eq (by omega) x)]
        simp only [Option.bind_some, h3, decide_true, Bool.true_and]
        have : (gt s (i : Int)).any (fun x => !entB (ed s.length) x) = !(gt s (i : Int)).all (entB (ed s.length)) := by rw [List.all_eq_not_any_not, Bool.not_not]
        rw [this]
        cases (gt s (i : Int)).all (entB (ed s.length)) <;> rfl
      · have e3 : (((gt s (i : Int)).length : Int) != 3) = true := by simp; omega
        rw [e3, cond_true, Option.bind_some, cond_true]
        have : decide ((gt s (i : Int)).length = 3) = false := by simpa using h3
        rw [this]; rfl) (by
      unfold impl_IsSurface.b0
      simp)
    have hl' : loop (impl_IsSurface.b0 s) 0 = some (bif badRows s then .ret false else .brk (s.length : Int)) := by
      have := any_at s (fun t => !rowB (ed s.length) t)
      unfold badRows
      rw [← this]; exact hl
    rw [hl']
    unfold surfB
    have f1 : decide (2 ≤ s.length) = true := decide_eq_true h1
    have f2 : decide (s.length ≤ 12) = true := decide_eq_true h2
    have f3 : decide (s.length % 2 = 0) = true := decide_eq_true h3
    rw [f1, f2, f3]
    cases hb : badRows s with
    | true => rfl
    | false =>
      simp only [cond_false, Option.bind_some, ln]
      rw [sides_eq (by omega) (good_rows hb), Option.bind_some]
      have e4 : (decide (0 ≤ 1) && decide (1 ≤ ((tab (ed s.length) (preP s s.length)).length : Int)) && decide (((tab (ed s.length) (preP s s.length)).length : Int) ≤ ((tab (ed s.length) (preP s s.length)).length : Int))) = true := by
        rw [tab_length]; simp; omega
      rw [e4]
      simp only [grd, cond_true]
      rw [drop_tab, containsSides _ (by simp; omega) _ (fun l => decide (l.length ≠ 2)) (fun l _ => by
        unfold impl_IsSurface_2.f
        congr 1
        rw [Bool.eq_iff_iff]; simp; omega)]
      simp only [Option.bind_some, Bool.true_and, Bool.not_false]
      rw [List.any_map]
      rfl
  · have e : (!(decide ((s.length : Int) ≥ 2) && decide ((s.length : Int) ≤ 12)) || (Int.tmod (s.length : Int) 2 != 0)) = true := by
      rw [Int.tmod_eq_emod_of_nonneg (by omega)]
      by_cases h1 : 2 ≤ s.length
      · by_cases h2 : s.length ≤ 12
        · have : ¬ s.length % 2 = 0 := fun h3 => h ⟨h1, h2, h3⟩
          simp; omega
        · simp; omega
      · simp; omega
    rw [e, cond_true]
    unfold surfB
    have : (decide (2 ≤ s.length) && decide (s.length ≤ 12) && decide (s.length % 2 = 0)) = false := by
      rw [Bool.eq_false_iff]
      intro hc
      simp only [Bool.and_eq_true, decide_eq_true_eq] at hc
      exact h ⟨hc.1.1, hc.1.2, hc.2⟩
    rw [this]; rfl
theorem specSurf {s : List (List Int)} (hn : s.length ≤ 1048576) : spec_l07Is.f s = some (surfB s) := by
  unfold spec_l07Is.f
  by_cases h : 2 ≤ s.length ∧ s.length ≤ 12 ∧ s.length % 2 = 0
  · obtain ⟨h1, h2, h3⟩ := h
    have e1 : (((decide ((s.length : Int) < 2)) || (decide ((s.length : Int) > 12))) || ((Int.tmod (s.length : Int) 2) != 0)) = false := by
      rw [Int.tmod_eq_emod_of_nonneg (by omega)]; simp; omega
    have hm : ed s.length ≤ 18 := by unfold ed; omega
    rw [e1, cond_false, edges_eq (by omega), w64_succ (by omega), show decide ((0 : Int) ≤ ((ed s.length + 1 : Nat) : Int)) = true by simp; omega]
    simp only [grd, cond_true, Int.toNat_natCast]
    rw [small_in (by omega)]
    have hl := loop_any (f := spec_l07Is.b1 s) (fun i => (cnt (ed s.length) (preP s i), (i : Int))) s.length (fun i => !rowB (ed s.length) (gt s (i : Int))) false (cnt (ed s.length) (preP s s.length), (s.length : Int)) (by omega) (fun i hi => by
      unfold spec_l07Is.b1
      simp only [dlt_nat, hi, decide_true, cond_true]
      rw [chk_in (by omega), w64_succ (by omega)]
      by_cases h3 : (gt s (i : Int)).length = 3
      · have e3 : (((gt s (i : Int)).length : Int) != 3) = false := by rw [h3]; rfl
        rw [e3, cond_false]
        have hin := loop_any (f := spec_l07Is.b0 s i) (fun j => (cnt (ed s.length) (preP s i ++ rowP s i j), (j : Int))) 3 (fun j => !entB (ed s.length) (entry s i j)) (.ret false) (cnt (ed s.length) (preP s i ++ rowP s i 3), 3) (by omega) (fun j hj => by
          unfold spec_l07Is.b0
          have hj' : decide ((j : Int) < 3) = true := by simp; omega
          simp only [hj', cond_true]
          rw [chk_in (by omega), edges_eq (by omega)]
          unfold spec_l01In.f
          rw [Option.bind_some, w64_in (x := 0 - (ed s.length : Int)) (by omega)]
          have eb : (!(decide (gt (gt s (i : Int)) (j : Int) ≥ 0 - (ed s.length : Int)) && decide (gt (gt s (i : Int)) (j : Int) ≤ (ed s.length : Int))) || (gt (gt s (i : Int)) (j : Int) == 0)) = !entB (ed s.length) (entry s i j) := by
            unfold entB entry
            rw [Bool.eq_iff_iff]
            simp only [Bool.or_eq_true, Bool.not_eq_true', Bool.and_eq_false_iff, decide_eq_false_iff_not, beq_iff_eq, ne_eq]
            omega
          rw [eb]
          cases hb : entB (ed s.length) (entry s i j) with
          | false => rfl
          | true =>
            simp only [Bool.not_true, cond_false]
            have hle := abs_le hb
            have hsz := size_abs (m := ed s.length) (by omega) hb
            unfold entry at hsz
            rw [hsz]
            have hen : ((gt (gt s (i : Int)) (j : Int)).natAbs) = (entry s i j).natAbs := rfl
            rw [hen, cnt_length, chk_in (by omega), cnt_gt _ hle, Int.toNat_natCast, w64_succ (by
              have h1 := sdl_le (preP s i ++ rowP s i j) (entry s i j).natAbs
              rw [List.length_append, preP_length, rowP_length] at h1
              omega), cnt_add (a := ((i : Int), (j : Int))), w64_succ (by omega)]
            simp only [rowP, List.append_assoc]) (by
          unfold spec_l07Is.b0
          rfl)
        have hin' : loop (spec_l07Is.b0 s i) (cnt (ed s.length) (preP s i), 0) = some (bif (List.range 3).any (fun j => !entB (ed s.length) (entry s i j)) then .ret (.ret false) else .brk (cnt (ed s.length) (preP s i ++ rowP s i 3), 3)) := by simpa [rowP] using hin
        rw [hin']
        have ea : (List.range 3).any (fun j => !entB (ed s.length) (entry s i j)) = !rowB (ed s.length) (gt s (i : Int)) := by
          have := any_at (gt s (i : Int)) (fun x => !entB (ed s.length) x)
          rw [h3] at this
          unfold entry
          rw [this]
          unfold rowB
          rw [h3, List.all_eq_not_any_not]
          simp
        rw [ea]
        cases rowB (ed s.length) (gt s (i : Int)) <;> rfl
      · have e3 : (((gt s (i : Int)).length : Int) != 3) = true := by simp; omega
        rw [e3, cond_true]
        have : rowB (ed s.length) (gt s (i : Int)) = false := by
          unfold rowB
          have : decide ((gt s (i : Int)).length = 3) = false := by simpa using h3
          rw [this]; rfl
        rw [this]; rfl) (by
      unfold spec_l07Is.b1
      simp)
    have e0 : List.replicate (ed s.length + 1) (0 : Int) = cnt (ed s.length) (preP s 0) := by
      apply List.ext_getElem?
      intro q
      by_cases hq : q < ed s.length + 1 <;> simp [cnt, preP, sdl, hq]
    rw [e0]
    have hl' : loop (spec_l07Is.b1 s) (cnt (ed s.length) (preP s 0), 0) = some (bif badRows s then .ret false else .brk (cnt (ed s.length) (preP s s.length), (s.length : Int))) := by
      have := any_at s (fun t => !rowB (ed s.length) t)
      unfold badRows
      rw [← this]; exact hl
    rw [hl']
    unfold surfB
    have f1 : decide (2 ≤ s.length) = true := decide_eq_true h1
    have f2 : decide (s.length ≤ 12) = true := decide_eq_true h2
    have f3 : decide (s.length % 2 = 0) = true := decide_eq_true h3
    rw [f1, f2, f3]
    cases hb : badRows s with
    | true => rfl
    | false =>
      simp only [cond_false, Option.bind_some, ln]
      have hk := loop_any (f := spec_l07Is.b2 s (cnt (ed s.length) (preP s s.length))) (fun k => ((k + 1 : Nat) : Int)) (ed s.length) (fun k => decide ((sdl (preP s s.length) (k + 1)).length ≠ 2)) false ((ed s.length + 1 : Nat) : Int) (by omega) (fun k hk => by
        unfold spec_l07Is.b2
        rw [edges_eq (by omega)]
        have hd : decide (((k + 1 : Nat) : Int) ≤ (ed s.length : Int)) = true := by simp; omega
        rw [hd, cond_true, cnt_length, chk_in (by omega), cnt_gt _ (by omega), w64_succ (by omega)]
        have : ((((sdl (preP s s.length) (k + 1)).length : Nat) : Int) != 2) = decide ((sdl (preP s s.length) (k + 1)).length ≠ 2) := by
          rw [Bool.eq_iff_iff]; simp; omega
        rw [this]
        cases decide ((sdl (preP s s.length) (k + 1)).length ≠ 2) <;> rfl) (by
        unfold spec_l07Is.b2
        rw [edges_eq (by omega)]
        have hd : decide (((ed s.length + 1 : Nat) : Int) ≤ (ed s.length : Int)) = false := by simp; omega
        rw [hd]; rfl)
      have hk' : loop (spec_l07Is.b2 s (cnt (ed s.length) (preP s s.length))) 1 = some (bif badEdges s then .ret false else .brk ((ed s.length + 1 : Nat) : Int)) := hk
      rw [hk']
      cases badEdges s <;> rfl
  · have e : (((decide ((s.length : Int) < 2)) || (decide ((s.length : Int) > 12))) || ((Int.tmod (s.length : Int) 2) != 0)) = true := by
      rw [Int.tmod_eq_emod_of_nonneg (by omega)]
      by_cases h1 : 2 ≤ s.length
      · by_cases h2 : s.length ≤ 12
        · have : ¬ s.length % 2 = 0 := fun h3 => h ⟨h1, h2, h3⟩
          simp; omega
        · simp; omega
      · simp; omega
    rw [e, cond_true]
    unfold surfB
    have : (decide (2 ≤ s.length) && decide (s.length ≤ 12) && decide (s.length % 2 = 0)) = false := by
      rw [Bool.eq_false_iff]
      intro hc
      simp only [Bool.and_eq_true, decide_eq_true_eq] at hc
      exact h ⟨hc.1.1, hc.1.2, hc.2⟩
    rw [this]; rfl
end Go.Proofs.Ytnppkcemnjkboaa.G
