/- Surfaces that are oriented, told by both. -/
import Derived.Test.YtnppkcemnjkboaaPSurface
import Derived.Test.YtnppkcemnjkboaaQ54
import Derived.Test.YtnppkcemnjkboaaQ56
namespace Go.Proofs.Ytnppkcemnjkboaa.G
open Go Go.Sx Go.Proofs
def fl (P : List Side) (k : Nat) : List Side := P.filter fun p => p.2.natAbs == k
theorem sdl_fl (P : List Side) (k : Nat) : sdl P k = (fl P k).map (·.1) := rfl
def sn (x : Int) : Int := if x > 0 then 1 else -1
def sg (P : List Side) (k : Nat) : Int := ((fl P k).map fun p => sn p.2).sum
def sgs (m : Nat) (P : List Side) : List Int := (List.range (m + 1)).map (sg P)
theorem fl_add (P : List Side) (a : Int × Int) (x : Int) (k : Nat) : fl (P ++ [(a, x)]) k = if x.natAbs = k then fl P k ++ [(a, x)] else fl P k := by
  unfold fl
  rw [List.filter_append]
  by_cases h : x.natAbs = k
  · rw [if_pos h]; simp [List.filter, h]
  · rw [if_neg h]
    have : (x.natAbs == k) = false := by simpa using h
    simp [List.filter, this]
theorem sg_add (P : List Side) (a : Int × Int) (x : Int) (k : Nat) : sg (P ++ [(a, x)]) k = if x.natAbs = k then sg P k + sn x else sg P k := by
  unfold sg
  rw [fl_add]
  by_cases h : x.natAbs = k
  · rw [if_pos h, if_pos h]; simp
  · rw [if_neg h, if_neg h]
theorem sum_le : ∀ l : List Side, -(l.length : Int) ≤ (l.map fun p => sn p.2).sum ∧ (l.map fun p => sn p.2).sum ≤ l.length
  | [] => by simp
  | p :: l => by
    have := sum_le l
    simp only [List.map_cons, List.sum_cons, List.length_cons]
    have h : sn p.2 = 1 ∨ sn p.2 = -1 := by unfold sn; split <;> simp
    rcases h with h | h <;> rw [h] <;> omega
theorem sg_le (P : List Side) (k : Nat) : -(P.length : Int) ≤ sg P k ∧ sg P k ≤ P.length := by
  have h1 := sum_le (fl P k)
  have h2 : (fl P k).length ≤ P.length := List.length_filter_le _ _
  unfold sg; omega
theorem sgs_length (m : Nat) (P : List Side) : (sgs m P).length = m + 1 := by simp [sgs]
theorem sgs_gt {m k : Nat} (P : List Side) (h : k ≤ m) : gt (sgs m P) (k : Int) = sg P k := by
  have : k < m + 1 := by omega
  simp [gt, sgs, List.getD, this]
theorem sgs_add {m : Nat} (P : List Side) (a : Int × Int) (x : Int) : (sgs m P).set x.natAbs (sg P x.natAbs + sn x) = sgs m (P ++ [(a, x)]) := by
  apply List.ext_getElem?
  intro q
  simp only [sgs, List.getElem?_set, List.length_map, List.length_range, List.getElem?_map]
  by_cases hq : q < m + 1
  · by_cases hx : x.natAbs = q
    · subst hx; simp [hq, sg_add]
    · simp [hq, hx, sg_add]
  · by_cases hx : x.natAbs = q
    · subst hx; simp [hq]
    · simp [hq, hx]
theorem mem_rowP {s : List (List Int)} {i : Nat} : ∀ {j} {p : Side}, p ∈ rowP s i j → ∃ q : Nat, q < j ∧ p = (((i : Int), (q : Int)), entry s i q)
  | 0, _, h => by cases h
  | j + 1, p, h => by
    rcases List.mem_append.1 h with h | h
    · obtain ⟨q, hq, e⟩ := mem_rowP h; exact ⟨q, by omega, e⟩
    · exact ⟨j, by omega, by simpa using h⟩
theorem mem_preP {s : List (List Int)} : ∀ {n} {p : Side}, p ∈ preP s n → ∃ i q : Nat, i < n ∧ q < 3 ∧ p = (((i : Int), (q : Int)), entry s i q)
  | 0, _, h => by cases h
  | n + 1, p, h => by
    rcases List.mem_append.1 h with h | h
    · obtain ⟨i, q, hi, hq, e⟩ := mem_preP h; exact ⟨i, q, by omega, hq, e⟩
    · obtain ⟨q, hq, e⟩ := mem_rowP h; exact ⟨n, q, by omega, hq, e⟩
structure Surf (s : List (List Int)) : Prop where
  two : 2 ≤ s.length
  most : s.length ≤ 12
  even : s.length % 2 = 0
  row : ∀ i, i < s.length → rowB (ed s.length) (gt s (i : Int)) = true
  edge : ∀ k, k < ed s.length → (sdl (preP s s.length) (k + 1)).length = 2
theorem surf_of {s : List (List Int)} (h : surfB s = true) : Surf s := by
  unfold surfB at h
  simp only [Bool.and_eq_true, decide_eq_true_eq, Bool.not_eq_true'] at h
  refine ⟨h.1.1.1.1, h.1.1.1.2, h.1.1.2, good_rows h.1.2, fun k hk => ?_⟩
  have := h.2
  unfold badEdges at this
  rw [List.any_eq_false] at this
  have := this k (List.mem_range.2 hk)
  simpa using this
theorem Surf.edge2 {s : List (List Int)} (h : Surf s) {k : Nat} (hk : k < ed s.length) : ∃ p q, fl (preP s s.length) (k + 1) = [p, q] ∧ p ∈ preP s s.length ∧ q ∈ preP s s.length ∧ p.2.natAbs = k + 1 ∧ q.2.natAbs = k + 1 := by
  have h1 := h.edge k hk
  rw [sdl_fl, List.length_map] at h1
  match hf : fl (preP s s.length) (k + 1), h1 with
  | [p, q], _ =>
    have hp : p ∈ fl (preP s s.length) (k + 1) := by rw [hf]; simp
    have hq : q ∈ fl (preP s s.length) (k + 1) := by rw [hf]; simp
    unfold fl at hp hq
    rw [List.mem_filter] at hp hq
    exact ⟨p, q, rfl, hp.1, hq.1, by simpa using hp.2, by simpa using hq.2⟩
/-- One edge is passed twice in the same direction. -/
def sameE (s : List (List Int)) (k : Nat) : Bool := decide (sg (preP s s.length) (k + 1) ≠ 0)
def orB (s : List (List Int)) : Bool := !(List.range (ed s.length)).any (sameE s)
theorem at_side {s : List (List Int)} (h : Surf s) {p : Side} (hp : p ∈ preP s s.length) {α : Type} (k : Int → Option α) : chk p.1.1 s.length (chk p.1.2 ((gt s p.1.1).length) (k (gt (gt s p.1.1) p.1.2))) = k p.2 := by
  obtain ⟨i, q, hi, hq, rfl⟩ := mem_preP hp
  have h3 := (row_entry (h.row i hi) (q := 0) (by omega)).2
  rw [chk_in (by simp only; omega), chk_in (by simp only; omega)]
  rfl
theorem oriented1 {s : List (List Int)} (h : Surf s) {k : Nat} (hk : k < ed s.length) : impl_oriented_1.f (sdl (preP s s.length) (k + 1)) s = some (sameE s k) := by
  obtain ⟨p, q, hf, hp, hq, ap, aq⟩ := h.edge2 hk
  unfold impl_oriented_1.f
  have e : sdl (preP s s.length) (k + 1) = [p.1, q.1] := by rw [sdl_fl, hf]; rfl
  rw [e]
  have g0 : gt [p.1, q.1] 0 = p.1 := rfl
  have g1 : gt [p.1, q.1] 1 = q.1 := rfl
  rw [chk_in (by simp), g0, g1]
  have := at_side h hp (fun x => chk 1 [p.1, q.1].length (chk q.1.1 s.length (chk q.1.2 ((gt s q.1.1).length) (some (x == (gt (gt s q.1.1) q.1.2))))))
  rw [this, chk_in (by simp)]
  have := at_side h hq (fun y => some (p.2 == y))
  rw [this]
  congr 1
  unfold sameE sg
  rw [hf]
  simp only [List.map_cons, List.map_nil, List.sum_cons, List.sum_nil]
  rw [Bool.eq_iff_iff, beq_iff_eq, decide_eq_true_iff]
  unfold sn
  split <;> split <;> omega
theorem implOr {s : List (List Int)} (h : Surf s) : impl_oriented.f s = some (orB s) := by
  have h2 := h.most
  have hm : ed s.length ≤ 18 := by unfold ed; omega
  unfold impl_oriented.f
  rw [sides_eq (by omega) h.row, Option.bind_some]
  have e4 : (decide (0 ≤ 1) && decide (1 ≤ ((tab (ed s.length) (preP s s.length)).length : Int)) && decide (((tab (ed s.length) (preP s s.length)).length : Int) ≤ ((tab (ed s.length) (preP s s.length)).length : Int))) = true := by
    rw [tab_length]; simp; omega
  rw [e4]
  simp only [grd, cond_true]
  have hc := containsSides ((List.range (ed s.length)).map fun k => sdl (preP s s.length) (k + 1)) (by simp; omega) (fun x0_ => impl_oriented_1.f x0_ s) (fun l => (impl_oriented_1.f l s).getD false) (fun l hl => by
    obtain ⟨k, hk, rfl⟩ := List.mem_map.1 hl
    rw [oriented1 h (List.mem_range.1 hk)]; rfl)
  rw [drop_tab, hc]
  simp only [Option.bind_some]
  congr 2
  rw [List.any_map]
  refine any_congr fun k hk => ?_
  show (impl_oriented_1.f (sdl (preP s s.length) (k + 1)) s).getD false = _
  rw [oriented1 h hk]; rfl
theorem specOr {s : List (List Int)} (h : Surf s) : spec_l07Oriented.f s = some (orB s) := by
  have h2 := h.most
  have hm : ed s.length ≤ 18 := by unfold ed; omega
  unfold spec_l07Oriented.f
  rw [edges_eq (by omega), w64_succ (by omega), show decide ((0 : Int) ≤ ((ed s.length + 1 : Nat) : Int)) = true by simp; omega]
  simp only [grd, cond_true, Int.toNat_natCast]
  rw [small_in (by omega)]
  have hl := loop1_upto (f := spec_l07Oriented.b1 s) (fun i => (sgs (ed s.length) (preP s i), (i : Int))) s.length (sgs (ed s.length) (preP s s.length), (s.length : Int)) (by omega) (fun i hi => by
    unfold spec_l07Oriented.b1
    simp only [dlt_nat, hi, decide_true, cond_true]
    have h3 := (row_entry (h.row i hi) (q := 0) (by omega)).2
    have hin := loop1_upto (f := spec_l07Oriented.b0 i s) (fun j => (sgs (ed s.length) (preP s i ++ rowP s i j), (j : Int))) 3 (sgs (ed s.length) (preP s i ++ rowP s i 3), 3) (by omega) (fun j hj => by
      unfold spec_l07Oriented.b0
      have hj' : decide ((j : Int) < 3) = true := by simp; omega
      have he := (row_entry (h.row i hi) hj).1
      have hle := abs_le he
      have hsg := sg_le (preP s i ++ rowP s i j) (entry s i j).natAbs
      rw [List.length_append, preP_length, rowP_length] at hsg
      have hen : gt (gt s (i : Int)) (j : Int) = entry s i j := rfl
      simp only [hj', cond_true]
      rw [chk_in (by omega), chk_in (by omega), hen]
      have hne : entry s i j ≠ 0 := by
        unfold entB at he
        simp only [Bool.and_eq_true, decide_eq_true_eq] at he
        exact he.1.1
      by_cases hpos : entry s i j > 0
      · have ea : entry s i j = ((entry s i j).natAbs : Int) := by omega
        have hs : sn (entry s i j) = 1 := by unfold sn; rw [if_pos hpos]
        have := sgs_add (m := ed s.length) (preP s i ++ rowP s i j) ((i : Int), (j : Int)) (entry s i j)
        rw [hs] at this
        have e1 : gt (sgs (ed s.length) (preP s i ++ rowP s i j)) (entry s i j) = sg (preP s i ++ rowP s i j) (entry s i j).natAbs := by
          conv => lhs; rw [ea]
          exact sgs_gt _ hle
        have e2 : (entry s i j).toNat = (entry s i j).natAbs := by omega
        rw [decide_eq_true hpos, cond_true, sgs_length, chk_in (by omega), e1, e2, w64_in (x := sg (preP s i ++ rowP s i j) (entry s i j).natAbs + 1) (by omega), this, Option.bind_some, w64_succ (by omega)]
        simp only [rowP, List.append_assoc]
      · have ea : w64 (0 - entry s i j) = ((entry s i j).natAbs : Int) := by rw [w64_in (by omega)]; omega
        have hs : sn (entry s i j) = -1 := by unfold sn; rw [if_neg hpos]
        have := sgs_add (m := ed s.length) (preP s i ++ rowP s i j) ((i : Int), (j : Int)) (entry s i j)
        rw [hs] at this
        rw [decide_eq_false hpos, cond_false, ea, sgs_length, chk_in (by omega), sgs_gt _ hle, Int.toNat_natCast, w64_in (x := sg (preP s i ++ rowP s i j) (entry s i j).natAbs - 1) (by omega)]
        have e3 : sg (preP s i ++ rowP s i j) (entry s i j).natAbs - 1 = sg (preP s i ++ rowP s i j) (entry s i j).natAbs + -1 := by omega
        rw [e3, this, Option.bind_some, w64_succ (by omega)]
        simp only [rowP, List.append_assoc]) (by
      unfold spec_l07Oriented.b0
      rfl)
    have hin' : loop1 (spec_l07Oriented.b0 i s) (sgs (ed s.length) (preP s i), 0) = some (sgs (ed s.length) (preP s i ++ rowP s i 3), 3) := by simpa [rowP] using hin
    rw [hin']
    simp only [Option.bind_some, w64_succ (by omega : i < 4611686018427387904)]
    rfl) (by
    unfold spec_l07Oriented.b1
    simp)
  have e0 : List.replicate (ed s.length + 1) (0 : Int) = sgs (ed s.length) (preP s 0) := by
    apply List.ext_getElem?
    intro q
    by_cases hq : q < ed s.length + 1 <;> simp [sgs, preP, sg, fl, hq]
  rw [e0]
  have hl' : loop1 (spec_l07Oriented.b1 s) (sgs (ed s.length) (preP s 0), 0) = some (sgs (ed s.length) (preP s s.length), (s.length : Int)) := hl
  rw [hl', Option.bind_some]
  have hk := loop_any (f := spec_l07Oriented.b2 (sgs (ed s.length) (preP s s.length))) (fun k => (k : Int)) (ed s.length + 1) (fun k => decide (sg (preP s s.length) k ≠ 0)) false ((ed s.length + 1 : Nat) : Int) (by omega) (fun k hk => by
    unfold spec_l07Oriented.b2
    simp only [sgs_length, dlt_nat, hk, decide_true, cond_true]
    rw [chk_in (by omega), sgs_gt _ (by omega), w64_succ (by omega)]
    have : (sg (preP s s.length) k != 0) = decide (sg (preP s s.length) k ≠ 0) := by rw [Bool.eq_iff_iff]; simp
    rw [this]
    cases decide (sg (preP s s.length) k ≠ 0) <;> rfl) (by
    unfold spec_l07Oriented.b2
    simp [sgs_length])
  have hk' : loop (spec_l07Oriented.b2 (sgs (ed s.length) (preP s s.length))) 0 = _ := hk
  rw [hk']
  have hz : sg (preP s s.length) 0 = 0 := by
    unfold sg
    have : fl (preP s s.length) 0 = [] := by
      unfold fl
      rw [List.filter_eq_nil_iff]
      intro p hp hc
      obtain ⟨i, q, hi, hq, rfl⟩ := mem_preP hp
      have he := (row_entry (h.row i hi) hq).1
      unfold entB at he
      simp only [Bool.and_eq_true, decide_eq_true_eq] at he
      simp at hc
      exact he.1.1 hc
    rw [this]; rfl
  have e : (List.range (ed s.length + 1)).any (fun k => decide (sg (preP s s.length) k ≠ 0)) = (List.range (ed s.length)).any (sameE s) := by
    rw [List.range_succ_eq_map, List.any_cons, List.any_map, hz]
    rfl
  rw [e]
  unfold orB
  cases (List.range (ed s.length)).any (sameE s) <;> rfl
end Go.Proofs.Ytnppkcemnjkboaa.G
