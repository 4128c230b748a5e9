/- The law of SplitTriangle tells true. -/
import Derived.Test.YtnppkcemnjkboaaPOriented
import Derived.Test.YtnppkcemnjkboaaPMarkDeep
import Derived.Test.YtnppkcemnjkboaaPClone
import Derived.Test.YtnppkcemnjkboaaQ4
namespace Go.Proofs.Ytnppkcemnjkboaa.G
open Go Go.Sx Go.Proofs
theorem split_same {s : List (List Int)} (h : Surf s) {i : Nat} (hi : i < s.length) : ∃ o, spec_l07Split.f s i = some o ∧ (o.length ≤ 14 ∧ ∀ r ∈ o, r.length ≤ 3) ∧ ((impl_cloneSurface.f s).bind (fun r_3 => (impl_edgesOf.f s).bind (fun r_4 => chk i s.length (chk 0 ((gt s i).length) (chk i r_3.length (chk 1 ((gt s i).length) (chk 2 ((gt s i).length) (small ((r_3.set (i : Int).toNat ([(gt (gt s i) 0), (w64 (r_4 + 1)), (w64 (0 - (w64 (r_4 + 2))))] : List Int)).length + 2) (some (((r_3.set (i : Int).toNat ([(gt (gt s i) 0), (w64 (r_4 + 1)), (w64 (0 - (w64 (r_4 + 2))))] : List Int)) ++ [([(gt (gt s i) 1), (w64 (r_4 + 3)), (w64 (0 - (w64 (r_4 + 1))))] : List Int), ([(gt (gt s i) 2), (w64 (r_4 + 2)), (w64 (0 - (w64 (r_4 + 3))))] : List Int)]), (0 : Int))))))))))) = some (o, 0) := by
  have h2 := h.most
  have hm : ed s.length ≤ 18 := by unfold ed; omega
  have h3 := (row_entry (h.row i hi) (q := 0) (by omega)).2
  have hr3 : ∀ r ∈ s, r.length = 3 := by
    intro r hr
    obtain ⟨q, hq, rfl⟩ := List.mem_iff_getElem.1 hr
    have := (row_entry (h.row q hq) (q := 0) (by omega)).2
    rwa [gt_at hq] at this
  have hc := clone_eq s (by omega) (fun r hr => by have := hr3 r hr; omega)
  unfold spec_l07Split.f impl_edgesOf.f
  rw [hc.1, hc.2, edges_eq (by omega)]
  simp only [Option.bind_some, h3, List.length_set]
  rw [chk_in (by omega), chk_in (by simp), chk_in (by omega), chk_in (by simp), chk_in (by simp), small_in (by omega)]
  have e1 : w64 (w64 (0 - (ed s.length : Int)) - 2) = w64 (0 - w64 ((ed s.length : Int) + 2)) := by
    rw [w64_in (x := 0 - (ed s.length : Int)) (by omega), w64_in (x := (ed s.length : Int) + 2) (by omega)]; congr 1; omega
  have e2 : w64 (w64 (0 - (ed s.length : Int)) - 1) = w64 (0 - w64 ((ed s.length : Int) + 1)) := by
    rw [w64_in (x := 0 - (ed s.length : Int)) (by omega), w64_in (x := (ed s.length : Int) + 1) (by omega)]; congr 1; omega
  have e3 : w64 (w64 (0 - (ed s.length : Int)) - 3) = w64 (0 - w64 ((ed s.length : Int) + 3)) := by
    rw [w64_in (x := 0 - (ed s.length : Int)) (by omega), w64_in (x := (ed s.length : Int) + 3) (by omega)]; congr 1; omega
  rw [e1, e2, e3]
  refine ⟨_, rfl, ⟨by simp; omega, ?_⟩, by rw [chk_in (by omega), chk_in (by simp), chk_in (by omega), chk_in (by simp), chk_in (by simp), small_in (by omega)]⟩
  intro r hr
  rcases List.mem_append.1 hr with hr | hr
  · rcases List.mem_or_eq_of_mem_set hr with hr | rfl
    · have := hr3 r hr; omega
    · simp
  · simp only [List.mem_cons, List.not_mem_nil, or_false] at hr
    rcases hr with rfl | rfl <;> simp
theorem st_same {s : List (List Int)} (h1 : s.length ≤ 1048576) (i : Int) : ∃ o e, spec_SplitTriangle.f s i = some (o, e) ∧ impl_SplitTriangle.f s i = some (o, e) ∧ o.length ≤ 14 ∧ ∀ r ∈ o, r.length ≤ 3 := by
  unfold spec_SplitTriangle.f impl_SplitTriangle.f
  rw [specSurf h1, implSurf h1]
  cases hb : surfB s with
  | false => exact ⟨_, _, rfl, rfl, by simp, by simp⟩
  | true =>
    have h := surf_of hb
    have h2 := h.most
    have h0 := h.two
    unfold spec_l01In.f impl_in.f
    simp only [Option.bind_some, Bool.not_true, cond_false]
    rw [w64_in (x := (s.length : Int) - 1) (by omega), w64_in (x := (s.length : Int) + 2) (by omega)]
    by_cases hi : 0 ≤ i ∧ i ≤ (s.length : Int) - 1
    · have e : (decide (i ≥ 0) && decide (i ≤ (s.length : Int) - 1)) = true := by simp; omega
      rw [e]
      simp only [Bool.not_true, cond_false]
      by_cases hl : (s.length : Int) + 2 > 12
      · rw [decide_eq_true hl]
        exact ⟨_, _, rfl, rfl, by simp, by simp⟩
      · rw [decide_eq_false hl]
        simp only [cond_false]
        obtain ⟨j, rfl⟩ := Int.eq_ofNat_of_zero_le hi.1
        obtain ⟨o, a1, a2, a3⟩ := split_same h (i := j) (by omega)
        rw [a1]
        exact ⟨o, 0, rfl, a3, a2⟩
    · have e : (decide (i ≥ 0) && decide (i ≤ (s.length : Int) - 1)) = false := by
        rw [Bool.and_eq_false_iff]
        simp only [decide_eq_false_iff_not]
        omega
      rw [e]
      exact ⟨_, _, rfl, rfl, by simp, by simp⟩
theorem plain_FnExactSplitTriangle (s : List (List Int)) (i : Int) (_w : ∀ r ∈ s, ∀ x ∈ r, IntKind.i64.has x) (z : ∀ r ∈ s, r.length ≤ 9223372036854775807) (y : s.length ≤ 9223372036854775807) (_wi : IntKind.i64.has i) : laws_FnExactSplitTriangle.f s i = some true := by
  unfold laws_FnExactSplitTriangle.f
  obtain ⟨q, hq, h⟩ := szSS s 1048576 (by omega) y z
  have hq' : laws_szInt64SS.f s 1048576 = some q := hq
  rw [hq', Option.bind_some]
  rcases h with h | ⟨h0, h1, h2, h3⟩
  · rw [decide_eq_true h]; rfl
  · rw [decide_eq_false (by omega), cond_false, toSS s h1 h2]
    obtain ⟨o, e, e1, e2, e3, e4⟩ := st_same h1 i
    have b1 := eqSS_refl s (by omega) (fun r hr => by have := h2 r hr; omega)
    have b2 := eqSS_refl o (by omega) (fun r hr => by have := e4 r hr; omega)
    have t1 : tot 1 s ≤ 1048577 := by rw [tot_eq]; omega
    have t2 : tot 1 o ≤ 100 := by
      have := sum_le_mul 3 o e4
      rw [tot_eq]; omega
    have m1 : laws_markInt64SS.f s 1 = some ((tot 1 s : Int), marks 1 s) := markSS s 1 (by omega) (by omega)
    have m2 : laws_markInt64SS.f o 1 = some ((tot 1 o : Int), marks 1 o) := markSS o 1 (by omega) (by omega)
    have m3 : laws_heldInt64SS.f (marks 1 o) 1 = some (tot 1 o : Int) := heldSS o 1 (by omega) (by omega)
    have d1 : decide ((tot 1 s : Int) < 0) = false := decide_eq_false (by omega)
    have d2 : decide ((tot 1 o : Int) < 0) = false := decide_eq_false (by omega)
    have n1 : (e != e) = false := by simp
    have n2 : ((tot 1 o : Int) != (tot 1 o : Int)) = false := by simp
    simp only [Option.bind_some, e1, e2, b1, b2, m1, m2, m3, d1, d2, n1, n2, Bool.not_true, Bool.or_false, cond_false]
end Go.Proofs.Ytnppkcemnjkboaa.G
