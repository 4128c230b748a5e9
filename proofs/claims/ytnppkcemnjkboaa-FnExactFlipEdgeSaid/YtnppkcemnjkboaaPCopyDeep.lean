/- Rows of numbers that come in: how large they are, and their copies. -/
import Derived.Test.YtnppkcemnjkboaaPCopyInts
import Derived.Test.YtnppkcemnjkboaaQ15
import Derived.Test.YtnppkcemnjkboaaQ13
namespace Go.Proofs.Ytnppkcemnjkboaa.G
open Go Go.Sx Go.Proofs
theorem gt_at {α : Type} [Inhabited α] {a : List α} {i : Nat} (h : i < a.length) : gt a (i : Int) = a[i] := by simp [gt, List.getD, h]
theorem toSS (a : List (List Int)) (h : a.length ≤ 1048576) (hr : ∀ r ∈ a, r.length ≤ 1048576) : laws_toInt64SS.f a = some a := by
  unfold laws_toInt64SS.f
  rw [small_in (by omega), Int.toNat_natCast]
  have hl := loop1_upto (f := laws_toInt64SS.b0 a) (fun i => (a.take i ++ List.replicate (a.length - i) [], (i : Int))) a.length (a, (a.length : Int)) (by omega) (fun i hi => by
    unfold laws_toInt64SS.b0
    have e : (a.take i ++ List.replicate (a.length - i) ([] : List Int)).length = a.length := by simp; omega
    simp only [dlt_nat, hi, decide_true, cond_true]
    rw [chk_in (by omega), gt_at hi, toS _ (hr _ (List.getElem_mem hi)), Option.bind_some, e, chk_in (by omega), w64_succ (by omega), Int.toNat_natCast]
    have hm : (a.take i).length = i := by simp; omega
    have e2 : (a.take i ++ List.replicate (a.length - i) ([] : List Int)).set i a[i] = a.take (i + 1) ++ List.replicate (a.length - (i + 1)) [] := by
      rw [List.set_append_right _ _ (by omega), hm, Nat.sub_self, show a.length - i = (a.length - (i + 1)) + 1 by omega, List.replicate_succ, List.set_cons_zero, List.take_add_one, List.getElem?_eq_getElem hi]
      simp only [Option.toList_some, List.append_assoc, List.singleton_append]
    rw [e2]) (by
    unfold laws_toInt64SS.b0
    simp)
  have hl' : loop1 (laws_toInt64SS.b0 a) (List.replicate a.length [], 0) = some (a, (a.length : Int)) := by simpa using hl
  rw [hl']; rfl
theorem szSS (a : List (List Int)) (l : Nat) (hl : l ≤ 1048576) (h : a.length ≤ 9223372036854775807) (hr : ∀ r ∈ a, r.length ≤ 9223372036854775807) :
    ∃ q, laws_szInt64SS.f a l = some q ∧ (q < 0 ∨ (0 ≤ q ∧ a.length ≤ l ∧ (∀ r ∈ a, r.length ≤ l) ∧ (a.map List.length).sum ≤ l)) := by
  unfold laws_szInt64SS.f
  rw [w64_in (by omega)]
  by_cases hc : a.length ≤ l
  · have e : decide (((l : Int) - (a.length : Int)) < 0) = false := by simp; omega
    rw [e, cond_false]
    obtain ⟨o, ho, hq⟩ := loop_run (f := laws_szInt64SS.b0 a) (fun s => ∃ (i k : Nat), s = ((k : Int), (i : Int)) ∧ i ≤ a.length ∧ k + ((a.take i).map List.length).sum ≤ l ∧ ∀ r ∈ a.take i, r.length ≤ l) (fun s => a.length - s.2.toNat)
      (fun o => match o with | .brk s => ∃ k : Nat, s.1 = (k : Int) ∧ (∀ r ∈ a, r.length ≤ l) ∧ (a.map List.length).sum ≤ l | .ret r => r = -1) (by
      rintro s ⟨i, k, rfl, hi, hk, hrs⟩
      unfold laws_szInt64SS.b0
      by_cases hlt : i < a.length
      · simp only [dlt_nat, hlt, decide_true, cond_true]
        rw [chk_in (by omega), gt_at hlt]
        rcases szS a[i] k (by omega) (hr _ (List.getElem_mem hlt)) with ⟨h1, h2⟩ | ⟨h1, h2⟩
        · rw [h1]
          exact .inr (.inr ⟨-1, rfl, rfl⟩)
        · rw [h1, Option.bind_some]
          have : decide (((k - a[i].length : Nat) : Int) < 0) = false := decide_eq_false (by omega)
          rw [this, cond_false, w64_succ (by omega)]
          have hsum : ((a.take (i + 1)).map List.length).sum = ((a.take i).map List.length).sum + a[i].length := by
            rw [List.take_add_one, List.getElem?_eq_getElem hlt, List.map_append, List.sum_append]
            simp only [Option.toList_some, List.map_cons, List.map_nil, List.sum_cons, List.sum_nil, Nat.add_zero]
          refine .inl ⟨_, rfl, ⟨i + 1, k - a[i].length, rfl, by omega, by rw [hsum]; omega, ?_⟩, by simp; omega⟩
          intro r hr'
          rw [List.take_add_one, List.getElem?_eq_getElem hlt] at hr'
          rcases List.mem_append.1 hr' with h | h
          · exact hrs r h
          · have : r = a[i] := by simpa using h
            subst this; omega
      · have hia : i = a.length := by omega
        subst hia
        simp only [dlt_nat, Nat.lt_irrefl, decide_false, cond_false]
        rw [List.take_length] at hrs hk
        exact .inr (.inl ⟨_, rfl, k, rfl, hrs, by omega⟩)) (((l : Int) - (a.length : Int)), 0) ⟨0, l - a.length, by simp; omega, by omega, by simp, by simp⟩ (by simp; omega)
    rw [ho]
    cases o with
    | brk s =>
      obtain ⟨k, hk, hrs, hsm⟩ := hq
      exact ⟨_, rfl, .inr ⟨by show 0 ≤ s.1; omega, hc, hrs, hsm⟩⟩
    | ret r => exact ⟨_, rfl, .inl (by simp only at hq; omega)⟩
  · have e : decide (((l : Int) - (a.length : Int)) < 0) = true := by simp; omega
    rw [e]
    exact ⟨_, rfl, .inl (by omega)⟩
end Go.Proofs.Ytnppkcemnjkboaa.G
