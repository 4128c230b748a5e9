/- The law of KnownGroup tells true: the eight names one by one, and all others. -/
import Derived.Test.YtgljkechjkllgaaPl
import Derived.Test.YtgljkechjkllgaaQ7
namespace Go.Proofs.Ytgljkechjkllgaa.G
open Go Go.Sx Go.Proofs
def kgNames : List Str := [[99, 49], [99, 50], [99, 51], [99, 52], [99, 53], [99, 54]]
theorem kg_index {x : Str} (h : x ∉ kgNames) : slices_Index_string_string.f kgNames x = some (-1) := by
  have hl : loop (slices_Index_string_string.b0 kgNames x) 0 = some (.brk ((6 : Nat) : Int)) := by
    have := loop_find (f := slices_Index_string_string.b0 kgNames x) (fun i => (i : Int)) 6 (fun (i : Nat) => x == gt kgNames (i : Int)) (fun i => (i : Int)) ((6 : Nat) : Int) (by omega) (fun i hi => by
      unfold slices_Index_string_string.b0
      have e : kgNames.length = 6 := rfl
      rw [e, dlt_nat, decide_eq_true hi, cond_true, chk_in (by omega), w64_succ (by omega)]
      cases x == gt kgNames (i : Int) <;> rfl) (by rfl)
    have hn : (List.range 6).find? (fun (i : Nat) => x == gt kgNames (i : Int)) = none := by
      rw [List.find?_eq_none]
      intro i hi
      have hi' : i < 6 := by simpa using hi
      simp only [beq_iff_eq]
      rintro rfl
      apply h
      match i, hi' with
      | 0, _ => simp [kgNames, gt]
      | 1, _ => simp [kgNames, gt]
      | 2, _ => simp [kgNames, gt]
      | 3, _ => simp [kgNames, gt]
      | 4, _ => simp [kgNames, gt]
      | 5, _ => simp [kgNames, gt]
    rw [hn] at this
    exact this
  unfold slices_Index_string_string.f
  rw [hl]; rfl
theorem kg_u8 {b : UInt8} (h1 : 49 ≤ b.toNat) (h2 : b.toNat ≤ 54) : ([99, b] : Str) ∈ kgNames := by
  have : b = 49 ∨ b = 50 ∨ b = 51 ∨ b = 52 ∨ b = 53 ∨ b = 54 := by
    have e : ∀ k : UInt8, b.toNat = k.toNat → b = k := fun k hk => UInt8.toNat_inj.1 hk
    have : b.toNat = 49 ∨ b.toNat = 50 ∨ b.toNat = 51 ∨ b.toNat = 52 ∨ b.toNat = 53 ∨ b.toNat = 54 := by omega
    rcases this with h | h | h | h | h | h
    · exact .inl (e 49 h)
    · exact .inr (.inl (e 50 h))
    · exact .inr (.inr (.inl (e 51 h)))
    · exact .inr (.inr (.inr (.inl (e 52 h))))
    · exact .inr (.inr (.inr (.inr (.inl (e 53 h)))))
    · exact .inr (.inr (.inr (.inr (.inr (e 54 h)))))
  rcases this with rfl | rfl | rfl | rfl | rfl | rfl <;> simp [kgNames]
theorem kg_spec {x : Str} (h : x ∉ kgNames) (hv : x ≠ [118, 52]) (hs : x ≠ [115, 51]) : spec_KnownGroup.f x = some (0, (fun _ => 0), 4) := by
  have hv' : (x == ([118, 52] : Str)) = false := by simpa using hv
  have hs' : (x == ([115, 51] : Str)) = false := by simpa using hs
  have key : spec_l06Known.f x = some (0, (fun _ => 0), false) := by
    unfold spec_l06Known.f
    rw [hv', hs']
    match x, h with
    | [], _ => rfl
    | [a], _ => rfl
    | a :: b :: c :: l, _ =>
      have : (((a :: b :: c :: l).length : Int) == 2) = false := by simp; omega
      rw [this]; rfl
    | [a, b], h =>
      have e0 : gt [a, b] 0 = a := rfl
      have e1 : gt [a, b] 1 = b := rfl
      have el : (([a, b] : Str).length : Int) = 2 := rfl
      rw [e0, e1, el]
      by_cases ha : a = 99
      · subst ha
        by_cases h1 : 49 ≤ b.toNat
        · by_cases h2 : b.toNat ≤ 54
          · exact absurd (kg_u8 h1 h2) h
          · have : decide ((b.toNat : Int) ≤ ((54 : UInt8).toNat : Int)) = false := by
              rw [decide_eq_false_iff_not]
              have : ((54 : UInt8).toNat) = 54 := rfl
              omega
            have h3 : decide ((b.toNat : Int) ≥ ((49 : UInt8).toNat : Int)) = true := by
              rw [decide_eq_true_iff]
              have : ((49 : UInt8).toNat) = 49 := rfl
              omega
            rw [this, h3]; rfl
        · have h3 : decide ((b.toNat : Int) ≥ ((49 : UInt8).toNat : Int)) = false := by
            rw [decide_eq_false_iff_not]
            have : ((49 : UInt8).toNat) = 49 := rfl
            omega
          rw [h3]; rfl
      · have : ((a.toNat : Int) == ((99 : UInt8).toNat : Int)) = false := by
          rw [Bool.eq_false_iff]
          intro hc
          have : (a.toNat : Int) = ((99 : UInt8).toNat : Int) := by simpa using hc
          exact ha (UInt8.toNat_inj.1 (by omega))
        rw [this]; rfl
  unfold spec_KnownGroup.f
  rw [key]; rfl
theorem kg_impl {x : Str} (h : x ∉ kgNames) (hv : x ≠ [118, 52]) (hs : x ≠ [115, 51]) : impl_KnownGroup.f x = some (0, (fun _ => 0), 4) := by
  have hv' : (x == ([118, 52] : Str)) = false := by simpa using hv
  have hs' : (x == ([115, 51] : Str)) = false := by simpa using hs
  unfold impl_KnownGroup.f
  have := kg_index h
  unfold kgNames at this
  rw [this, hv', hs']; rfl
theorem plain_FnExactKnownGroup (x : Str) : laws_FnExactKnownGroup.f x = some true := by
  by_cases h : x ∈ kgNames
  · simp only [kgNames, List.mem_cons, List.not_mem_nil, or_false] at h
    rcases h with rfl | rfl | rfl | rfl | rfl | rfl <;> decide +kernel
  · by_cases hv : x = [118, 52]
    · subst hv; decide +kernel
    · by_cases hs : x = [115, 51]
      · subst hs; decide +kernel
      · unfold laws_FnExactKnownGroup.f
        rw [kg_spec h hv hs, kg_impl h hv hs]
        have e : laws_eqGroup.f 0 (fun _ => 0) 0 (fun _ => 0) = some true := by decide +kernel
        simp only [Option.bind_some, e]
        cases decide ((x.length : Int) > 1048576) <;> rfl
end Go.Proofs.Ytgljkechjkllgaa.G
