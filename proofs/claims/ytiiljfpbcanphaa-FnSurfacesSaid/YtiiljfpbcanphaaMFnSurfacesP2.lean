/- Plain laws. -/
import Derived.Test.YtiiljfpbcanphaaMFnSurfacesP1
import Derived.ProofKit
import Derived.OpenShut
import Derived.ShutString
import Derived.ChangeOld
import Derived.Carry
import Derived.SizedLaws
import Derived.ChangeSlices
import Derived.Deep.Matrix
/- Numbers that follow from a code; surfaces that are drawn. -/
namespace Go.Proofs.Ytiiljfpbcanphaa.G
open Go Go.Sx Go.Proofs
theorem mask_pos (a : Int) : 0 ≤ bits .and .u64 a 16777215 ∧ bits .and .u64 a 16777215 ≤ 16777215 := by
  have h : (BitVec.ofInt 64 a &&& BitVec.ofInt 64 16777215).toNat ≤ 16777215 := by
    rw [BitVec.toNat_and]
    exact Nat.and_le_right
  have e : bits .and .u64 a 16777215 = IntKind.u64.wrap (((BitVec.ofInt 64 a &&& BitVec.ofInt 64 16777215).toNat : Nat) : Int) := rfl
  rw [e]
  generalize (BitVec.ofInt 64 a &&& BitVec.ofInt 64 16777215).toNat = n at h
  have : IntKind.u64.wrap (n : Int) = (n : Int) % 18446744073709551616 := rfl
  rw [this]
  omega
section
variable {code : List UInt8} (hc : code.length ≤ 4096)
include hc
theorem next_ok {i : Int} (h n : Int) (hi : 0 ≤ i ∧ i ≤ 4096) : ∃ r i' h', spec_l01Next.f code i h n = some (r, i', h') ∧ (0 ≤ i' ∧ i' ≤ 4096) ∧ (1 ≤ n → 0 ≤ r ∧ r < n) := by
  unfold spec_l01Next.f
  by_cases hn : n < 1
  · rw [decide_eq_true hn, cond_true]
    exact ⟨_, _, _, rfl, hi, fun h => by omega⟩
  · rw [decide_eq_false hn, cond_false]
    generalize hm : bits .and .u64 (Int.fdiv (IntKind.u64.wrap ((IntKind.u64.wrap (h * 6364136223846793005)) + 1442695040888963407)) 8589934592) 16777215 = m
    have hb := mask_pos (Int.fdiv (IntKind.u64.wrap ((IntKind.u64.wrap (h * 6364136223846793005)) + 1442695040888963407)) 8589934592)
    rw [hm] at hb
    have key : ∀ x : Int, 0 ≤ x → 0 ≤ Int.tmod x n ∧ Int.tmod x n < n := fun x hx => by
      rw [Int.tmod_eq_emod_of_nonneg hx]
      exact ⟨Int.emod_nonneg _ (by omega), Int.emod_lt_of_pos _ (by omega)⟩
    by_cases hl : i < (code.length : Int)
    · have hx := (gt code i).toNat_lt
      rw [decide_eq_true hl, cond_true, chk_in (by omega), Option.bind_some, w64_in (x := m) (by omega), w64_in (x := m + _) (by omega), w64_in (x := i + 1) (by omega)]
      simp only [nz_in (b := n) (by omega)]
      exact ⟨_, _, _, rfl, by omega, fun _ => key _ (by omega)⟩
    · rw [decide_eq_false hl, cond_false, Option.bind_some, w64_in (x := m) (by omega)]
      simp only [nz_in (b := n) (by omega)]
      exact ⟨_, _, _, rfl, hi, fun _ => key _ (by omega)⟩
theorem from_ok : ∃ h, spec_l01From.f code = some (0, h) := by
  unfold spec_l01From.f
  obtain ⟨o, ho, _⟩ := loop1_run (f := spec_l01From.b0 code) (fun p => 0 ≤ p.2 ∧ p.2 ≤ 4096) (fun p => 4096 - p.2.toNat) (fun _ => True) (by
    rintro ⟨a, i⟩ ⟨h1, h2⟩
    simp only at h1 h2
    unfold spec_l01From.b0
    dsimp only
    by_cases hl : i < (code.length : Int)
    · rw [decide_eq_true hl, decide_eq_true (show i < 4096 by omega)]
      simp only [Bool.and_true, cond_true]
      rw [chk_in (by omega), w64_in (x := i + 1) (by omega)]
      exact .inl ⟨_, rfl, ⟨by simp only; omega, by simp only; omega⟩, by simp only; omega⟩
    · rw [decide_eq_false hl]
      exact .inr ⟨_, rfl, trivial⟩) ((IntKind.u64.wrap (12671 + (IntKind.u64.wrap (code.length : Int)))), 0) ⟨by simp, by simp⟩ (by simp)
  rw [ho]
  exact ⟨_, rfl⟩
theorem pick_ok {i : Int} (h : Int) (hi : 0 ≤ i ∧ i ≤ 4096) (l : List Int) (h1 : 1 ≤ l.length) : ∃ r i' h', spec_l01Pick.f code i h l = some (r, i', h') ∧ (0 ≤ i' ∧ i' ≤ 4096) := by
  unfold spec_l01Pick.f
  obtain ⟨r, i', h', e, hi', hr⟩ := next_ok hc h (l.length : Int) hi
  have hr := hr (by omega)
  rw [e]
  simp only [Option.bind_some]
  rw [chk_in (by omega)]
  exact ⟨_, _, _, rfl, hi'⟩
theorem near_ok {i : Int} (h m : Int) (hi : 0 ≤ i ∧ i ≤ 4096) : ∃ r i' h', spec_l01Near.f code i h m = some (r, i', h') ∧ (0 ≤ i' ∧ i' ≤ 4096) := by
  unfold spec_l01Near.f
  obtain ⟨r, i', h', e, hi', _⟩ := next_ok hc h 14 hi
  rw [e]
  simp only [Option.bind_some]
  cases r == 0 with
  | true =>
    obtain ⟨r2, i2, h2, e2, hi2⟩ := pick_ok hc h' hi' [(-1), (w64 (m + 1)), 1099511627776, (-4611686018427387904)] (by simp)
    rw [cond_true, e2]
    exact ⟨_, _, _, rfl, hi2⟩
  | false =>
    obtain ⟨r2, i2, h2, e2, hi2, _⟩ := next_ok hc h' (w64 (m + 1)) hi'
    rw [cond_false, e2]
    exact ⟨_, _, _, rfl, hi2⟩
end
theorem named_ok {r : Int} (h : 0 ≤ r ∧ r < 7) : ∃ s, spec_l07Named.f (gt ([([115, 112, 104, 101, 114, 101] : Str), ([116, 111, 114, 117, 115] : Str), ([115, 112, 104, 101, 114, 101] : Str), ([116, 111, 114, 117, 115] : Str), ([112, 108, 97, 110, 101] : Str), ([98, 111, 116, 116, 108, 101] : Str), ([100, 111, 117, 98, 108, 101] : Str)] : List Str) r) = some (s, true) ∧ surfB s = true ∧ s.length ≤ 6 := by
  have : r = 0 ∨ r = 1 ∨ r = 2 ∨ r = 3 ∨ r = 4 ∨ r = 5 ∨ r = 6 := by omega
  rcases this with rfl | rfl | rfl | rfl | rfl | rfl | rfl <;> exact ⟨_, rfl, by decide +kernel, by decide⟩
/-- Two to eight triangles. -/
def Mild (s : List (List Int)) : Prop := 2 ≤ s.length ∧ s.length ≤ 8 ∧ ∀ r ∈ s, r.length = 3
def Few (s : List (List Int)) : Prop := s.length ≤ 12 ∧ ∀ r ∈ s, r.length ≤ 4
theorem Surf.mild {s : List (List Int)} (S : Surf s) (h : s.length ≤ 8) : Mild s := ⟨S.two, h, rows3 S⟩
theorem over_row {t : List Int} (h : t.length = 3) : ∃ u, spec_l07Over.f t = some u ∧ u.length = 3 := by
  unfold spec_l07Over.f
  rw [chk_in (by omega), chk_in (by omega), chk_in (by omega)]
  exact ⟨_, rfl, rfl⟩
theorem gt_memR {s : List (List Int)} {i : Int} (h : 0 ≤ i ∧ i < s.length) : gt s i ∈ s := by
  obtain ⟨j, rfl⟩ := Int.eq_ofNat_of_zero_le h.1
  have hj : j < s.length := by omega
  have e : gt s (j : Int) = s[j] := by simp [gt, List.getD, hj]
  rw [e]
  exact List.getElem_mem hj
theorem mem_setR {s : List (List Int)} {i : Nat} {u r : List Int} (h : r ∈ s.set i u) {P : List Int → Prop} (hu : P u) (hs : ∀ r ∈ s, P r) : P r := by
  rcases List.mem_or_eq_of_mem_set h with h | rfl
  · exact hs r h
  · exact hu
section
variable {code : List UInt8} (hc : code.length ≤ 4096)
include hc
theorem draw_split {i h x5 : Int} {s : List (List Int)} (hi : 0 ≤ i ∧ i ≤ 4096) (S : Surf s) (hs : s.length ≤ 8) (hx : 0 ≤ x5 ∧ x5 ≤ 100) : ∃ i' h' s' x', loop1 (spec_l07Draw.b0 code) (i, h, s, x5) = some (i', h', s', x') ∧ (0 ≤ i' ∧ i' ≤ 4096) ∧ Surf s' ∧ s'.length ≤ 8 := by
  obtain ⟨⟨i', h', s', x'⟩, e, q⟩ := loop1_run (f := spec_l07Draw.b0 code) (fun p => (0 ≤ p.1 ∧ p.1 ≤ 4096) ∧ Surf p.2.2.1 ∧ p.2.2.1.length ≤ 8 ∧ 0 ≤ p.2.2.2 ∧ p.2.2.2 ≤ 100) (fun p => p.2.2.2.toNat) (fun p => (0 ≤ p.1 ∧ p.1 ≤ 4096) ∧ Surf p.2.2.1 ∧ p.2.2.1.length ≤ 8) (by
    rintro ⟨i, h, s, x⟩ ⟨hi, S, hs, hx⟩
    simp only at hi S hs hx
    unfold spec_l07Draw.b0
    dsimp only
    by_cases hg : x > 0 ∧ (s.length : Int) ≤ 6
    · rw [decide_eq_true hg.1, decide_eq_true hg.2]
      obtain ⟨r, i', h', e, hi', hr⟩ := next_ok hc h (s.length : Int) hi
      have h2 := S.two
      have hr := hr (by omega)
      simp only [Bool.and_self, cond_true]
      rw [e]
      simp only [Option.bind_some]
      obtain ⟨j, rfl⟩ := Int.eq_ofNat_of_zero_le hr.1
      have hj : j < s.length := by omega
      rw [(split_same S hj).1, Option.bind_some, w64_in (by omega)]
      have hl := split_len s j
      exact .inl ⟨_, rfl, ⟨hi', (split_surf S hj (by omega)).1, by simp only; omega, by simp only; omega⟩, by simp only; omega⟩
    · have : (decide (x > 0) && decide ((s.length : Int) ≤ 6)) = false := by
        rw [Bool.and_eq_false_iff]; simp only [decide_eq_false_iff_not]; omega
      rw [this]
      exact .inr ⟨_, rfl, hi, S, hs⟩) (i, h, s, x5) ⟨hi, S, hs, hx⟩ (by simp only; omega)
  exact ⟨i', h', s', x', e, q⟩
theorem draw_flip {i h x7 : Int} {s : List (List Int)} (hi : 0 ≤ i ∧ i ≤ 4096) (S : Surf s) (hs : s.length ≤ 8) (hx : 0 ≤ x7 ∧ x7 ≤ 100) : ∃ i' h' s' x', loop1 (spec_l07Draw.b1 code) (i, h, s, x7) = some (i', h', s', x') ∧ (0 ≤ i' ∧ i' ≤ 4096) ∧ Surf s' ∧ s'.length ≤ 8 := by
  obtain ⟨⟨i', h', s', x'⟩, e, q⟩ := loop1_run (f := spec_l07Draw.b1 code) (fun p => (0 ≤ p.1 ∧ p.1 ≤ 4096) ∧ Surf p.2.2.1 ∧ p.2.2.1.length ≤ 8 ∧ 0 ≤ p.2.2.2 ∧ p.2.2.2 ≤ 100) (fun p => p.2.2.2.toNat) (fun p => (0 ≤ p.1 ∧ p.1 ≤ 4096) ∧ Surf p.2.2.1 ∧ p.2.2.1.length ≤ 8) (by
    rintro ⟨i, h, s, x⟩ ⟨hi, S, hs, hx⟩
    simp only at hi S hs hx
    unfold spec_l07Draw.b1
    dsimp only
    by_cases hg : x > 0
    · rw [decide_eq_true hg, cond_true, specOr S]
      simp only [Option.bind_some]
      cases ho : orB s with
      | false => exact .inr ⟨_, rfl, hi, S, hs⟩
      | true =>
        have h2 := S.two
        have hm : 1 ≤ ed s.length ∧ ed s.length ≤ 18 := by unfold ed; omega
        obtain ⟨r, i', h', e, hi', hr⟩ := next_ok hc h (ed s.length : Int) hi
        have hr := hr (by omega)
        rw [cond_true, edges_eq (by omega), e]
        simp only [Option.bind_some]
        obtain ⟨q, rfl⟩ := Int.eq_ofNat_of_zero_le hr.1
        have hq : w64 (1 + (q : Int)) = ((q + 1 : Nat) : Int) := by rw [w64_in (by omega)]; omega
        obtain ⟨o, b, eo, hb⟩ := flip_draw S ho (q := q) (by omega)
        have eo' : spec_l07Flip.f s (w64 (1 + (q : Int))) = some (o, b) := by rw [hq]; exact eo
        rw [eo', w64_in (by omega)]
        simp only [Option.bind_some]
        cases b with
        | false => exact .inl ⟨_, rfl, ⟨hi', S, hs, by simp only; omega, by simp only; omega⟩, by simp only; omega⟩
        | true =>
          obtain ⟨_, _, i0, x0, j0, y0, E, rfl⟩ := hb rfl
          have hl : (flipped s ((q + 1 : Nat) : Int) i0 x0 j0 y0).length = s.length := by unfold flipped; simp
          exact .inl ⟨_, rfl, ⟨hi', (flip_surf S E).1, by simp only; omega, by simp only; omega, by simp only; omega⟩, by simp only; omega⟩
    · rw [decide_eq_false hg]
      exact .inr ⟨_, rfl, hi, S, hs⟩) (i, h, s, x7) ⟨hi, S, hs, hx⟩ (by simp only; omega)
  exact ⟨i', h', s', x', e, q⟩
theorem draw_ok {i : Int} (h : Int) (hi : 0 ≤ i ∧ i ≤ 4096) : ∃ s i' h', spec_l07Draw.f code i h = some (s, i', h') ∧ (0 ≤ i' ∧ i' ≤ 4096) ∧ Mild s := by
  unfold spec_l07Draw.f
  obtain ⟨r1, i1, h1, e1, hi1, hr1⟩ := next_ok hc h 7 hi
  have hr1 := hr1 (by omega)
  rw [e1]
  simp only [Option.bind_some]
  obtain ⟨s, es, hS, hl⟩ := named_ok hr1
  have S := surf_of hS
  rw [chk_in (by simp; omega), es]
  simp only [Option.bind_some]
  obtain ⟨r2, i2, h2, e2, hi2, hr2⟩ := next_ok hc h1 3 hi1
  have hr2 := hr2 (by omega)
  rw [e2]
  simp only [Option.bind_some]
  obtain ⟨i3, h3, s3, x3, e3, hi3, S3, hl3⟩ := draw_split hc (h := h2) hi2 S (by omega) (x5 := r2) (by omega)
  rw [e3]
  simp only [Option.bind_some]
  obtain ⟨r4, i4, h4, e4, hi4, hr4⟩ := next_ok hc h3 4 hi3
  have hr4 := hr4 (by omega)
  rw [e4]
  simp only [Option.bind_some]
  obtain ⟨i5, h5, s5, x5, e5, hi5, S5, hl5⟩ := draw_flip hc (h := h4) hi4 S3 hl3 (x7 := r4) (by omega)
  rw [e5]
  simp only [Option.bind_some]
  obtain ⟨r6, i6, h6, e6, hi6, hr6⟩ := next_ok hc h5 4 hi5
  rw [e6]
  simp only [Option.bind_some]
  have hm := S5.mild hl5
  have key : ∃ i7 h7 s7, (bif (r6 == 0) then (G.spec_l01Next.f code i6 h6 (s5.length : Int)).bind (fun p => match p with | (r_13, y24, y25) => chk r_13 s5.length ((G.spec_l07Over.f (gt s5 r_13)).bind (fun r_14 => some (y24, y25, (s5.set r_13.toNat r_14))))) else some (i6, h6, s5)) = some (i7, h7, s7) ∧ (0 ≤ i7 ∧ i7 ≤ 4096) ∧ Mild s7 := by
    cases r6 == 0 with
    | false => exact ⟨_, _, _, rfl, hi6, hm⟩
    | true =>
      obtain ⟨r7, i7, h7, e7, hi7, hr7⟩ := next_ok hc h6 (s5.length : Int) hi6
      have h2 := S5.two
      have hr7 := hr7 (by omega)
      rw [cond_true, e7]
      simp only [Option.bind_some]
      obtain ⟨u, eu, hu⟩ := over_row (hm.2.2 _ (gt_memR hr7))
      rw [chk_in hr7, eu]
      exact ⟨_, _, _, rfl, hi7, by rw [List.length_set]; exact hm.1, by rw [List.length_set]; exact hm.2.1, fun r hr => mem_setR hr hu hm.2.2⟩
  obtain ⟨i7, h7, s7, e7, hi7, hm7⟩ := key
  rw [e7]
  simp only [Option.bind_some]
  obtain ⟨r8, i8, h8, e8, hi8, hr8⟩ := next_ok hc h7 12 hi7
  rw [e8]
  simp only [Option.bind_some]
  obtain ⟨m1, m2, m3⟩ := hm7
  by_cases hg : r8 = 0 ∧ (s7.length : Int) ≤ 6
  · have : ((r8 == 0) && decide ((s7.length : Int) ≤ 6)) = true := by rw [hg.1, decide_eq_true hg.2]; rfl
    rw [this, cond_true, small_in (by omega)]
    refine ⟨_, _, _, rfl, hi8, ?_, ?_, ?_⟩
    · simp
    · simp; omega
    · intro r hr
      rcases List.mem_append.1 hr with hr | hr
      · exact m3 r hr
      · simp only [List.mem_cons, List.not_mem_nil, or_false] at hr
        rcases hr with rfl | rfl <;> rfl
  · have : ((r8 == 0) && decide ((s7.length : Int) ≤ 6)) = false := by
      rw [Bool.and_eq_false_iff]
      by_cases h0 : r8 = 0
      · exact .inr (decide_eq_false (fun h => hg ⟨h0, h⟩))
      · exact .inl (by simpa using h0)
    rw [this]
    exact ⟨_, _, _, rfl, hi8, m1, m2, m3⟩
theorem spoil_ok {i : Int} (h : Int) (hi : 0 ≤ i ∧ i ≤ 4096) : ∃ s i' h', spec_l07Spoil.f code i h = some (s, i', h') ∧ (0 ≤ i' ∧ i' ≤ 4096) ∧ Few s := by
  unfold spec_l07Spoil.f
  obtain ⟨s, i1, h1, e1, hi1, m1, m2, m3⟩ := draw_ok hc h hi
  rw [e1]
  simp only [Option.bind_some]
  obtain ⟨r2, i2, h2, e2, hi2, _⟩ := next_ok hc h1 40 hi1
  rw [e2]
  simp only [Option.bind_some]
  have h0 : gt s 0 ∈ s := gt_memR (by omega)
  have h00 := m3 _ h0
  have own : spec_l01Own.f (gt s 0) = some (gt s 0) := by
    unfold spec_l01Own.f
    rw [small_in (by simp; omega)]; rfl
  by_cases c0 : r2 = 0
  · have : (r2 == 0) = true := by simpa using c0
    have hg : ∀ d : Bool, d = true → (d && decide ((1 : Int) ≤ (s.length : Int)) && decide ((s.length : Int) ≤ (s.length : Int))) = true := fun d hd => by subst hd; simp; omega
    rw [this, cond_true]
    unfold grd
    rw [hg _ (by decide)]
    refine ⟨_, _, _, rfl, hi2, ?_, fun r hr => ?_⟩
    · simp; omega
    · have := m3 r (List.mem_of_mem_drop (List.mem_of_mem_take hr)); omega
  · have : (r2 == 0) = false := by simpa using c0
    rw [this, cond_false]
    by_cases c1 : r2 = 1
    · have : (r2 == 1) = true := by simpa using c1
      rw [this, cond_true, chk_in (by omega), own, Option.bind_some, small_in (by simp; omega)]
      refine ⟨_, _, _, rfl, hi2, ?_, fun r hr => ?_⟩
      · simp; omega
      · exact mem_setR (P := fun r => r.length ≤ 4) hr (by simp; omega) (fun r hr => by have := m3 r hr; omega)
    · have : (r2 == 1) = false := by simpa using c1
      rw [this, cond_false]
      by_cases c2 : r2 = 2
      · have : (r2 == 2) = true := by simpa using c2
        rw [this, cond_true, chk_in (by omega), own, Option.bind_some]
        obtain ⟨r3, i3, h3, e3, hi3, hr3⟩ := next_ok hc h2 3 hi2
        have hr3 := hr3 (by omega)
        obtain ⟨r4, i4, h4, e4, hi4⟩ := pick_ok hc h3 hi3 [0, 1, (-2), 100] (by simp)
        rw [e3]
        simp only [Option.bind_some]
        rw [e4]
        simp only [Option.bind_some]
        rw [chk_in (by omega)]
        refine ⟨_, _, _, rfl, hi4, ?_, fun r hr => ?_⟩
        · simp; omega
        · exact mem_setR (P := fun r => r.length ≤ 4) hr (by rw [List.length_set]; omega) (fun r hr => by have := m3 r hr; omega)
      · have : (r2 == 2) = false := by simpa using c2
        rw [this, cond_false]
        exact ⟨s, _, _, rfl, hi2, by omega, fun r hr => by have := m3 r hr; omega⟩
theorem drawn : ∃ s i h, (G.spec_l01From.f code).bind (fun p => match p with | (r_1, r_2) => G.spec_l07Spoil.f code r_1 r_2) = some (s, i, h) ∧ (0 ≤ i ∧ i ≤ 4096) ∧ Few s := by
  obtain ⟨h, e⟩ := from_ok hc
  obtain ⟨s, i, h', e', hi, hf⟩ := spoil_ok hc h (i := 0) (by omega)
  rw [e]
  exact ⟨s, i, h', e', hi, hf⟩
theorem drawFlip : ∃ s k, spec_DrawFlipEdge.f code = some (s, k) ∧ Few s := by
  unfold spec_DrawFlipEdge.f
  obtain ⟨h, e⟩ := from_ok hc
  obtain ⟨s, i, h', e', hi, hf⟩ := spoil_ok hc h (i := 0) (by omega)
  rw [e]
  simp only [Option.bind_some]
  rw [e']
  simp only [Option.bind_some]
  obtain ⟨r, i2, h2, e2, _⟩ := near_ok hc h' (if 0 > (w64 ((w64 (Int.tdiv (w64 ((s.length : Int) * 3)) 2)) - 1)) then 0 else (w64 ((w64 (Int.tdiv (w64 ((s.length : Int) * 3)) 2)) - 1))) hi
  rw [e2]
  exact ⟨_, _, rfl, hf⟩
theorem drawSplit : ∃ s k, spec_DrawSplitTriangle.f code = some (s, k) ∧ Few s := by
  unfold spec_DrawSplitTriangle.f
  obtain ⟨h, e⟩ := from_ok hc
  obtain ⟨s, i, h', e', hi, hf⟩ := spoil_ok hc h (i := 0) (by omega)
  rw [e]
  simp only [Option.bind_some]
  rw [e']
  simp only [Option.bind_some]
  obtain ⟨⟨i3, h3, s3⟩, e3, hi3, hf3⟩ := loop1_run (f := spec_DrawSplitTriangle.b0 code) (fun p => (0 ≤ p.1 ∧ p.1 ≤ 4096) ∧ Few p.2.2) (fun p => 20 - p.2.2.length) (fun p => (0 ≤ p.1 ∧ p.1 ≤ 4096) ∧ Few p.2.2) (by
    rintro ⟨i, h, s⟩ ⟨hi, hf⟩
    simp only at hi hf
    unfold spec_DrawSplitTriangle.b0
    dsimp only
    obtain ⟨r, i2, h2, e2, hi2, _⟩ := next_ok hc h 3 hi
    rw [e2]
    simp only [Option.bind_some]
    have hl := hf.1
    cases r == 0 with
    | false => exact .inr ⟨_, rfl, hi2, hf⟩
    | true =>
      rw [cond_true, specSurf (by omega)]
      simp only [Option.bind_some]
      cases hb : surfB s with
      | false => exact .inr ⟨_, rfl, hi2, hf⟩
      | true =>
        by_cases h12 : (s.length : Int) < 12
        · have S := surf_of hb
          have hev := S.even
          have h2 := S.two
          rw [decide_eq_true h12]
          simp only [Bool.and_self, cond_true]
          have e5 : spec_l07Split.f s 0 = some (split3 s 0) := (split_same S (i := 0) (by omega)).1
          rw [e5]
          have hl2 := split_len s 0
          have S2 := (split_surf S (i := 0) (by omega) (by omega)).1
          exact .inl ⟨_, rfl, ⟨hi2, by simp only; omega, fun r hr => by have := rows3 S2 r hr; omega⟩, by simp only; omega⟩
        · rw [decide_eq_false h12]
          exact .inr ⟨_, rfl, hi2, hf⟩) (i, h', s) ⟨hi, hf⟩ (by simp only; omega)
  rw [e3]
  simp only [Option.bind_some]
  obtain ⟨r, i4, h4, e4, _⟩ := near_ok hc h3 (if 0 > (w64 ((s3.length : Int) - 1)) then 0 else (w64 ((s3.length : Int) - 1))) hi3
  rw [e4]
  exact ⟨_, _, rfl, hf3⟩
end
end Go.Proofs.Ytiiljfpbcanphaa.G

/- Triangles turned one after the other: any two runs end alike where one of them ends oriented. -/
namespace Go.Proofs.Ytiiljfpbcanphaa.G
open Go Go.Sx Go.Proofs
/-- A triangle turned over. -/
def ov (t : List Int) : List Int := [-(gt t 2), -(gt t 1), -(gt t 0)]
theorem list3 {t : List Int} (h : t.length = 3) : ∃ a b c, t = [a, b, c] := by
  match t, h with
  | [a, b, c], _ => exact ⟨a, b, c, rfl⟩
theorem mem_ov {t : List Int} (h : t.length = 3) (x : Int) : x ∈ ov t ↔ -x ∈ t := by
  obtain ⟨a, b, c, rfl⟩ := list3 h
  have e : ov [a, b, c] = [-c, -b, -a] := rfl
  rw [e]
  simp only [List.mem_cons, List.not_mem_nil, or_false]
  omega
/-- Two triangles touch. -/
def Tch (t u : List Int) : Prop := ∃ x ∈ u, x ∈ t ∨ -x ∈ t
def upf {α : Type} (f : Nat → α) (k : Nat) (v : α) : Nat → α := fun j => if j = k then v else f j
theorem upf_same {α : Type} (f : Nat → α) (k : Nat) (v : α) : upf f k v k = v := if_pos rfl
theorem upf_ne {α : Type} (f : Nat → α) {k j : Nat} (v : α) (h : j ≠ k) : upf f k v j = f j := if_neg h
variable {n : Nat} {s : Nat → List Int}
inductive Run (n : Nat) (s : Nat → List Int) : (Nat → List Int) → (Nat → Bool) → Prop
  | init : Run n s s (fun _ => false)
  | start {o : Nat → List Int} {d : Nat → Bool} (i : Nat) : Run n s o d → i < n → d i = false → (∀ j, j < i → d j = true) → (∀ j k, j < n → k < n → d j = true → d k = false → ¬ Tch (s j) (s k)) → Run n s o (upf d i true)
  | turn {o : Nat → List Int} {d : Nat → Bool} (i k : Nat) : Run n s o d → i < n → k < n → d i = true → d k = false → (∃ x ∈ o k, x ∈ o i) → Run n s (upf o k (ov (o k))) (upf d k true)
  | keep {o : Nat → List Int} {d : Nat → Bool} (i k : Nat) : Run n s o d → i < n → k < n → d i = true → d k = false → (∃ x ∈ o k, -x ∈ o i) → Run n s o (upf d k true)
theorem Run.rows {o d} (h : Run n s o d) : ∀ k, (d k = false → o k = s k) ∧ (o k = s k ∨ o k = ov (s k)) := by
  induction h with
  | init => exact fun k => ⟨fun _ => rfl, .inl rfl⟩
  | start i _ _ _ _ _ ih =>
    intro k
    refine ⟨fun hk => (ih k).1 ?_, (ih k).2⟩
    by_cases e : k = i
    · subst e; rw [upf_same] at hk; cases hk
    · rwa [upf_ne _ _ e] at hk
  | turn i k _ _ _ _ hdk _ ih =>
    intro q
    by_cases e : q = k
    · subst e
      rw [upf_same, upf_same]
      exact ⟨fun h => (by cases h), .inr (by rw [(ih q).1 hdk])⟩
    · rw [upf_ne _ _ e, upf_ne _ _ e]
      exact ih q
  | keep i k _ _ _ _ _ _ ih =>
    intro q
    refine ⟨fun hq => (ih q).1 ?_, (ih q).2⟩
    by_cases e : q = k
    · subst e; rw [upf_same] at hq; cases hq
    · rwa [upf_ne _ _ e] at hq
theorem tch_same {o : Nat → List Int} (h3 : ∀ k, k < n → (s k).length = 3) (ho : ∀ k, o k = s k ∨ o k = ov (s k)) {i k : Nat} (hi : i < n) (hk : k < n) : Tch (o i) (o k) ↔ Tch (s i) (s k) := by
  have key : ∀ j, j < n → ∀ x : Int, (x ∈ o j ∨ -x ∈ o j) ↔ (x ∈ s j ∨ -x ∈ s j) := by
    intro j hj x
    rcases ho j with e | e
    · rw [e]
    · rw [e, mem_ov (h3 j hj), mem_ov (h3 j hj), Int.neg_neg]
      exact Or.comm
  unfold Tch
  constructor
  · rintro ⟨x, hx, h⟩
    rcases (key k hk x).1 (.inl hx) with h1 | h1
    · exact ⟨x, h1, (key i hi x).1 h⟩
    · exact ⟨-x, h1, by rw [Int.neg_neg]; exact ((key i hi x).1 h).symm⟩
  · rintro ⟨x, hx, h⟩
    rcases (key k hk x).2 (.inl hx) with h1 | h1
    · exact ⟨x, h1, (key i hi x).2 h⟩
    · exact ⟨-x, h1, by rw [Int.neg_neg]; exact ((key i hi x).2 h).symm⟩
inductive Conn (n : Nat) (s : Nat → List Int) : Nat → Nat → Prop
  | refl (r : Nat) : Conn n s r r
  | step {r i : Nat} (k : Nat) : Conn n s r i → i < n → k < n → Tch (s i) (s k) → Conn n s r k
def Root (n : Nat) (s : Nat → List Int) (r : Nat) : Prop := ∀ j, j < r → ¬ Conn n s j r
theorem start_root {d : Nat → Bool} {i : Nat} (_hi : i < n) (hd : d i = false) (hb : ∀ j, j < i → d j = true) (hc : ∀ j k, j < n → k < n → d j = true → d k = false → ¬ Tch (s j) (s k)) : Root n s i := by
  intro j hj hcn
  have key : ∀ {a b}, Conn n s a b → d a = true → d b = true := by
    intro a b h
    induction h with
    | refl => exact id
    | step k _ hi' hk ht ih =>
      intro ha
      cases hdk : d k with
      | true => rfl
      | false => exact absurd ht (hc _ _ hi' hk (ih ha) hdk)
  rw [key hcn (hb j hj)] at hd
  cases hd
theorem upf_mono {d : Nat → Bool} {k j : Nat} (h : d j = true) : upf d k true j = true := by
  unfold upf; split
  · rfl
  · exact h
theorem Run.roots {o d} (h3 : ∀ k, k < n → (s k).length = 3) (h : Run n s o d) : (∀ k, k < n → d k = true → ∃ r, Root n s r ∧ Conn n s r k ∧ d r = true ∧ ∀ j, j < r → d j = true) ∧ ∀ r, r < n → Root n s r → o r = s r := by
  induction h with
  | init => exact ⟨fun k _ hk => (by cases hk), fun r _ _ => rfl⟩
  | @start o d i hr hi hd hb hc ih =>
    refine ⟨fun k hk hdk => ?_, ih.2⟩
    by_cases e : k = i
    · subst e
      exact ⟨k, start_root hi hd hb hc, .refl k, upf_same _ _ _, fun j hj => upf_mono (hb j hj)⟩
    · rw [upf_ne _ _ e] at hdk
      obtain ⟨r, r1, r2, r3, r4⟩ := ih.1 k hk hdk
      exact ⟨r, r1, r2, upf_mono r3, fun j hj => upf_mono (r4 j hj)⟩
  | @turn o d i k hr hi hk hdi hdk hx ih =>
    have hrows := hr.rows
    have ht : Tch (s i) (s k) := by
      obtain ⟨x, hx1, hx2⟩ := hx
      exact (tch_same h3 (fun k => (hrows k).2) hi hk).1 ⟨x, hx1, .inl hx2⟩
    refine ⟨fun q hq hdq => ?_, fun r hrn hroot => ?_⟩
    · by_cases e : q = k
      · subst e
        obtain ⟨r, r1, r2, r3, r4⟩ := ih.1 i hi hdi
        exact ⟨r, r1, r2.step q hi hk ht, upf_mono r3, fun j hj => upf_mono (r4 j hj)⟩
      · rw [upf_ne _ _ e] at hdq
        obtain ⟨r, r1, r2, r3, r4⟩ := ih.1 q hq hdq
        exact ⟨r, r1, r2, upf_mono r3, fun j hj => upf_mono (r4 j hj)⟩
    · by_cases e : r = k
      · subst e
        obtain ⟨r', r1, r2, r3, r4⟩ := ih.1 i hi hdi
        have h1 : ¬ r < r' := fun h => by have := r4 r h; rw [hdk] at this; cases this
        have h2 : r' ≠ r := fun h => by rw [h, hdk] at r3; cases r3
        exact absurd (r2.step r hi hk ht) (hroot r' (by omega))
      · rw [upf_ne _ _ e]
        exact ih.2 r hrn hroot
  | @keep o d i k hr hi hk hdi hdk hx ih =>
    have hrows := hr.rows
    have ht : Tch (s i) (s k) := by
      obtain ⟨x, hx1, hx2⟩ := hx
      exact (tch_same h3 (fun k => (hrows k).2) hi hk).1 ⟨x, hx1, .inr hx2⟩
    refine ⟨fun q hq hdq => ?_, ih.2⟩
    by_cases e : q = k
    · subst e
      obtain ⟨r, r1, r2, r3, r4⟩ := ih.1 i hi hdi
      exact ⟨r, r1, r2.step q hi hk ht, upf_mono r3, fun j hj => upf_mono (r4 j hj)⟩
    · rw [upf_ne _ _ e] at hdq
      obtain ⟨r, r1, r2, r3, r4⟩ := ih.1 q hq hdq
      exact ⟨r, r1, r2, upf_mono r3, fun j hj => upf_mono (r4 j hj)⟩
/-- No two triangles have a side in the same direction. -/
def Ori (n : Nat) (o : Nat → List Int) : Prop := ∀ i k, i < n → k < n → i ≠ k → ∀ x ∈ o i, x ∉ o k
theorem Run.same {o d} {z : Nat → List Int} (h3 : ∀ k, k < n → (s k).length = 3) (hz : ∀ k, k < n → z k = s k ∨ z k = ov (s k)) (hzr : ∀ r, r < n → Root n s r → z r = s r) (hzo : Ori n z) (h : Run n s o d) : ∀ k, k < n → d k = true → o k = z k := by
  induction h with
  | init => intro k _ hk; cases hk
  | @start o d i hr hi hd hb hc ih =>
    intro k hk hdk
    by_cases e : k = i
    · subst e
      rw [(hr.rows k).1 hd, hzr k hk (start_root hi hd hb hc)]
    · rw [upf_ne _ _ e] at hdk
      exact ih k hk hdk
  | @turn o d i k hr hi hk hdi hdk hx ih =>
    intro q hq hdq
    by_cases e : q = k
    · subst e
      rw [upf_same]
      obtain ⟨x, hx1, hx2⟩ := hx
      have hne : i ≠ q := fun e => by rw [e, hdk] at hdi; cases hdi
      rw [(hr.rows q).1 hdk] at hx1 ⊢
      rw [ih i hi hdi] at hx2
      rcases hz q hk with h1 | h1
      · rw [← h1] at hx1
        exact absurd hx1 (hzo i q hi hk hne x hx2)
      · exact h1.symm
    · rw [upf_ne _ _ e] at hdq ⊢
      exact ih q hq hdq
  | @keep o d i k hr hi hk hdi hdk hx ih =>
    intro q hq hdq
    by_cases e : q = k
    · subst e
      obtain ⟨x, hx1, hx2⟩ := hx
      have hne : i ≠ q := fun e => by rw [e, hdk] at hdi; cases hdi
      rw [(hr.rows q).1 hdk] at hx1 ⊢
      rw [ih i hi hdi] at hx2
      rcases hz q hk with h1 | h1
      · exact h1.symm
      · have : -x ∈ z q := by rw [h1, mem_ov (h3 q hk), Int.neg_neg]; exact hx1
        exact absurd this (hzo i q hi hk hne (-x) hx2)
    · rw [upf_ne _ _ e] at hdq
      exact ih q hq hdq
/-- Two runs that are over: if one of them ends oriented, the other ends alike. -/
theorem Run.unique {o d o' d'} (h3 : ∀ k, k < n → (s k).length = 3) (h : Run n s o d) (hd : ∀ k, k < n → d k = true) (h' : Run n s o' d') (ho : Ori n o') : ∀ k, k < n → o k = o' k :=
  fun k hk => h.same h3 (fun k _ => (h'.rows k).2) (fun r hr h1 => (h'.roots h3).2 r hr h1) ho k hk (hd k hk)
end Go.Proofs.Ytiiljfpbcanphaa.G

/- Slices of numbers that are searched. -/
namespace Go.Proofs.Ytiiljfpbcanphaa.G
open Go Go.Sx Go.Proofs
theorem gt_ix {α : Type} [Inhabited α] {a : List α} {i : Nat} (h : i < a.length) : gt a (i : Int) = a[i] := by simp [gt, List.getD, h]
theorem any_ix {α : Type} [Inhabited α] (a : List α) (p : α → Bool) : (List.range a.length).any (fun (i : Nat) => p (gt a (i : Int))) = a.any p := by
  rw [Bool.eq_iff_iff, List.any_eq_true, List.any_eq_true]
  constructor
  · rintro ⟨i, hi, h⟩
    have hi' := List.mem_range.1 hi
    exact ⟨a[i], List.getElem_mem _, by rwa [gt_ix hi'] at h⟩
  · rintro ⟨x, hx, h⟩
    obtain ⟨i, hi, rfl⟩ := List.mem_iff_getElem.1 hx
    exact ⟨i, List.mem_range.2 hi, by rw [gt_ix hi]; exact h⟩
theorem found {n : Nat} (p : Nat → Bool) (b : Int) : (((some (match (List.range n).find? p with | some i => LO.ret ((i : Nat) : Int) | none => LO.brk b) : Option (LO Int Int)).bind (ln fun _ => some (-1))).bind fun r_1 => some (decide (r_1 ≥ 0))) = some ((List.range n).any p) := by
  cases hfd : (List.range n).find? p with
  | none =>
    have : (List.range n).any p = false := by
      rw [List.any_eq_false]; intro x hx; have := List.find?_eq_none.1 hfd x hx; simpa using this
    rw [this]; rfl
  | some i =>
    have : (List.range n).any p = true := List.any_eq_true.2 ⟨i, List.mem_of_find?_eq_some hfd, List.find?_some hfd⟩
    rw [this]
    have hd : decide ((i : Int) ≥ 0) = true := by simp
    simp only [Option.bind_some, ln, hd]
theorem hasVal (a : List Int) (h : a.length < 1000000) (v : Int) : slices_Contains_int64_int64.f a v = some (a.any fun x => v == x) := by
  unfold slices_Contains_int64_int64.f slices_Index_int64_int64.f
  have hl := loop_find (f := slices_Index_int64_int64.b0 a v) (fun i => (i : Int)) a.length (fun (i : Nat) => v == gt a (i : Int)) (fun i => (i : Int)) (a.length : Int) (by omega) (fun i hi => by
    unfold slices_Index_int64_int64.b0
    simp only [dlt_nat, hi, decide_true, cond_true]
    rw [chk_in (by omega), w64_succ (by omega)]
    cases v == gt a (i : Int) <;> rfl) (by
    unfold slices_Index_int64_int64.b0
    simp)
  have hl' : loop (slices_Index_int64_int64.b0 a v) 0 = _ := hl
  rw [hl', ← any_ix a (fun x => v == x)]
  exact found _ _
end Go.Proofs.Ytiiljfpbcanphaa.G

/- Slices of numbers that are searched by a test. -/
namespace Go.Proofs.Ytiiljfpbcanphaa.G
open Go Go.Sx Go.Proofs
theorem hasInts (a : List Int) (h : a.length < 10000000) (f : Int → Option Bool) (p : Int → Bool) (hf : ∀ x ∈ a, f x = some (p x)) : slices_ContainsFunc_int64_int64.f a f = some (a.any p) := by
  unfold slices_ContainsFunc_int64_int64.f slices_IndexFunc_int64_int64.f
  have hl := loop_find (f := slices_IndexFunc_int64_int64.b0 a f) (fun i => (i : Int)) a.length (fun (i : Nat) => p (gt a (i : Int))) (fun i => (i : Int)) (a.length : Int) (by omega) (fun i hi => by
    unfold slices_IndexFunc_int64_int64.b0
    simp only [dlt_nat, hi, decide_true, cond_true]
    rw [chk_in (by omega), hf _ (by rw [gt_ix hi]; exact List.getElem_mem _), Option.bind_some, w64_succ (by omega)]
    cases p (gt a (i : Int)) <;> rfl) (by
    unfold slices_IndexFunc_int64_int64.b0
    simp)
  have hl' : loop (slices_IndexFunc_int64_int64.b0 a f) 0 = _ := hl
  rw [hl', ← any_ix a p]
  exact found _ _
end Go.Proofs.Ytiiljfpbcanphaa.G

/- Both programs turn triangles by runs. -/
namespace Go.Proofs.Ytiiljfpbcanphaa.G
open Go Go.Sx Go.Proofs
theorem gt_upd {α : Type} [Inhabited α] (l : List α) {k : Nat} (v : α) (h : k < l.length) : (fun i : Nat => gt (l.set k v) (i : Int)) = upf (fun i : Nat => gt l (i : Int)) k v := by
  funext i
  unfold upf
  by_cases e : i = k
  · subst e; simp [gt, List.getD, h]
  · have e' : ¬ k = i := fun h => e h.symm
    rw [if_neg e]
    simp [gt, List.getD, e']
/-- A run, told by lists. -/
structure RunL (s l : List (List Int)) (b : List Bool) : Prop where
  len : l.length = s.length
  lenb : b.length = s.length
  run : Run s.length (fun i : Nat => gt s (i : Int)) (fun i : Nat => gt l (i : Int)) (fun i : Nat => gt b (i : Int))
/-- The triangles that are not done. -/
def und (b : List Bool) : Nat := b.count false
theorem und_set {b : List Bool} {k : Nat} (hk : k < b.length) (h : gt b (k : Int) = false) : und (b.set k true) + 1 = und b := by
  unfold und
  have e : b[k] = false := by rwa [gt_ix hk] at h
  have hp : 0 < b.count false := List.count_pos_iff.2 (by rw [← e]; exact List.getElem_mem _)
  rw [List.count_set hk, e]
  simp
  omega
theorem und_le (b : List Bool) : und b ≤ b.length := List.count_le_length
def tB (t u : List Int) : Bool := u.any fun x => t.any (fun y => x == y) || t.any (fun y => -x == y)
def sB (t u : List Int) : Bool := u.any fun x => t.any (fun y => x == y)
theorem tB_iff (t u : List Int) : tB t u = true ↔ Tch t u := by
  unfold tB Tch
  simp
theorem sB_iff (t u : List Int) : sB t u = true ↔ ∃ x ∈ u, x ∈ t := by
  unfold sB
  simp
section
variable {s : List (List Int)} (S : Surf s)
include S
theorem s_row {k : Nat} (hk : k < s.length) : (gt s (k : Int)).length = 3 := (row_entry (S.row k hk) (q := 0) (by omega)).2
theorem s_ent {k : Nat} (hk : k < s.length) {x : Int} (hx : x ∈ gt s (k : Int)) : x ≠ 0 ∧ -18 ≤ x ∧ x ≤ 18 := by
  have hr := S.row k hk
  have hm := S.most
  have he : ed s.length ≤ 18 := by unfold ed; omega
  unfold rowB at hr
  simp only [Bool.and_eq_true, decide_eq_true_eq, List.all_eq_true] at hr
  have := hr.2 x hx
  unfold entB at this
  simp only [Bool.and_eq_true, decide_eq_true_eq] at this
  omega
variable {l : List (List Int)} {b : List Bool} (R : RunL s l b)
include R
theorem l_row {k : Nat} (hk : k < s.length) : (gt l (k : Int)).length = 3 := by
  rcases (R.run.rows k).2 with e | e
  · have e' : gt l (k : Int) = gt s (k : Int) := e
    rw [e']; exact s_row S hk
  · have e' : gt l (k : Int) = ov (gt s (k : Int)) := e
    rw [e']; rfl
theorem l_ent {k : Nat} (hk : k < s.length) {x : Int} (hx : x ∈ gt l (k : Int)) : x ≠ 0 ∧ -18 ≤ x ∧ x ≤ 18 := by
  rcases (R.run.rows k).2 with e | e
  · have e' : gt l (k : Int) = gt s (k : Int) := e
    rw [e'] at hx; exact s_ent S hk hx
  · have e' : gt l (k : Int) = ov (gt s (k : Int)) := e
    rw [e', mem_ov (s_row S hk)] at hx
    have := s_ent S hk hx
    omega
theorem tch_l {i k : Nat} (hi : i < s.length) (hk : k < s.length) : Tch (gt l (i : Int)) (gt l (k : Int)) ↔ Tch (gt s (i : Int)) (gt s (k : Int)) :=
  tch_same (s := fun i : Nat => gt s (i : Int)) (o := fun i : Nat => gt l (i : Int)) (fun _ hk => s_row S hk) (fun k => (R.run.rows k).2) hi hk
theorem over_eq {k : Nat} (hk : k < s.length) : spec_l07Over.f (gt l (k : Int)) = some (ov (gt l (k : Int))) ∧ impl_turned.f (gt l (k : Int)) = some (ov (gt l (k : Int))) := by
  have h3 := l_row S R hk
  have hb : ∀ q : Nat, q < 3 → w64 (0 - gt (gt l (k : Int)) (q : Int)) = -(gt (gt l (k : Int)) (q : Int)) := by
    intro q hq
    have e : gt (gt l (k : Int)) (q : Int) = (gt l (k : Int))[q]'(by omega) := gt_ix (by omega)
    have := l_ent S R hk (x := gt (gt l (k : Int)) (q : Int)) (by rw [e]; exact List.getElem_mem _)
    rw [w64_in (by omega)]; omega
  have h0 := hb 0 (by omega)
  have h1 := hb 1 (by omega)
  have h2 := hb 2 (by omega)
  simp only [Int.natCast_zero, Int.natCast_one] at h0 h1
  have h2' : w64 (0 - gt (gt l (k : Int)) 2) = -(gt (gt l (k : Int)) 2) := h2
  unfold spec_l07Over.f impl_turned.f
  rw [chk_in (by omega), chk_in (by omega), chk_in (by omega), h0, h1, h2']
  exact ⟨rfl, rfl⟩
omit S in
/-- One more that is done. -/
theorem RunL.go {i k : Nat} (hi : i < s.length) (hk : k < s.length) (hdi : gt b (i : Int) = true) (hdk : gt b (k : Int) = false) (ht : Tch (gt l (i : Int)) (gt l (k : Int))) :
    RunL s (bif sB (gt l (i : Int)) (gt l (k : Int)) then l.set k (ov (gt l (k : Int))) else l) (b.set k true) := by
  have hl := R.len
  have hb := R.lenb
  cases hs : sB (gt l (i : Int)) (gt l (k : Int)) with
  | true =>
    rw [cond_true]
    refine ⟨by rw [List.length_set]; exact hl, by rw [List.length_set]; exact hb, ?_⟩
    rw [gt_upd _ _ (by omega), gt_upd _ _ (by omega)]
    exact .turn i k R.run hi hk hdi hdk ((sB_iff _ _).1 hs)
  | false =>
    rw [cond_false]
    refine ⟨hl, by rw [List.length_set]; exact hb, ?_⟩
    rw [gt_upd _ _ (by omega)]
    refine .keep i k R.run hi hk hdi hdk ?_
    obtain ⟨x, hx, h⟩ := ht
    have hn : ¬ sB (gt l (i : Int)) (gt l (k : Int)) = true := by rw [hs]; simp
    rw [sB_iff] at hn
    rcases h with h | h
    · exact absurd ⟨x, hx, h⟩ hn
    · exact ⟨x, hx, h⟩
omit S in
theorem RunL.begin {i : Nat} (hi : i < s.length) (hdi : gt b (i : Int) = false) (hb : ∀ j : Nat, j < i → gt b (j : Int) = true) (hc : ∀ j k : Nat, j < s.length → k < s.length → gt b (j : Int) = true → gt b (k : Int) = false → ¬ Tch (gt s (j : Int)) (gt s (k : Int))) : RunL s l (b.set i true) := by
  refine ⟨R.len, by rw [List.length_set]; exact R.lenb, ?_⟩
  have := R.lenb
  rw [gt_upd _ _ (by omega)]
  exact .start i R.run hi hdi hb hc
end
theorem gt_set_true {b : List Bool} {k : Nat} (hk : k < b.length) (j : Nat) : gt (b.set k true) (j : Int) = if j = k then true else gt b (j : Int) := by
  have := congrFun (gt_upd b true hk) j
  exact this
theorem RunL.first (s : List (List Int)) : RunL s s (List.replicate s.length false) := by
  refine ⟨rfl, by simp, ?_⟩
  have : (fun i : Nat => gt (List.replicate s.length false) (i : Int)) = fun _ => false := by
    funext i
    by_cases h : i < s.length <;> simp [gt, List.getD, h]
  rw [this]
  exact .init
end Go.Proofs.Ytiiljfpbcanphaa.G

/- The reference's loops are a run. -/
namespace Go.Proofs.Ytiiljfpbcanphaa.G
open Go Go.Sx Go.Proofs
theorem edge_abs {x : Int} (h : -18 ≤ x ∧ x ≤ 18) : spec_l07Edge.f x = some (x.natAbs : Int) := by
  unfold spec_l07Edge.f
  rw [w64_in (by omega)]
  congr 1
  split <;> omega
theorem touch_row {t u : List Int} (ht : t.length = 3) (hu : u.length = 3) (bt : ∀ x ∈ t, -18 ≤ x ∧ x ≤ 18) (bu : ∀ x ∈ u, -18 ≤ x ∧ x ≤ 18) {i : Nat} (hi : i < 3) (T0 S0 : Bool) :
    loop1 (spec_l07Touch.b0 i t u) (T0, S0, 0) = some (T0 || u.any (fun x => (gt t (i : Int)).natAbs == x.natAbs), S0 || u.any (fun x => gt t (i : Int) == x), 3) := by
  have et : gt t (i : Int) = t[i]'(by omega) := gt_ix (by omega)
  have hti := bt (gt t (i : Int)) (by rw [et]; exact List.getElem_mem _)
  have h := loop1_upto (f := spec_l07Touch.b0 i t u) (fun k => (T0 || (List.range k).any (fun q => (gt t (i : Int)).natAbs == (gt u (q : Int)).natAbs), S0 || (List.range k).any (fun q => gt t (i : Int) == gt u (q : Int)), (k : Int))) 3 (T0 || (List.range 3).any (fun q => (gt t (i : Int)).natAbs == (gt u (q : Int)).natAbs), S0 || (List.range 3).any (fun q => gt t (i : Int) == gt u (q : Int)), 3) (by omega) (fun k hk => by
    unfold spec_l07Touch.b0
    have hd : decide ((k : Int) < 3) = true := decide_eq_true (by omega)
    have eu : gt u (k : Int) = u[k]'(by omega) := gt_ix (by omega)
    have huk := bu (gt u (k : Int)) (by rw [eu]; exact List.getElem_mem _)
    simp only [hd, cond_true]
    rw [chk_in (by omega), edge_abs hti, Option.bind_some, chk_in (by omega), edge_abs huk, Option.bind_some, w64_succ (by omega), List.range_succ, List.any_append, List.any_append, beq_nat]
    simp only [List.any_cons, List.any_nil, Bool.or_false]
    by_cases he : (gt t (i : Int)).natAbs = (gt u (k : Int)).natAbs
    · have hb : ((gt t (i : Int)).natAbs == (gt u (k : Int)).natAbs) = true := by simpa using he
      rw [decide_eq_true he, hb]
      cases S0 <;> cases (List.range k).any (fun q => gt t (i : Int) == gt u (q : Int)) <;> simp
    · have hb : ((gt t (i : Int)).natAbs == (gt u (k : Int)).natAbs) = false := by simpa using he
      have hc : (gt t (i : Int) == gt u (k : Int)) = false := by
        rw [beq_eq_false_iff_ne]; intro e; exact he (by rw [e])
      rw [decide_eq_false he, hb, hc]
      simp) (by
    unfold spec_l07Touch.b0
    rfl)
  have e1 := any_ix u (fun x => (gt t (i : Int)).natAbs == x.natAbs)
  have e2 := any_ix u (fun x => gt t (i : Int) == x)
  rw [hu] at e1 e2
  rw [e1, e2] at h
  simpa using h
theorem touch_run {t u : List Int} (ht : t.length = 3) (hu : u.length = 3) (bt : ∀ x ∈ t, -18 ≤ x ∧ x ≤ 18) (bu : ∀ x ∈ u, -18 ≤ x ∧ x ≤ 18) : spec_l07Touch.f t u = some (tB t u, sB t u) := by
  unfold spec_l07Touch.f
  have h := loop1_upto (f := spec_l07Touch.b1 t u) (fun k => ((List.range k).any (fun i => u.any (fun x => (gt t (i : Int)).natAbs == x.natAbs)), (List.range k).any (fun i => u.any (fun x => gt t (i : Int) == x)), (k : Int))) 3 ((List.range 3).any (fun i => u.any (fun x => (gt t (i : Int)).natAbs == x.natAbs)), (List.range 3).any (fun i => u.any (fun x => gt t (i : Int) == x)), 3) (by omega) (fun k hk => by
    unfold spec_l07Touch.b1
    have hd : decide ((k : Int) < 3) = true := decide_eq_true (by omega)
    simp only [hd, cond_true]
    rw [touch_row ht hu bt bu hk, Option.bind_some, w64_succ (by omega), List.range_succ, List.any_append, List.any_append]
    simp only [List.any_cons, List.any_nil, Bool.or_false]) (by
    unfold spec_l07Touch.b1
    rfl)
  have e1 := any_ix t (fun y => u.any (fun x => y.natAbs == x.natAbs))
  have e2 := any_ix t (fun y => u.any (fun x => y == x))
  rw [ht] at e1 e2
  rw [e1, e2] at h
  have h' : loop1 (spec_l07Touch.b1 t u) (false, false, 0) = _ := h
  rw [h']
  have a1 : (t.any fun y => u.any fun x => y.natAbs == x.natAbs) = tB t u := by
    unfold tB
    rw [Bool.eq_iff_iff]
    simp only [List.any_eq_true, Bool.or_eq_true, beq_iff_eq]
    constructor
    · rintro ⟨y, hy, x, hx, e⟩
      refine ⟨x, hx, ?_⟩
      rcases Int.natAbs_eq_natAbs_iff.1 e with e | e
      · exact .inl ⟨y, hy, e.symm⟩
      · exact .inr ⟨y, hy, by omega⟩
    · rintro ⟨x, hx, ⟨y, hy, e⟩ | ⟨y, hy, e⟩⟩
      · exact ⟨y, hy, x, hx, by rw [e]⟩
      · exact ⟨y, hy, x, hx, by omega⟩
  have a2 : (t.any fun y => u.any fun x => y == x) = sB t u := by
    unfold sB
    rw [Bool.eq_iff_iff]
    simp only [List.any_eq_true, beq_iff_eq]
    constructor
    · rintro ⟨y, hy, x, hx, e⟩; exact ⟨x, hx, y, hy, e.symm⟩
    · rintro ⟨x, hx, y, hy, e⟩; exact ⟨y, hy, x, hx, e.symm⟩
  rw [a1, a2]
  rfl
/-- What is done has no edge out of it, up to triangle i. -/
def clTo (s : List (List Int)) (b : List Bool) (i : Nat) : Prop := ∀ j k : Nat, j < i → k < s.length → gt b (j : Int) = true → gt b (k : Int) = false → ¬ Tch (gt s (j : Int)) (gt s (k : Int))
def upTo (b : List Bool) (m : Nat) : Prop := ∀ j : Nat, j < m → gt b (j : Int) = true
theorem upTo_set {b : List Bool} {k m : Nat} (hk : k < b.length) (h : upTo b m) : upTo (b.set k true) m := fun j hj => by
  rw [gt_set_true hk]; split
  · rfl
  · exact h j hj
theorem cl_first (s : List (List Int)) : clTo s (List.replicate s.length false) s.length := by
  intro j k hj hk hdj
  have : gt (List.replicate s.length false) (j : Int) = false := by simp [gt, List.getD, hj]
  rw [this] at hdj
  cases hdj
section
variable {s : List (List Int)} (S : Surf s)
include S
theorem spRow {i m u0 : Nat} (hi : i < s.length) {l : List (List Int)} {b : List Bool} {x : Bool} (R : RunL s l b) (hm : upTo b m) (hu : und b + (if x = true then 1 else 0) ≤ u0) (hc : x = true ∨ clTo s b i) :
    ∃ l' b' x' q, loop1 (spec_l07Orient.b0 i) (l, b, x, 0) = some (l', b', x', q) ∧ RunL s l' b' ∧ upTo b' m ∧ und b' + (if x' = true then 1 else 0) ≤ u0 ∧ (x' = true ∨ clTo s b' (i + 1)) := by
  have hn := S.most
  obtain ⟨⟨l', b', x', q⟩, h1, h2⟩ := loop1_run (f := spec_l07Orient.b0 i)
    (fun p => RunL s p.1 p.2.1 ∧ upTo p.2.1 m ∧ und p.2.1 + (if p.2.2.1 = true then 1 else 0) ≤ u0 ∧ ∃ k : Nat, p.2.2.2 = k ∧ k ≤ s.length ∧ (p.2.2.1 = true ∨ (clTo s p.2.1 i ∧ (gt p.2.1 (i : Int) = true → ∀ k' : Nat, k' < k → gt p.2.1 (k' : Int) = false → ¬ Tch (gt s (i : Int)) (gt s (k' : Int))))))
    (fun p => s.length - p.2.2.2.toNat)
    (fun p => RunL s p.1 p.2.1 ∧ upTo p.2.1 m ∧ und p.2.1 + (if p.2.2.1 = true then 1 else 0) ≤ u0 ∧ (p.2.2.1 = true ∨ clTo s p.2.1 (i + 1)))
    (by
      rintro ⟨l, b, x, q⟩ ⟨R, hm, hu, k, rfl, hk, hc⟩
      simp only at R hm hu hc
      have hl := R.len
      have hb := R.lenb
      unfold spec_l07Orient.b0
      simp only []
      by_cases hkn : k < s.length
      · have d1 : decide ((k : Int) < (l.length : Int)) = true := decide_eq_true (by omega)
        rw [d1, cond_true, chk_in (by omega), Option.bind_some]
        cases hdi : gt b (i : Int) with
        | false =>
          refine .inr ⟨(l, b, x, (k : Int)), rfl, R, hm, hu, ?_⟩
          rcases hc with hc | hc
          · exact .inl hc
          · refine .inr fun j k' hj hk' hdj hdk => ?_
            by_cases e : j = i
            · subst e; rw [hdi] at hdj; cases hdj
            · exact hc.1 j k' (by omega) hk' hdj hdk
        | true =>
          have htE := touch_run (l_row S R hi) (l_row S R hkn) (fun x hx => (l_ent S R hi hx).2) (fun x hx => (l_ent S R hkn hx).2)
          rw [cond_true, chk_in (by omega), chk_in (by omega), htE]
          simp only [Option.bind_some]
          rw [chk_in (by omega)]
          cases hdk : gt b (k : Int) with
          | true =>
            refine .inl ⟨(l, b, x, ((k + 1 : Nat) : Int)), by simp only [Bool.true_or, cond_true, Option.bind_some, jn, w64_succ (show k < 4611686018427387904 by omega)], ⟨R, hm, hu, k + 1, rfl, by omega, ?_⟩, by simp only; omega⟩
            rcases hc with hc | hc
            · exact .inl hc
            · refine .inr ⟨hc.1, fun hd k' hk' hdk' => ?_⟩
              by_cases e : k' = k
              · subst e; rw [hdk] at hdk'; cases hdk'
              · exact hc.2 hd k' (by omega) hdk'
          | false =>
            cases ht : tB (gt l (i : Int)) (gt l (k : Int)) with
            | false =>
              refine .inl ⟨(l, b, x, ((k + 1 : Nat) : Int)), by simp only [Bool.false_or, Bool.not_false, cond_true, Option.bind_some, jn, w64_succ (show k < 4611686018427387904 by omega)], ⟨R, hm, hu, k + 1, rfl, by omega, ?_⟩, by simp only; omega⟩
              rcases hc with hc | hc
              · exact .inl hc
              · refine .inr ⟨hc.1, fun hd k' hk' hdk' => ?_⟩
                by_cases e : k' = k
                · subst e
                  rw [← tch_l S R hi hkn, ← tB_iff, ht]
                  simp
                · exact hc.2 hd k' (by omega) hdk'
            | true =>
              have R' := R.go hi hkn hdi hdk ((tB_iff _ _).1 ht)
              have ho := (over_eq S R hkn).1
              have hus := und_set (b := b) (k := k) (by omega) hdk
              refine .inl ⟨(bif sB (gt l (i : Int)) (gt l (k : Int)) then l.set k (ov (gt l (k : Int))) else l, b.set k true, true, ((k + 1 : Nat) : Int)), ?_, ⟨R', upTo_set (by omega) hm, ?_, k + 1, rfl, by omega, .inl rfl⟩, by simp only; omega⟩
              · rw [ho]
                simp only [Bool.false_or, Bool.not_true, cond_false, Option.bind_some, Int.toNat_natCast]
                cases sB (gt l (i : Int)) (gt l (k : Int)) <;> simp only [cond_true, cond_false, Option.bind_some, jn, w64_succ (show k < 4611686018427387904 by omega)]
              · simp only [if_true]
                omega
      · obtain rfl : k = s.length := by omega
        have d1 : decide (((s.length : Nat) : Int) < (l.length : Int)) = false := decide_eq_false (by omega)
        rw [d1, cond_false, Option.bind_some, cond_false]
        refine .inr ⟨(l, b, x, (s.length : Int)), rfl, R, hm, hu, ?_⟩
        rcases hc with hc | hc
        · exact .inl hc
        · refine .inr fun j k' hj hk' hdj hdk => ?_
          by_cases e : j = i
          · subst e; exact hc.2 hdj k' hk' hdk
          · exact hc.1 j k' (by omega) hk' hdj hdk)
    (l, b, x, 0) ⟨R, hm, hu, 0, rfl, by omega, hc.imp_right fun h => ⟨h, fun _ k' hk' => by omega⟩⟩ (by simp only; omega)
  exact ⟨l', b', x', q, h1, h2⟩
theorem spPass {m u0 : Nat} {l : List (List Int)} {b : List Bool} (R : RunL s l b) (hm : upTo b m) (hu : und b ≤ u0) :
    ∃ l' b' x' q, loop1 spec_l07Orient.b1 (l, b, false, 0) = some (l', b', x', q) ∧ RunL s l' b' ∧ upTo b' m ∧ und b' + (if x' = true then 1 else 0) ≤ u0 ∧ (x' = true ∨ clTo s b' s.length) := by
  have hn := S.most
  obtain ⟨⟨l', b', x', q⟩, h1, h2⟩ := loop1_run (f := spec_l07Orient.b1)
    (fun p => RunL s p.1 p.2.1 ∧ upTo p.2.1 m ∧ und p.2.1 + (if p.2.2.1 = true then 1 else 0) ≤ u0 ∧ ∃ k : Nat, p.2.2.2 = k ∧ k ≤ s.length ∧ (p.2.2.1 = true ∨ clTo s p.2.1 k))
    (fun p => s.length - p.2.2.2.toNat)
    (fun p => RunL s p.1 p.2.1 ∧ upTo p.2.1 m ∧ und p.2.1 + (if p.2.2.1 = true then 1 else 0) ≤ u0 ∧ (p.2.2.1 = true ∨ clTo s p.2.1 s.length))
    (by
      rintro ⟨l, b, x, q⟩ ⟨R, hm, hu, k, rfl, hk, hc⟩
      simp only at R hm hu hc
      have hl := R.len
      unfold spec_l07Orient.b1
      simp only []
      by_cases hkn : k < s.length
      · have d1 : decide ((k : Int) < (l.length : Int)) = true := decide_eq_true (by omega)
        obtain ⟨l', b', x', q', e, R', hm', hu', hc'⟩ := spRow S hkn R hm hu hc
        refine .inl ⟨(l', b', x', ((k + 1 : Nat) : Int)), ?_, ⟨R', hm', hu', k + 1, rfl, by omega, hc'⟩, by simp only; omega⟩
        rw [d1, cond_true, e]
        simp only [Option.bind_some, w64_succ (show k < 4611686018427387904 by omega)]
      · obtain rfl : k = s.length := by omega
        have d1 : decide (((s.length : Nat) : Int) < (l.length : Int)) = false := decide_eq_false (by omega)
        rw [d1, cond_false]
        exact .inr ⟨(l, b, x, (s.length : Int)), rfl, R, hm, hu, hc⟩)
    (l, b, false, 0) ⟨R, hm, by simpa using hu, 0, rfl, by omega, .inr fun j _ hj => by omega⟩ (by simp only; omega)
  exact ⟨l', b', x', q, h1, h2⟩
theorem spMore {m : Nat} {l : List (List Int)} {b : List Bool} (R : RunL s l b) (hm : upTo b m) :
    ∃ l' b' x', loop1 spec_l07Orient.b2 (l, b, true) = some (l', b', x') ∧ RunL s l' b' ∧ upTo b' m ∧ clTo s b' s.length := by
  have hn := S.most
  obtain ⟨⟨l', b', x'⟩, h1, h2⟩ := loop1_run (f := spec_l07Orient.b2)
    (fun p => RunL s p.1 p.2.1 ∧ upTo p.2.1 m ∧ (p.2.2 = true ∨ clTo s p.2.1 s.length))
    (fun p => 2 * und p.2.1 + (if p.2.2 = true then 1 else 0))
    (fun p => RunL s p.1 p.2.1 ∧ upTo p.2.1 m ∧ clTo s p.2.1 s.length)
    (by
      rintro ⟨l, b, x⟩ ⟨R, hm, hc⟩
      simp only at R hm hc
      unfold spec_l07Orient.b2
      simp only []
      cases x with
      | false =>
        refine .inr ⟨(l, b, false), rfl, R, hm, ?_⟩
        rcases hc with hc | hc
        · cases hc
        · exact hc
      | true =>
        obtain ⟨l', b', x', q', e, R', hm', hu', hc'⟩ := spPass S R hm (Nat.le_refl _)
        refine .inl ⟨(l', b', x'), ?_, ⟨R', hm', hc'⟩, ?_⟩
        · rw [cond_true, e]; rfl
        · simp only [if_true]
          cases x' with
          | false => simp only [Bool.false_eq_true, if_false] at hu' ⊢; omega
          | true => simp only [if_true] at hu' ⊢; omega)
    (l, b, true) ⟨R, hm, .inl rfl⟩ (by
      have h1 := und_le b
      have h2 := R.lenb
      simp only [if_true]; omega)
  exact ⟨l', b', x', h1, h2⟩
theorem spAll : ∃ l b, loop1 spec_l07Orient.b3 (s, List.replicate s.length false, 0) = some (l, b, (s.length : Int)) ∧ RunL s l b ∧ upTo b s.length := by
  have hn := S.most
  obtain ⟨⟨l', b', x'⟩, h1, rfl, h2⟩ := loop1_run (f := spec_l07Orient.b3)
    (fun p => RunL s p.1 p.2.1 ∧ clTo s p.2.1 s.length ∧ ∃ k : Nat, p.2.2 = k ∧ k ≤ s.length ∧ upTo p.2.1 k)
    (fun p => s.length - p.2.2.toNat)
    (fun p => p.2.2 = (s.length : Int) ∧ RunL s p.1 p.2.1 ∧ upTo p.2.1 s.length)
    (by
      rintro ⟨l, b, x⟩ ⟨R, hc, k, rfl, hk, hm⟩
      simp only at R hm hc
      have hl := R.len
      have hb := R.lenb
      unfold spec_l07Orient.b3
      simp only []
      by_cases hkn : k < s.length
      · have d1 : decide ((k : Int) < (l.length : Int)) = true := decide_eq_true (by omega)
        rw [d1, cond_true, chk_in (by omega)]
        cases hdk : gt b (k : Int) with
        | true =>
          refine .inl ⟨(l, b, ((k + 1 : Nat) : Int)), by simp only [cond_true, Option.bind_some, jn, w64_succ (show k < 4611686018427387904 by omega)], ⟨R, hc, k + 1, rfl, by omega, fun j hj => ?_⟩, by simp only; omega⟩
          by_cases e : j = k
          · subst e; exact hdk
          · exact hm j (by omega)
        | false =>
          have R' := R.begin hkn hdk hm fun j k' hj hk' => hc j k' hj hk'
          have hm' : upTo (b.set k true) (k + 1) := fun j hj => by
            rw [gt_set_true (by omega)]
            split
            · rfl
            · exact hm j (by omega)
          obtain ⟨l', b', x', e, R2, hm2, hc2⟩ := spMore S R' hm'
          refine .inl ⟨(l', b', ((k + 1 : Nat) : Int)), ?_, ⟨R2, hc2, k + 1, rfl, by omega, hm2⟩, by simp only; omega⟩
          rw [cond_false, Int.toNat_natCast, e]
          simp only [Option.bind_some, jn, w64_succ (show k < 4611686018427387904 by omega)]
      · obtain rfl : k = s.length := by omega
        have d1 : decide (((s.length : Nat) : Int) < (l.length : Int)) = false := decide_eq_false (by omega)
        rw [d1, cond_false]
        exact .inr ⟨(l, b, (s.length : Int)), rfl, rfl, R, hm⟩)
    (s, List.replicate s.length false, 0) ⟨RunL.first s, cl_first s, 0, rfl, by omega, fun j hj => by omega⟩ (by simp only; omega)
  exact ⟨l', b', h1, h2⟩
end
end Go.Proofs.Ytiiljfpbcanphaa.G

/- The program's loops are a run. -/
namespace Go.Proofs.Ytiiljfpbcanphaa.G
open Go Go.Sx Go.Proofs
def qOk (s : List (List Int)) (b : List Bool) (y : List Int) : Prop := ∀ q ∈ y, ∃ i : Nat, i < s.length ∧ q = (i : Int) ∧ gt b (i : Int) = true
def clQ (s : List (List Int)) (b : List Bool) (y : List Int) : Prop := ∀ i k : Nat, i < s.length → k < s.length → gt b (i : Int) = true → gt b (k : Int) = false → ((i : Int) ∈ y ∨ ¬ Tch (gt s (i : Int)) (gt s (k : Int)))
section
variable {s : List (List Int)} (S : Surf s)
include S
theorem im_any {l : List (List Int)} {b : List Bool} (R : RunL s l b) {i k : Nat} (hi : i < s.length) (hk : k < s.length) (rest : List Int) :
    slices_ContainsFunc_int64_int64.f (gt l (k : Int)) (fun x0_ => impl_OrientSurface_1.f x0_ l ((i : Int) :: rest)) = some (tB (gt l (i : Int)) (gt l (k : Int))) ∧
    slices_ContainsFunc_int64_int64.f (gt l (k : Int)) (fun x0_ => impl_OrientSurface_2.f x0_ l ((i : Int) :: rest)) = some (sB (gt l (i : Int)) (gt l (k : Int))) := by
  have h3 := l_row S R hi
  have h4 := l_row S R hk
  have hl := R.len
  have g0 : gt ((i : Int) :: rest) 0 = (i : Int) := rfl
  constructor
  · refine hasInts _ (by omega) _ (fun x => (gt l (i : Int)).any (fun y => x == y) || (gt l (i : Int)).any (fun y => -x == y)) fun x hx => ?_
    have hb := l_ent S R hk hx
    unfold impl_OrientSurface_1.f
    rw [chk_in (by simp), g0, chk_in (by omega), hasVal _ (by omega), Option.bind_some]
    cases (gt l (i : Int)).any (fun y => x == y) with
    | true => rfl
    | false => rw [cond_false, w64_in (by omega), Int.zero_sub, hasVal _ (by omega)]; rfl
  · refine hasInts _ (by omega) _ (fun x => (gt l (i : Int)).any (fun y => x == y)) fun x hx => ?_
    unfold impl_OrientSurface_2.f
    rw [chk_in (by simp), g0, chk_in (by omega), hasVal _ (by omega)]
    rfl
theorem imRow {i m u0 : Nat} (hi : i < s.length) {l : List (List Int)} {b : List Bool} {rest : List Int} (R : RunL s l b) (hm : upTo b m) (hq : qOk s b ((i : Int) :: rest)) (hc : clQ s b ((i : Int) :: rest)) (hu : und b + rest.length = u0) (hu0 : u0 ≤ 100) {l7 : List (List Int)} (h7 : l7.length = s.length) :
    ∃ l' b' rest', loop1 (impl_OrientSurface.b0 l7) (l, b, (i : Int) :: rest, 0) = some (l', b', (i : Int) :: rest', (s.length : Int)) ∧ RunL s l' b' ∧ upTo b' m ∧ qOk s b' rest' ∧ clQ s b' rest' ∧ und b' + rest'.length = u0 := by
  have hn := S.most
  obtain ⟨⟨l', b', y', q⟩, h1, rest', rfl, rfl, h2⟩ := loop1_run (f := impl_OrientSurface.b0 l7)
    (fun p => ∃ (rest : List Int) (k : Nat), p.2.2.1 = (i : Int) :: rest ∧ p.2.2.2 = k ∧ k ≤ s.length ∧ RunL s p.1 p.2.1 ∧ upTo p.2.1 m ∧ qOk s p.2.1 ((i : Int) :: rest) ∧ clQ s p.2.1 ((i : Int) :: rest) ∧ und p.2.1 + rest.length = u0 ∧ ∀ k' : Nat, k' < k → gt p.2.1 (k' : Int) = false → ¬ Tch (gt s (i : Int)) (gt s (k' : Int)))
    (fun p => s.length - p.2.2.2.toNat)
    (fun p => ∃ rest : List Int, p.2.2.1 = (i : Int) :: rest ∧ p.2.2.2 = (s.length : Int) ∧ RunL s p.1 p.2.1 ∧ upTo p.2.1 m ∧ qOk s p.2.1 rest ∧ clQ s p.2.1 rest ∧ und p.2.1 + rest.length = u0)
    (by
      rintro ⟨l, b, y, q⟩ ⟨rest, k, hy, hq', hk, R, hm, hq, hc, hu, hkk⟩
      simp only at hy hq' R hm hq hc hu hkk
      subst hy hq'
      have hl := R.len
      have hb := R.lenb
      unfold impl_OrientSurface.b0
      simp only []
      by_cases hkn : k < s.length
      · have d1 : decide ((k : Int) < (l7.length : Int)) = true := decide_eq_true (by omega)
        obtain ⟨t1, t2⟩ := im_any S R hi hkn rest
        rw [d1, cond_true, chk_in (by omega), chk_in (by omega), t1, t2]
        obtain ⟨_, _, _, hdi⟩ := hq (i : Int) (by simp)
        have hdi' : gt b (i : Int) = true := by
          obtain ⟨i', _, e, h⟩ := hq (i : Int) (by simp)
          have : i = i' := by omega
          subst this; exact h
        cases hdk : gt b (k : Int) with
        | true =>
          refine .inl ⟨(l, b, (i : Int) :: rest, ((k + 1 : Nat) : Int)), by simp only [cond_true, Option.bind_some, jn, w64_succ (show k < 4611686018427387904 by omega)], ⟨rest, k + 1, rfl, rfl, by omega, R, hm, hq, hc, hu, fun k' hk' hdk' => ?_⟩, by simp only; omega⟩
          by_cases e : k' = k
          · subst e; simp only at hdk'; rw [hdk] at hdk'; cases hdk'
          · exact hkk k' (by omega) hdk'
        | false =>
          cases ht : tB (gt l (i : Int)) (gt l (k : Int)) with
          | false =>
            refine .inl ⟨(l, b, (i : Int) :: rest, ((k + 1 : Nat) : Int)), by simp only [cond_false, Option.bind_some, Bool.not_false, cond_true, jn, w64_succ (show k < 4611686018427387904 by omega)], ⟨rest, k + 1, rfl, rfl, by omega, R, hm, hq, hc, hu, fun k' hk' hdk' => ?_⟩, by simp only; omega⟩
            by_cases e : k' = k
            · subst e
              rw [← tch_l S R hi hkn, ← tB_iff, ht]
              simp
            · exact hkk k' (by omega) hdk'
          | true =>
            have R' := R.go hi hkn hdi' hdk ((tB_iff _ _).1 ht)
            have ho := (over_eq S R hkn).2
            have hus := und_set (b := b) (k := k) (by omega) hdk
            have hold : ∀ j : Nat, gt b (j : Int) = true → gt (b.set k true) (j : Int) = true := fun j hj => by
              rw [gt_set_true (by omega)]; split
              · rfl
              · exact hj
            have hnew : ∀ j : Nat, gt (b.set k true) (j : Int) = false → gt b (j : Int) = false ∧ j ≠ k := fun j hj => by
              rw [gt_set_true (by omega)] at hj
              split at hj
              · cases hj
              · exact ⟨hj, by assumption⟩
            refine .inl ⟨(bif sB (gt l (i : Int)) (gt l (k : Int)) then l.set k (ov (gt l (k : Int))) else l, b.set k true, (i : Int) :: (rest ++ [(k : Int)]), ((k + 1 : Nat) : Int)), ?_, ⟨rest ++ [(k : Int)], k + 1, rfl, rfl, by omega, R', upTo_set (by omega) hm, ?_, ?_, ?_, ?_⟩, by simp only; omega⟩
            · rw [ho]
              simp only [cond_false, Option.bind_some, Bool.not_true, Int.toNat_natCast]
              have hsm : ((i : Int) :: rest).length + [(k : Int)].length ≤ 1099511627776 := by simp; omega
              cases sB (gt l (i : Int)) (gt l (k : Int)) <;> simp only [cond_true, cond_false, Option.bind_some, small_in hsm, jn, w64_succ (show k < 4611686018427387904 by omega), List.cons_append]
            · intro q hqm
              simp only [List.mem_cons, List.mem_append, List.not_mem_nil, or_false] at hqm
              rcases hqm with e | hqm | e
              · exact ⟨i, hi, e, hold i hdi'⟩
              · obtain ⟨j, h1, h2, h3⟩ := hq q (by simp [hqm])
                exact ⟨j, h1, h2, hold j h3⟩
              · exact ⟨k, hkn, e, by simp only; rw [gt_set_true (by omega), if_pos rfl]⟩
            · intro j k' hj hk' hdj hdk'
              obtain ⟨h1, _⟩ := hnew k' hdk'
              by_cases e : j = k
              · subst e; exact .inl (by simp)
              · have hdj' : gt b (j : Int) = true := by
                  simp only at hdj
                  rw [gt_set_true (by omega), if_neg e] at hdj; exact hdj
                rcases hc j k' hj hk' hdj' h1 with h | h
                · exact .inl (by
                    simp only [List.mem_cons, List.mem_append] at h ⊢
                    rcases h with h | h
                    · exact .inl h
                    · exact .inr (.inl h))
                · exact .inr h
            · simp only [List.length_append, List.length_cons, List.length_nil]
              omega
            · intro k' hk' hdk'
              obtain ⟨h1, h2⟩ := hnew k' hdk'
              exact hkk k' (by omega) h1
      · obtain rfl : k = s.length := by omega
        have d1 : decide (((s.length : Nat) : Int) < (l7.length : Int)) = false := decide_eq_false (by omega)
        rw [d1, cond_false]
        refine .inr ⟨(l, b, (i : Int) :: rest, (s.length : Int)), rfl, rest, rfl, rfl, R, hm, fun q hqm => hq q (by simp [hqm]), ?_, hu⟩
        intro j k' hj hk' hdj hdk'
        rcases hc j k' hj hk' hdj hdk' with h | h
        · simp only [List.mem_cons] at h
          rcases h with h | h
          · have : j = i := by omega
            subst this
            exact .inr (hkk k' hk' hdk')
          · exact .inl h
        · exact .inr h)
    (l, b, (i : Int) :: rest, 0) ⟨rest, 0, rfl, rfl, by omega, R, hm, hq, hc, hu, fun k' hk' => by omega⟩ (by simp only; omega)
  exact ⟨l', b', rest', h1, h2⟩
theorem imMore {m : Nat} {l : List (List Int)} {b : List Bool} {y : List Int} (R : RunL s l b) (hm : upTo b m) (hq : qOk s b y) (hc : clQ s b y) (hu : und b + y.length ≤ 50) :
    ∃ l' b', loop1 impl_OrientSurface.b1 (l, b, y) = some (l', b', []) ∧ RunL s l' b' ∧ upTo b' m ∧ clQ s b' [] := by
  obtain ⟨⟨l', b', y'⟩, h1, rfl, h2⟩ := loop1_run (f := impl_OrientSurface.b1)
    (fun p => RunL s p.1 p.2.1 ∧ upTo p.2.1 m ∧ qOk s p.2.1 p.2.2 ∧ clQ s p.2.1 p.2.2 ∧ und p.2.1 + p.2.2.length ≤ 50)
    (fun p => und p.2.1 + p.2.2.length)
    (fun p => p.2.2 = [] ∧ RunL s p.1 p.2.1 ∧ upTo p.2.1 m ∧ clQ s p.2.1 p.2.2)
    (by
      rintro ⟨l, b, y⟩ ⟨R, hm, hq, hc, hu⟩
      simp only at R hm hq hc hu
      unfold impl_OrientSurface.b1
      simp only []
      cases y with
      | nil => exact .inr ⟨(l, b, []), rfl, rfl, R, hm, hc⟩
      | cons h rest =>
        obtain ⟨i, hi, rfl, hdi⟩ := hq h (by simp)
        simp only [List.length_cons] at hu
        obtain ⟨l', b', rest', e, R', hm', hq', hc', hu'⟩ := imRow S hi R hm hq hc rfl (by omega) R.len
        have d1 : decide ((((i : Int) :: rest).length : Int) > 0) = true := by simp
        refine .inl ⟨(l', b', rest'), ?_, ⟨R', hm', hq', hc', by simp only; omega⟩, by simp only [List.length_cons]; omega⟩
        rw [d1, cond_true, e]
        simp only [Option.bind_some]
        have g : (decide (0 ≤ 1) && decide (1 ≤ (((i : Int) :: rest').length : Int)) && decide ((((i : Int) :: rest').length : Int) ≤ (((i : Int) :: rest').length : Int))) = true := by simp; omega
        rw [g]
        simp only [grd, cond_true]
        congr 3
        simp)
    (l, b, y) ⟨R, hm, hq, hc, hu⟩ (by simp only; omega)
  exact ⟨l', b', h1, h2⟩
theorem imAll : ∃ l b, loop1 (impl_OrientSurface.b2 s) (s, List.replicate s.length false, 0) = some (l, b, (s.length : Int)) ∧ RunL s l b ∧ upTo b s.length := by
  have hn := S.most
  obtain ⟨⟨l', b', x'⟩, h1, rfl, h2⟩ := loop1_run (f := impl_OrientSurface.b2 s)
    (fun p => RunL s p.1 p.2.1 ∧ clQ s p.2.1 [] ∧ ∃ k : Nat, p.2.2 = k ∧ k ≤ s.length ∧ upTo p.2.1 k)
    (fun p => s.length - p.2.2.toNat)
    (fun p => p.2.2 = (s.length : Int) ∧ RunL s p.1 p.2.1 ∧ upTo p.2.1 s.length)
    (by
      rintro ⟨l, b, x⟩ ⟨R, hc, k, hx, hk, hm⟩
      simp only at R hm hc hx
      subst hx
      have hl := R.len
      have hb := R.lenb
      unfold impl_OrientSurface.b2
      simp only []
      by_cases hkn : k < s.length
      · have d1 : decide ((k : Int) < (s.length : Int)) = true := decide_eq_true (by omega)
        rw [d1, cond_true, chk_in (by omega)]
        cases hdk : gt b (k : Int) with
        | true =>
          refine .inl ⟨(l, b, ((k + 1 : Nat) : Int)), by simp only [cond_true, Option.bind_some, jn, w64_succ (show k < 4611686018427387904 by omega)], ⟨R, hc, k + 1, rfl, by omega, fun j hj => ?_⟩, by simp only; omega⟩
          by_cases e : j = k
          · subst e; exact hdk
          · exact hm j (by omega)
        | false =>
          have R' := R.begin hkn hdk hm fun j k' hj hk' hdj hdk' => (hc j k' hj hk' hdj hdk').resolve_left (by simp)
          have hm' : upTo (b.set k true) (k + 1) := fun j hj => by
            rw [gt_set_true (by omega)]
            split
            · rfl
            · exact hm j (by omega)
          have hq' : qOk s (b.set k true) [(k : Int)] := fun q hqm => by
            simp only [List.mem_cons, List.not_mem_nil, or_false] at hqm
            exact ⟨k, hkn, hqm, by rw [gt_set_true (by omega), if_pos rfl]⟩
          have hc' : clQ s (b.set k true) [(k : Int)] := fun j k' hj hk' hdj hdk' => by
            by_cases e : j = k
            · subst e; exact .inl (by simp)
            · rw [gt_set_true (by omega), if_neg e] at hdj
              rw [gt_set_true (by omega)] at hdk'
              split at hdk'
              · cases hdk'
              · exact .inr ((hc j k' hj hk' hdj hdk').resolve_left (by simp))
          have hul := und_le (b.set k true)
          rw [List.length_set] at hul
          obtain ⟨l', b', e, R2, hm2, hc2⟩ := imMore S R' hm' hq' hc' (by simp only [List.length_cons, List.length_nil]; omega)
          refine .inl ⟨(l', b', ((k + 1 : Nat) : Int)), ?_, ⟨R2, hc2, k + 1, rfl, by omega, hm2⟩, by simp only; omega⟩
          rw [cond_false, Int.toNat_natCast, e]
          simp only [Option.bind_some, jn, w64_succ (show k < 4611686018427387904 by omega)]
      · obtain rfl : k = s.length := by omega
        have d1 : decide (((s.length : Nat) : Int) < (s.length : Int)) = false := decide_eq_false (by omega)
        rw [d1, cond_false]
        exact .inr ⟨(l, b, (s.length : Int)), rfl, rfl, R, hm⟩)
    (s, List.replicate s.length false, 0) ⟨RunL.first s, fun j k hj hk hdj hdk => .inr (cl_first s j k hj hk hdj hdk), 0, rfl, by omega, fun j hj => by omega⟩ (by simp only; omega)
  exact ⟨l', b', h1, h2⟩
end
end Go.Proofs.Ytiiljfpbcanphaa.G

/- Surfaces oriented, told by both. -/
namespace Go.Proofs.Ytiiljfpbcanphaa.G
open Go Go.Sx Go.Proofs
/-- How often an edge is met. -/
theorem fl_len_app (P Q : List Side) (k : Nat) : (sdl (P ++ Q) k).length = (sdl P k).length + (sdl Q k).length := by
  unfold sdl; rw [List.filter_append, List.map_append, List.length_append]
theorem row_cnt {s l : List (List Int)} {i : Nat} (h3 : (gt s (i : Int)).length = 3) (h : gt l (i : Int) = gt s (i : Int) ∨ gt l (i : Int) = ov (gt s (i : Int))) (k : Nat) : (sdl (rowP l i 3) k).length = (sdl (rowP s i 3) k).length := by
  have hr : ∀ z : List (List Int), (sdl (rowP z i 3) k).length = (if (entry z i 0).natAbs = k then 1 else 0) + ((if (entry z i 1).natAbs = k then 1 else 0) + (if (entry z i 2).natAbs = k then 1 else 0)) := by
    intro z
    have e : rowP z i 3 = (([] ++ [(((i : Int), ((0 : Nat) : Int)), entry z i 0)]) ++ [(((i : Int), ((1 : Nat) : Int)), entry z i 1)]) ++ [(((i : Int), ((2 : Nat) : Int)), entry z i 2)] := rfl
    rw [e, sdl_add, sdl_add, sdl_add]
    have e0 : sdl [] k = [] := rfl
    rw [e0]
    split <;> split <;> split <;> rfl
  rw [hr l, hr s]
  obtain ⟨a, b, c, he⟩ := list3 h3
  have es : entry s i 0 = a ∧ entry s i 1 = b ∧ entry s i 2 = c := by
    unfold entry; rw [he]; exact ⟨rfl, rfl, rfl⟩
  rcases h with h | h
  · have el : entry l i 0 = a ∧ entry l i 1 = b ∧ entry l i 2 = c := by
      unfold entry; rw [h, he]; exact ⟨rfl, rfl, rfl⟩
    rw [es.1, es.2.1, es.2.2, el.1, el.2.1, el.2.2]
  · have el : entry l i 0 = -c ∧ entry l i 1 = -b ∧ entry l i 2 = -a := by
      unfold entry; rw [h, he]; exact ⟨rfl, rfl, rfl⟩
    rw [es.1, es.2.1, es.2.2, el.1, el.2.1, el.2.2, Int.natAbs_neg, Int.natAbs_neg, Int.natAbs_neg]
    omega
theorem pre_cnt {s l : List (List Int)} (h3 : ∀ i, i < s.length → (gt s (i : Int)).length = 3) (h : ∀ i : Nat, gt l (i : Int) = gt s (i : Int) ∨ gt l (i : Int) = ov (gt s (i : Int))) (k : Nat) : ∀ n, n ≤ s.length → (sdl (preP l n) k).length = (sdl (preP s n) k).length
  | 0, _ => rfl
  | n + 1, hn => by
    have ih := pre_cnt h3 h k n (by omega)
    show (sdl (preP l n ++ rowP l n 3) k).length = (sdl (preP s n ++ rowP s n 3) k).length
    rw [fl_len_app, fl_len_app, ih, row_cnt (h3 n (by omega)) (h n)]
section
variable {s : List (List Int)} (S : Surf s)
include S
theorem surf_run {l : List (List Int)} {b : List Bool} (R : RunL s l b) : Surf l := by
  have hl := R.len
  refine ⟨by rw [hl]; exact S.two, by rw [hl]; exact S.most, by rw [hl]; exact S.even, fun i hi => ?_, fun k hk => ?_⟩
  · rw [hl] at hi ⊢
    have h3 := l_row S R hi
    have hr := S.row i hi
    unfold rowB at hr ⊢
    simp only [Bool.and_eq_true, decide_eq_true_eq, List.all_eq_true] at hr ⊢
    refine ⟨h3, fun x hx => ?_⟩
    rcases (R.run.rows i).2 with e | e
    · have e' : gt l (i : Int) = gt s (i : Int) := e
      rw [e'] at hx; exact hr.2 x hx
    · have e' : gt l (i : Int) = ov (gt s (i : Int)) := e
      rw [e', mem_ov hr.1] at hx
      have := hr.2 _ hx
      unfold entB at this ⊢
      simp only [Bool.and_eq_true, decide_eq_true_eq] at this ⊢
      omega
  · rw [hl] at hk ⊢
    rw [pre_cnt (fun i hi => s_row S hi) (fun i => (R.run.rows i).2) (k + 1) s.length (Nat.le_refl _)]
    exact S.edge k hk
end
theorem mem_entry {l : List (List Int)} {i : Nat} (h3 : (gt l (i : Int)).length = 3) {x : Int} (hx : x ∈ gt l (i : Int)) : ∃ q : Nat, q < 3 ∧ entry l i q = x := by
  obtain ⟨q, hq, e⟩ := List.getElem_of_mem hx
  refine ⟨q, by omega, ?_⟩
  have : gt (gt l (i : Int)) (q : Int) = (gt l (i : Int))[q] := gt_ix hq
  unfold entry
  rw [this, e]
/-- A surface that is oriented has no two triangles with a side in the same direction. -/
theorem ori_of {l : List (List Int)} (S : Surf l) (h : orB l = true) : Ori l.length (fun i : Nat => gt l (i : Int)) := by
  intro i k hi hk hne x hx hx'
  have h3 := (row_entry (S.row i hi) (q := 0) (by omega)).2
  have h4 := (row_entry (S.row k hk) (q := 0) (by omega)).2
  obtain ⟨q, hq, e1⟩ := mem_entry h3 hx
  obtain ⟨q', hq', e2⟩ := mem_entry h4 hx'
  have hb := (row_entry (S.row i hi) hq).1
  have hle := abs_le hb
  rw [e1] at hb hle
  have hx0 : x ≠ 0 := by
    unfold entB at hb
    simp only [Bool.and_eq_true, decide_eq_true_eq] at hb
    exact hb.1.1
  obtain ⟨m, hm⟩ : ∃ m, x.natAbs = m + 1 := ⟨x.natAbs - 1, by omega⟩
  have hme : m < ed l.length := by omega
  obtain ⟨p, r, hf, hp, hr, ap, ar⟩ := S.edge2 hme
  have hsg : sg (preP l l.length) (m + 1) = 0 := by
    unfold orB at h
    have h2 : (List.range (ed l.length)).any (sameE l) = false := by simpa using h
    rw [List.any_eq_false] at h2
    have := h2 m (List.mem_range.2 hme)
    unfold sameE at this
    simpa using this
  unfold sg at hsg
  rw [hf] at hsg
  simp only [List.map_cons, List.map_nil, List.sum_cons, List.sum_nil] at hsg
  have hu : ∀ a c : Nat, a < l.length → c < 3 → entry l a c = x → ((((a : Int), (c : Int)), x) : Side) = p ∨ ((((a : Int), (c : Int)), x) : Side) = r := by
    intro a c ha hc he
    have hmem : ((((a : Int), (c : Int)), x) : Side) ∈ fl (preP l l.length) (m + 1) := by
      unfold fl
      rw [List.mem_filter]
      exact ⟨by have := in_preP l ha hc; rwa [he] at this, by simpa using hm⟩
    rw [hf] at hmem
    simpa using hmem
  have hpr : ¬ (p.2 = x ∧ r.2 = x) := by
    rintro ⟨a1, a2⟩
    rw [a1, a2] at hsg
    unfold sn at hsg
    split at hsg <;> omega
  rcases hu i q hi hq e1 with a | a <;> rcases hu k q' hk hq' e2 with c | c
  · rw [← a] at c; simp only [Prod.mk.injEq] at c; omega
  · exact hpr ⟨by rw [← a], by rw [← c]⟩
  · exact hpr ⟨by rw [← c], by rw [← a]⟩
  · rw [← a] at c; simp only [Prod.mk.injEq] at c; omega
theorem os_full {s : List (List Int)} (h1 : s.length ≤ 1048576) : ∃ o e, spec_OrientSurface.f s = some (o, e) ∧ impl_OrientSurface.f s = some (o, e) ∧ (o.length ≤ 12 ∧ ∀ r ∈ o, r.length ≤ 3) ∧ (e = 0 → Surf o ∧ orB o = true) := by
  unfold spec_OrientSurface.f impl_OrientSurface.f
  rw [specSurf h1, implSurf h1]
  cases hb : surfB s with
  | false => exact ⟨_, _, rfl, rfl, ⟨by simp, by simp⟩, fun h => absurd h (by decide)⟩
  | true =>
    have S := surf_of hb
    have h2 := S.most
    have hcl := clone_eq s (by omega) (fun r hr => by have := rows3 S r hr; omega)
    obtain ⟨l1, b1, e1, R1, u1⟩ := spAll S
    obtain ⟨l2, b2, e2, R2, u2⟩ := imAll S
    have S1 := surf_run S R1
    have S2 := surf_run S R2
    have n1 := R1.len
    have n2 := R2.len
    have hsame : (orB l1 = true → l2 = l1) ∧ (orB l2 = true → l1 = l2) := by
      have key : ∀ {l l' : List (List Int)} {b b' : List Bool}, RunL s l b → RunL s l' b' → upTo b s.length → Surf l' → orB l' = true → l = l' := by
        intro l l' b b' R R' u S' ho
        have hori := ori_of S' ho
        rw [R'.len] at hori
        have := R.run.unique (fun k hk => s_row S hk) u R'.run hori
        refine List.ext_getElem (by rw [R.len, R'.len]) fun k hk hk' => ?_
        have hks : k < s.length := by rw [← R.len]; exact hk
        have e := this k hks
        rw [gt_ix hk, gt_ix hk'] at e
        exact e
      exact ⟨key R2 R1 u2 S1, key R1 R2 u1 S2⟩
    unfold spec_l07Orient.f
    simp only [Option.bind_some, Bool.not_true, cond_false]
    rw [hcl.1, hcl.2]
    simp only [Option.bind_some, Int.toNat_natCast]
    rw [small_in (by omega), small_in (by omega), e1, e2]
    simp only [Option.bind_some]
    rw [specOr S1, implOr S2]
    simp only [Option.bind_some]
    have hrow : ∀ r ∈ l1, r.length ≤ 3 := fun r hr => by have := rows3 S1 r hr; omega
    cases o1 : orB l1 with
    | true =>
      obtain rfl := hsame.1 o1
      rw [o1]
      exact ⟨_, _, rfl, rfl, ⟨by omega, hrow⟩, fun _ => ⟨S1, o1⟩⟩
    | false =>
      cases o2 : orB l2 with
      | true =>
        obtain rfl := hsame.2 o2
        rw [o1] at o2; cases o2
      | false => exact ⟨_, _, rfl, rfl, ⟨by simp, by simp⟩, fun h => absurd h (by decide)⟩
/-- What is oriented stays as it is. -/
theorem os_again {s : List (List Int)} (S : Surf s) (ho : orB s = true) : impl_OrientSurface.f s = some (s, 0) := by
  have h2 := S.most
  have hcl := clone_eq s (by omega) (fun r hr => by have := rows3 S r hr; omega)
  unfold impl_OrientSurface.f
  rw [implSurf (by omega), S.isB]
  obtain ⟨l2, b2, e2, R2, u2⟩ := imAll S
  have he : l2 = s := by
    have := R2.run.same (fun k hk => s_row S hk) (z := fun i : Nat => gt s (i : Int)) (fun k _ => .inl rfl) (fun r _ _ => rfl) (ori_of S ho)
    refine List.ext_getElem R2.len fun k hk hk' => ?_
    have e := this k hk' (u2 k hk')
    rw [gt_ix hk] at e
    rw [e]
    exact gt_ix hk'
  simp only [Option.bind_some, Bool.not_true, cond_false]
  rw [hcl.2]
  simp only [Option.bind_some, Int.toNat_natCast]
  rw [small_in (by omega), e2]
  simp only [Option.bind_some]
  rw [he, implOr S, ho]
  rfl
end Go.Proofs.Ytiiljfpbcanphaa.G

/- Euler numbers, vertices, pieces, genus, orientation: told alike by both; rows compared. -/
namespace Go.Proofs.Ytiiljfpbcanphaa.G
open Go Go.Sx Go.Proofs
theorem likeInts_refl (a : List Int) (h : a.length < 1000000000000) : laws_likeInts.f a a = some true := by
  unfold laws_likeInts.f
  have e : (((a.length : Nat) : Int) != (a.length : Int)) = false := by simp
  rw [e, cond_false]
  have hl := loop_upto (f := laws_likeInts.b0 a a) (fun i => (i : Int)) a.length (a.length : Int) (by omega) (fun i hi => by
    unfold laws_likeInts.b0
    simp only [dlt_nat, hi, decide_true, cond_true]
    rw [chk_in (by omega), chk_in (by omega), w64_succ (by omega)]
    simp) (by
    unfold laws_likeInts.b0
    simp)
  have hl' : loop (laws_likeInts.b0 a a) 0 = some (.brk (a.length : Int)) := hl
  rw [hl']; rfl
theorem rows5_refl (a : List (List Int)) (h : a.length < 1000000000000) (hr : ∀ r ∈ a, r.length < 1000000000000) : laws_rows5.f a a = some true := by
  unfold laws_rows5.f
  have e : (((a.length : Nat) : Int) != (a.length : Int)) = false := by simp
  rw [e, cond_false]
  have hl := loop_upto (f := laws_rows5.b0 a a) (fun i => (i : Int)) a.length (a.length : Int) (by omega) (fun i hi => by
    unfold laws_rows5.b0
    simp only [dlt_nat, hi, decide_true, cond_true]
    rw [chk_in (by omega), chk_in (by omega), likeInts_refl _ (hr _ (by rw [gt_at hi]; exact List.getElem_mem _)), w64_succ (by omega)]
    rfl) (by
    unfold laws_rows5.b0
    simp)
  have hl' : loop (laws_rows5.b0 a a) 0 = some (.brk (a.length : Int)) := hl
  rw [hl']; rfl
theorem rows5_few {a : List (List Int)} {n m : Nat} (h : a.length ≤ n ∧ ∀ r ∈ a, r.length ≤ m) (hn : n ≤ 1000000) (hm : m ≤ 1000000) : laws_rows5.f a a = some true :=
  rows5_refl a (by have := h.1; omega) (fun r hr => by have := h.2 r hr; omega)
theorem go_same {s : List (List Int)} (h1 : s.length ≤ 1048576) : ∃ r, spec_GenusOf.f s = some r ∧ impl_GenusOf.f s = some r := by
  unfold spec_GenusOf.f impl_GenusOf.f
  rw [specSurf h1, implSurf h1]
  cases hb : surfB s with
  | false => exact ⟨_, rfl, rfl⟩
  | true =>
    have h := surf_of hb
    obtain ⟨v, l, _, e1, e2, e3⟩ := piece_same h
    obtain ⟨u, e4, e5⟩ := euler_same h
    simp only [Option.bind_some, Bool.not_true, cond_false]
    rw [specOr h, implOr h]
    simp only [Option.bind_some]
    rw [e1, e2]
    simp only [Option.bind_some]
    rw [e3]
    simp only [Option.bind_some]
    rw [e4, e5]
    cases orB s with
    | false => exact ⟨_, rfl, rfl⟩
    | true =>
      simp only [Bool.not_true, cond_false, Option.bind_some]
      cases decide ((v : Int) > 1) <;> exact ⟨_, rfl, rfl⟩
theorem cp2_same {s : List (List Int)} (h1 : s.length ≤ 1048576) : ∃ r, spec_CountSurfacePieces.f s = some r ∧ impl_CountSurfacePieces.f s = some r := by
  unfold spec_CountSurfacePieces.f impl_CountSurfacePieces.f impl_ofSurface.f
  rw [specSurf h1, implSurf h1]
  cases hb : surfB s with
  | false => exact ⟨_, rfl, rfl⟩
  | true =>
    obtain ⟨v, l, _, e1, e2, e3⟩ := piece_same (surf_of hb)
    simp only [Option.bind_some, Bool.not_true, cond_false]
    rw [e1, e2]
    simp only [Option.bind_some]
    rw [e3]
    exact ⟨_, rfl, rfl⟩
theorem cv_same {s : List (List Int)} (h1 : s.length ≤ 1048576) : ∃ r, spec_CountVertices.f s = some r ∧ impl_CountVertices.f s = some r := by
  unfold spec_CountVertices.f impl_CountVertices.f impl_ofSurface.f
  rw [specSurf h1, implSurf h1]
  cases hb : surfB s with
  | false => exact ⟨_, rfl, rfl⟩
  | true =>
    obtain ⟨v, _, e1, e2⟩ := vert_same (surf_of hb)
    simp only [Option.bind_some, Bool.not_true, cond_false]
    rw [e1, e2]
    exact ⟨_, rfl, rfl⟩
theorem en_same {s : List (List Int)} (h1 : s.length ≤ 1048576) : ∃ r, spec_EulerNumber.f s = some r ∧ impl_EulerNumber.f s = some r := by
  unfold spec_EulerNumber.f impl_EulerNumber.f impl_ofSurface.f
  rw [specSurf h1, implSurf h1]
  cases hb : surfB s with
  | false => exact ⟨_, rfl, rfl⟩
  | true =>
    obtain ⟨e, e1, e2⟩ := euler_same (surf_of hb)
    simp only [Option.bind_some, Bool.not_true, cond_false]
    rw [e1, e2]
    exact ⟨_, rfl, rfl⟩
theorem or_same {s : List (List Int)} (h1 : s.length ≤ 1048576) : ∃ r, spec_IsOriented.f s = some r ∧ impl_IsOriented.f s = some r := by
  unfold spec_IsOriented.f impl_IsOriented.f
  rw [specSurf h1, implSurf h1]
  cases hb : surfB s with
  | false => exact ⟨_, rfl, rfl⟩
  | true =>
    have h := surf_of hb
    simp only [Option.bind_some, Bool.not_true, cond_false]
    rw [specOr h, implOr h]
    exact ⟨_, rfl, rfl⟩
/-- What a surface has. -/
theorem Surf.cv {s : List (List Int)} (S : Surf s) {v : Int} (h : impl_vertices.f s = some v) : impl_CountVertices.f s = some (v, 0) := by
  have h2 := S.most
  unfold impl_CountVertices.f impl_ofSurface.f
  rw [implSurf (by omega), S.isB]
  simp only [Option.bind_some, Bool.not_true, cond_false]
  rw [h]; rfl
theorem Surf.en {s : List (List Int)} (S : Surf s) {v : Int} (h : impl_eulerOf.f s = some v) : impl_EulerNumber.f s = some (v, 0) := by
  have h2 := S.most
  unfold impl_EulerNumber.f impl_ofSurface.f
  rw [implSurf (by omega), S.isB]
  simp only [Option.bind_some, Bool.not_true, cond_false]
  rw [h]; rfl
theorem Surf.io {s : List (List Int)} (S : Surf s) : impl_IsOriented.f s = some (orB s, 0) := by
  have h2 := S.most
  unfold impl_IsOriented.f
  rw [implSurf (by omega), S.isB]
  simp only [Option.bind_some, Bool.not_true, cond_false]
  rw [implOr S]; rfl
theorem few_len {s : List (List Int)} (h : Few s) : s.length ≤ 1048576 := by have := h.1; omega
theorem flip_stage {s : List (List Int)} (k : Int) (hf : Few s) : ∃ o e, impl_FlipEdge.f s k = some (o, e) ∧ spec_FlipEdge.f s k = some (o, e) ∧ laws_rows5.f o o = some true ∧ (e = 0 → ∃ v, impl_EulerNumber.f s = some (v, 0) ∧ impl_EulerNumber.f o = some (v, 0) ∧ impl_IsOriented.f o = some (true, 0)) := by
  obtain ⟨o, e, e1, e2, hl, h0⟩ := fe_full (few_len hf) k
  refine ⟨o, e, e2, e1, rows5_few hl (by omega) (by omega), fun he => ?_⟩
  obtain ⟨S, ho, i, x, j, y, E, rfl⟩ := h0 he
  obtain ⟨v, hv, v1, v2⟩ := flip_vert S E
  obtain ⟨S', ho'⟩ := flip_surf S E
  have hlen : (flipped s k i x j y).length = s.length := by unfold flipped; simp
  have u1 := euler_of S (by omega) v1
  have u2 := euler_of S' (by omega) v2
  rw [hlen] at u2
  refine ⟨_, S.en u1, S'.en u2, ?_⟩
  rw [S'.io, ho' ho]
theorem split_stage {s : List (List Int)} (i : Int) (hf : Few s) : ∃ o e, impl_SplitTriangle.f s i = some (o, e) ∧ spec_SplitTriangle.f s i = some (o, e) ∧ laws_rows5.f o o = some true ∧ (e = 0 → ∃ (v : Int) (b : Bool) (n : Int), impl_EulerNumber.f s = some (v, 0) ∧ impl_EulerNumber.f o = some (v, 0) ∧ impl_IsOriented.f s = some (b, 0) ∧ impl_IsOriented.f o = some (b, 0) ∧ impl_CountVertices.f s = some (n, 0) ∧ impl_CountVertices.f o = some (w64 (n + 1), 0)) := by
  obtain ⟨o, e, e1, e2, hl, h0⟩ := st_full (few_len hf) i
  refine ⟨o, e, e2, e1, rows5_few hl (by omega) (by omega), fun he => ?_⟩
  obtain ⟨S, hn, j, hj, rfl⟩ := h0 he
  obtain ⟨v, hv, v1, v2⟩ := split_vert S hj hn
  obtain ⟨S', ho'⟩ := split_surf S hj hn
  have hlen := split_len s j
  have hev := S.even
  have u1 := euler_of S (by omega) v1
  have u2 := euler_of S' (by omega) v2
  rw [hlen, ed_two hev] at u2
  refine ⟨_, _, _, S.en u1, ?_, S.io, ?_, S.cv v1, ?_⟩
  · rw [S'.en u2]
    congr 2
    push_cast
    omega
  · rw [S'.io, ho']
  · rw [S'.cv v2, w64_in (by omega)]; rfl
theorem orient_stage {s : List (List Int)} (hf : Few s) : ∃ o e, impl_OrientSurface.f s = some (o, e) ∧ spec_OrientSurface.f s = some (o, e) ∧ laws_rows5.f o o = some true ∧ (e = 0 → impl_IsOriented.f o = some (true, 0) ∧ impl_OrientSurface.f o = some (o, 0)) := by
  obtain ⟨o, e, e1, e2, hl, h0⟩ := os_full (few_len hf)
  refine ⟨o, e, e2, e1, rows5_few hl (by omega) (by omega), fun he => ?_⟩
  obtain ⟨S, ho⟩ := h0 he
  exact ⟨by rw [S.io, ho], os_again S ho⟩
theorem named_stage {code : List UInt8} (hc : code.length ≤ 4096) : ∃ x o e, spec_DrawNamedSurface.f code = some x ∧ impl_NamedSurface.f x = some (o, e) ∧ spec_NamedSurface.f x = some (o, e) ∧ laws_rows5.f o o = some true := by
  unfold spec_DrawNamedSurface.f
  obtain ⟨h, e⟩ := from_ok hc
  obtain ⟨r, i', h', e', _, hr⟩ := next_ok hc h 7 (i := 0) (by omega)
  have hr := hr (by omega)
  rw [e]
  simp only [Option.bind_some]
  rw [e']
  simp only [Option.bind_some]
  have : r = 0 ∨ r = 1 ∨ r = 2 ∨ r = 3 ∨ r = 4 ∨ r = 5 ∨ r = 6 := by omega
  rcases this with rfl | rfl | rfl | rfl | rfl | rfl | rfl <;> exact ⟨_, _, _, rfl, rfl, rfl, rows5_refl _ (by decide) (by decide)⟩
end Go.Proofs.Ytiiljfpbcanphaa.G

/- The law of surfaces tells true: flips, splits, turned surfaces, and what both tell of surfaces that are drawn. -/
namespace Go.Proofs.Ytiiljfpbcanphaa.G
open Go Go.Sx Go.Proofs
section
variable {code : List UInt8} (hc : code.length ≤ 4096)
include hc
theorem drawnS : ∃ s, spec_DrawOrientSurface.f code = some s ∧ spec_DrawGenusOf.f code = some s ∧ spec_DrawCountSurfacePieces.f code = some s ∧ spec_DrawEulerNumber.f code = some s ∧ spec_DrawCountVertices.f code = some s ∧ spec_DrawIsOriented.f code = some s ∧ Few s := by
  obtain ⟨h, e⟩ := from_ok hc
  obtain ⟨s, i, h', e', hi, hf⟩ := spoil_ok hc h (i := 0) (by omega)
  refine ⟨s, ?_, ?_, ?_, ?_, ?_, ?_, hf⟩
  · unfold spec_DrawOrientSurface.f; rw [e]; simp only [Option.bind_some]; rw [e']; rfl
  · unfold spec_DrawGenusOf.f; rw [e]; simp only [Option.bind_some]; rw [e']; rfl
  · unfold spec_DrawCountSurfacePieces.f; rw [e]; simp only [Option.bind_some]; rw [e']; rfl
  · unfold spec_DrawEulerNumber.f; rw [e]; simp only [Option.bind_some]; rw [e']; rfl
  · unfold spec_DrawCountVertices.f; rw [e]; simp only [Option.bind_some]; rw [e']; rfl
  · unfold spec_DrawIsOriented.f; rw [e]; simp only [Option.bind_some]; rw [e']; rfl
end
theorem same_ne (x : Int) : (x != x) = false := by simp
theorem same_eq (x : Int) : (x == x) = true := by simp
theorem same_b (x : Bool) : (x != x) = false := by simp
theorem same_beq (x : Bool) : (x == x) = true := by simp
theorem plain_FnSurfaces (code : List UInt8) : laws_FnSurfaces.f code = some true := by
  unfold laws_FnSurfaces.f laws_big.f
  simp only [Option.bind_some]
  by_cases hbig : (code.length : Int) > 4096
  · rw [decide_eq_true hbig]; rfl
  rw [decide_eq_false hbig, cond_false]
  have hc : code.length ≤ 4096 := by omega
  obtain ⟨s, k, d1, f1⟩ := drawFlip hc
  obtain ⟨t, e, a1, a2, a3, a4⟩ := flip_stage k f1
  obtain ⟨u, i, d2, f2⟩ := drawSplit hc
  obtain ⟨t2, e2, b1, b2, b3, b4⟩ := split_stage i f2
  obtain ⟨v, d3, d4, d5, d6, d7, d8, f3⟩ := drawnS hc
  obtain ⟨w, e3, c1, c2, c3, c4⟩ := orient_stage f3
  obtain ⟨⟨g1, g2⟩, g3, g4⟩ := go_same (few_len f3)
  obtain ⟨⟨p1, p2⟩, p3, p4⟩ := cp2_same (few_len f3)
  obtain ⟨⟨v1, v2⟩, v3, v4⟩ := cv_same (few_len f3)
  obtain ⟨⟨n1, n2⟩, n3, n4⟩ := en_same (few_len f3)
  obtain ⟨⟨o1, o2⟩, o3, o4⟩ := or_same (few_len f3)
  obtain ⟨x, y, e4, m1, m2, m3, m4⟩ := named_stage hc
  have is1 := implSurf (few_len f1)
  have is2 : spec_IsSurface.f s = some (surfB s) := by
    unfold spec_IsSurface.f
    rw [specSurf (few_len f1)]; rfl
  rw [d1]
  simp only [Option.bind_some]
  rw [a1]
  simp only [Option.bind_some]
  rw [a2]
  simp only [Option.bind_some, same_ne, cond_false]
  rw [a3]
  simp only [Option.bind_some, Bool.not_true, cond_false]
  rw [is1]
  simp only [Option.bind_some]
  rw [is2]
  simp only [Option.bind_some, same_b, cond_false]
  have st1 : ∀ K : Unit → Option Bool, ((bif (e == 0) then (G.impl_EulerNumber.f s).bind (fun p => match p with | (r_11, r_12) => (G.impl_EulerNumber.f t).bind (fun p => match p with | (r_13, r_14) => (G.impl_IsOriented.f t).bind (fun p => match p with | (r_15, r_16) => (bif (((((r_12 != 0) || (r_14 != 0)) || (r_16 != 0)) || (r_11 != r_13)) || (!r_15)) then some (.inr (false)) else some (.inl ()))))) else some (.inl ())) : Option (Unit ⊕ Bool)).bind (jn K) = K () := by
    intro K
    by_cases he : e = 0
    · subst he
      obtain ⟨z, z1, z2, z3⟩ := a4 rfl
      rw [z1, z2, z3]
      simp only [Option.bind_some, same_ne, same_eq, cond_true, Bool.or_self, Bool.not_true, cond_false]
      rfl
    · have : (e == 0) = false := by simpa using he
      rw [this]; rfl
  rw [st1, d2]
  simp only [Option.bind_some]
  rw [b1]
  simp only [Option.bind_some]
  rw [b2]
  simp only [Option.bind_some, same_ne, cond_false]
  rw [b3]
  simp only [Option.bind_some, Bool.not_true, cond_false]
  have st2 : ∀ K : Unit → Option Bool, ((bif (e2 == 0) then (G.impl_EulerNumber.f u).bind (fun p => match p with | (r_24, r_25) => (G.impl_EulerNumber.f t2).bind (fun p => match p with | (r_26, r_27) => (G.impl_IsOriented.f u).bind (fun p => match p with | (r_28, r_29) => (G.impl_IsOriented.f t2).bind (fun p => match p with | (r_30, r_31) => (G.impl_CountVertices.f u).bind (fun p => match p with | (r_32, r_33) => (G.impl_CountVertices.f t2).bind (fun p => match p with | (r_34, r_35) => (bif (((((((((r_25 != 0) || (r_27 != 0)) || (r_29 != 0)) || (r_31 != 0)) || (r_33 != 0)) || (r_35 != 0)) || (r_24 != r_26)) || (r_28 != r_30)) || ((w64 (r_32 + 1)) != r_34)) then some (.inr (false)) else some (.inl ())))))))) else some (.inl ())) : Option (Unit ⊕ Bool)).bind (jn K) = K () := by
    intro K
    by_cases he : e2 = 0
    · subst he
      obtain ⟨z, zb, zn, z1, z2, z3, z4, z5, z6⟩ := b4 rfl
      rw [z1, z2, z3, z4, z5, z6]
      simp only [Option.bind_some, same_ne, same_b, same_eq, cond_true, Bool.or_self, cond_false]
      rfl
    · have : (e2 == 0) = false := by simpa using he
      rw [this]; rfl
  rw [st2, d3]
  simp only [Option.bind_some]
  rw [c1]
  simp only [Option.bind_some]
  rw [c2]
  simp only [Option.bind_some, same_ne, cond_false]
  rw [c3]
  simp only [Option.bind_some, Bool.not_true, cond_false]
  have st3 : ∀ K : Unit → Option Bool, ((bif (e3 == 0) then (G.impl_IsOriented.f w).bind (fun p => match p with | (r_42, r_43) => (G.impl_OrientSurface.f w).bind (fun p => match p with | (r_44, r_45) => (bif (((r_43 != 0) || (r_45 != 0)) || (!r_42)) then some true else (G.laws_rows5.f r_44 w).bind (fun r_46 => some (!r_46))).bind (fun b_5 => (bif b_5 then some (.inr (false)) else some (.inl ()))))) else some (.inl ())) : Option (Unit ⊕ Bool)).bind (jn K) = K () := by
    intro K
    by_cases he : e3 = 0
    · subst he
      obtain ⟨z1, z2⟩ := c4 rfl
      rw [z1]
      simp only [Option.bind_some]
      rw [z2]
      simp only [Option.bind_some, same_ne, same_eq, cond_true, Bool.or_self, Bool.not_true, cond_false]
      rw [c3]
      rfl
    · have : (e3 == 0) = false := by simpa using he
      rw [this]; rfl
  rw [st3, d4]
  simp only [Option.bind_some]
  rw [g4]
  simp only [Option.bind_some]
  rw [g3, d5]
  simp only [Option.bind_some]
  rw [p4]
  simp only [Option.bind_some]
  rw [p3, m1]
  simp only [Option.bind_some]
  rw [m2]
  simp only [Option.bind_some]
  rw [m3, d6]
  simp only [Option.bind_some]
  rw [n4]
  simp only [Option.bind_some]
  rw [n3, d7]
  simp only [Option.bind_some]
  rw [v4]
  simp only [Option.bind_some]
  rw [v3, d8]
  simp only [Option.bind_some]
  rw [o4]
  simp only [Option.bind_some]
  rw [o3]
  simp only [Option.bind_some, same_eq, same_beq, Bool.and_self, cond_true, m4]
end Go.Proofs.Ytiiljfpbcanphaa.G

/- Arg: a law's arguments, as they come in, in the calculus' own words. -/
namespace Go.Sx
open Go.RowKit

def pieces (l : List Value) : Nat → List Nat → List Value
  | _, [] => []
  | o, m :: r => (l.drop o).take m ++ pieces l (o + m) r
theorem okWideV_slice {P : Program} {W : World} {r : Reach} {base : Nat} {t e : TypeId} {v : Value} (ht : P.underlying t = some (.slice e)) (h : Value.okWide P W r base t v) : ∃ a n c, v = .slice a n c := by
  unfold Value.okWide at h
  rw [ht] at h
  simp only at h
  unfold Cell.okWide at h
  rw [ht] at h
  simp only at h
  unfold Cell.ok at h
  rw [ht] at h
  cases v <;> simp at h
  exact ⟨_, _, _, rfl⟩
theorem reads_of {β : Type} {E : FE β} {W : World} {a : Addr} {n cap : Nat} {ys : List β} (hn : n = ys.length) (hpos : 0 < E.sz) (hc : ∀ (j : Nat) (u : Value), (encs E ys)[j]? = some u → W.cell? (a.add j) = some u) (h1 : n ≤ cap) (h2 : cap ≤ maxLen) : Reads E (hp W) ⟨some a, n, cap⟩ ys := by
  subst hn
  refine ⟨rfl, h1, h2, ?_⟩
  cases ys with
  | nil => exact .inl rfl
  | cons y ys =>
    right
    have hl : 0 < (encs E (y :: ys)).length := by rw [encs_length, List.length_cons, Nat.add_mul]; omega
    have h0 := hc 0 _ (List.getElem?_eq_getElem hl)
    obtain ⟨b, o, sp'⟩ := a
    have e0 : (⟨b, o, sp'⟩ : Addr).add 0 = ⟨b, o, sp'⟩ := by simp [Addr.add]
    rw [e0] at h0
    unfold World.cell? at h0
    split at h0
    · rename_i cs T fr hb
      have hsp : sp' = none := by
        cases sp' with
        | none => rfl
        | some x => simp at h0
      subst hsp
      refine ⟨b, o, cs, T, fr, rfl, hb, ?_⟩
      intro j u hu
      have := hc j u hu
      rwa [add_none, cell_at hb] at this
    · cases h0
theorem u8v_of {z : Int} (h : IntKind.u8.has z) : u8v (UInt8.ofInt z) = .int .u8 z := by
  have hw' : 0 ≤ z ∧ z ≤ 255 := by
    simp only [IntKind.has, IntKind.min, IntKind.max, IntKind.signed, IntKind.bits] at h
    simpa using h
  rw [← conv_i64_u8]
  congr 1
  rw [IntKind.wrap_u8]; omega
theorem encs_bytes (ys : List UInt8) : encs Eu ys = ys.map u8v := by
  induction ys with
  | nil => rfl
  | cons y ys ih => simp only [encs, List.flatMap_cons, List.map_cons] at ih ⊢; rw [ih]; rfl
/-- A slice of bytes that comes in. -/
theorem okWideV_bytes {H : Type} {r : Reach} {base : Nat} {enc : TypeId × Value → H} {P : Program} {W : World} {sp : Nat → Bool} {held : Bool} {t e : TypeId} {v : Value} {d : DataW H} {p : List MemPlace} (ht : P.underlying t = some (.slice e)) (he : P.underlying e = some (.int .u8)) (hc : P.cellsOf e = 1)
    (hv : Value.okWide P W r base t v) (h : DataW.Trod enc P W 0 sp held t v d p) : ∃ (s : SV) (ys : List UInt8), v = s.v ∧ Reads Eu (hp W) s ys := by
  obtain ⟨m, hm⟩ := h
  obtain ⟨a1, n1, c1, rfl⟩ := okWideV_slice ht hv
  have hcl : (Value.slice a1 n1 c1).cells.toList = [Value.slice a1 n1 c1] := rfl
  rw [hcl] at hm
  rcases ChangeShapes.open_ints ht he hc hm with ⟨h1, h2⟩ | ⟨a, len, cap, zs, h1, _, h3, h4, h5, h6, h7, h8⟩
  · injection h1 with h1
    exact ⟨⟨none, 0, 0⟩, [], h1, ⟨rfl, Nat.le_refl _, by simp [maxLen], .inl rfl⟩⟩
  · injection h1 with h1
    have hlen : len ≤ zs.length := by rw [h5]; split <;> omega
    refine ⟨⟨some a, len, cap⟩, (zs.take len).map UInt8.ofInt, h1, reads_of (by simp; omega) (by decide) ?_ h3 h4⟩
    intro j u hu
    rw [encs_bytes, List.map_map, List.getElem?_map, List.getElem?_take] at hu
    split at hu
    · rename_i hj
      have hz := h7 j (by omega)
      have hg : zs[j]? = some (zs[j]'(by omega)) := List.getElem?_eq_getElem _
      have hw : IntKind.u8.has (zs[j]'(by omega)) := by
        have := h8 _ (List.getElem_mem (l := zs) (n := j) (by omega))
        simp only [Lit.wf, Bool.and_eq_true, decide_eq_true_eq] at this
        exact this
      rw [hg] at hu
      simp only [Option.map_some, Function.comp_apply, u8v_of hw] at hu
      rw [hz, ← hu]
      simp [List.getD, hg]
    · simp at hu
end Go.Sx
