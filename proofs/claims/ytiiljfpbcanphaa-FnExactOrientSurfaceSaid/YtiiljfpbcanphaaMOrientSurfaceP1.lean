/- Plain laws. -/
import Derived.Test.YtiiljfpbcanphaaMOrientSurface4
import Derived.ProofKit
import Derived.OpenShut
import Derived.ShutString
import Derived.ChangeOld
import Derived.Carry
import Derived.SizedLaws
import Derived.ChangeSlices
import Derived.Deep.Matrix
/- Pl: plain laws of the loops, and of whole numbers. -/
namespace Go.Sx

theorem loopN_mono {σ ρ : Type} {f : σ → Option (LR σ ρ)} : ∀ {k s o}, loopN f k s = some o → ∀ {k'}, k ≤ k' → loopN f k' s = some o
  | 0, _, _, h, _, _ => by cases h
  | k + 1, s, o, h, k', hk => by
    obtain ⟨j, rfl⟩ : ∃ j, k' = j + 1 := ⟨k' - 1, by omega⟩
    simp only [loopN] at h ⊢
    split at h
    · cases h
    · exact loopN_mono h (by omega)
    · exact h
    · exact h

theorem loop_run {σ ρ : Type} {f : σ → Option (LR σ ρ)} (Inv : σ → Prop) (m : σ → Nat) (Q : LO σ ρ → Prop)
    (h : ∀ s, Inv s → (∃ s', f s = some (.next s') ∧ Inv s' ∧ m s' < m s) ∨ (∃ s', f s = some (.brk s') ∧ Q (.brk s')) ∨ (∃ r, f s = some (.ret r) ∧ Q (.ret r)))
    (s : σ) (hs : Inv s) (hm : m s < 4611686018427387904) : ∃ o, loop f s = some o ∧ Q o := by
  have key : ∀ k s, Inv s → m s < k → ∃ o, loopN f k s = some o ∧ Q o := by
    intro k
    induction k with
    | zero => intro s _ h; omega
    | succ k ih =>
      intro s hs hm
      rcases h s hs with ⟨s', h1, h2, h3⟩ | ⟨s', h1, h2⟩ | ⟨r, h1, h2⟩
      · obtain ⟨o, ho, hq⟩ := ih s' h2 (by omega)
        exact ⟨o, by simp only [loopN, h1]; exact ho, hq⟩
      · exact ⟨_, by simp only [loopN, h1], h2⟩
      · exact ⟨_, by simp only [loopN, h1], h2⟩
  obtain ⟨o, ho, hq⟩ := key (m s + 1) s hs (by omega)
  exact ⟨o, loopN_mono ho (by unfold FUEL; omega), hq⟩

theorem loop1_of {σ : Type} {f : σ → Option (LB σ)} {s s' : σ} (h : loop (ρ := Empty) (fun s => (f s).map LB.lr) s = some (.brk s')) : loop1 f s = some s' := by
  unfold loop1; rw [h]

theorem loop1_run {σ : Type} {f : σ → Option (LB σ)} (Inv : σ → Prop) (m : σ → Nat) (Q : σ → Prop)
    (h : ∀ s, Inv s → (∃ s', f s = some (.next s') ∧ Inv s' ∧ m s' < m s) ∨ (∃ s', f s = some (.brk s') ∧ Q s'))
    (s : σ) (hs : Inv s) (hm : m s < 4611686018427387904) : ∃ o, loop1 f s = some o ∧ Q o := by
  obtain ⟨o, ho, hq⟩ := loop_run (ρ := Empty) (f := fun s => (f s).map LB.lr) Inv m (fun o => match o with | .brk s => Q s | .ret r => nomatch r) (by
    intro s hs
    rcases h s hs with ⟨s', h1, h2, h3⟩ | ⟨s', h1, h2⟩
    · exact .inl ⟨s', by rw [h1]; rfl, h2, h3⟩
    · exact .inr (.inl ⟨s', by rw [h1]; rfl, h2⟩)) s hs hm
  cases o with
  | brk s' => exact ⟨s', loop1_of ho, hq⟩
  | ret r => exact nomatch r

theorem loop_of {σ ρ : Type} {f : σ → Option (LR σ ρ)} {s : σ} {o : LO σ ρ} {k : Nat} (h : loopN f k s = some o) (hk : k ≤ 4611686018427387904) : loop f s = some o :=
  loopN_mono h (by unfold FUEL; omega)

/-- A loop that counts up to n, and leaves by its end. -/
theorem loop_upto {σ ρ : Type} {f : σ → Option (LR σ ρ)} (S : Nat → σ) (n : Nat) (b : σ) (hn : n < 4611686018427387904) (step : ∀ i, i < n → f (S i) = some (.next (S (i + 1)))) (fin : f (S n) = some (.brk b)) : loop f (S 0) = some (.brk b) := by
  have key : ∀ d i, i + d = n → loopN f (d + 1) (S i) = some (.brk b) := by
    intro d
    induction d with
    | zero => intro i hi; obtain rfl : i = n := by omega
              simp only [loopN, fin]
    | succ d ih => intro i hi; rw [loopN, step i (by omega)]; exact ih (i + 1) (by omega)
  exact loop_of (key n 0 (by omega)) (by omega)
theorem loop1_upto {σ : Type} {f : σ → Option (LB σ)} (S : Nat → σ) (n : Nat) (b : σ) (hn : n < 4611686018427387904) (step : ∀ i, i < n → f (S i) = some (.next (S (i + 1)))) (fin : f (S n) = some (.brk b)) : loop1 f (S 0) = some b :=
  loop1_of (loop_upto (ρ := Empty) (f := fun s => (f s).map LB.lr) S n b hn (fun i hi => by rw [step i hi]; rfl) (by rw [fin]; rfl))

/-- A loop that counts up to n and looks for something. -/
theorem loop_find {σ ρ : Type} {f : σ → Option (LR σ ρ)} (S : Nat → σ) (n : Nat) (bad : Nat → Bool) (r : Nat → ρ) (b : σ) (hn : n < 4611686018427387904)
    (step : ∀ i, i < n → f (S i) = some (bif bad i then .ret (r i) else .next (S (i + 1)))) (fin : f (S n) = some (.brk b)) :
    loop f (S 0) = some (match (List.range n).find? bad with | some i => .ret (r i) | none => .brk b) := by
  have key : ∀ d i, i + d = n → loopN f (d + 1) (S i) = some (match (List.range' i d).find? bad with | some i => .ret (r i) | none => .brk b) := by
    intro d
    induction d with
    | zero => intro i hi; obtain rfl : i = n := by omega
              simp only [loopN, fin]; rfl
    | succ d ih =>
      intro i hi
      rw [loopN, step i (by omega), List.range'_succ, List.find?_cons]
      cases hb : bad i with
      | true => rfl
      | false => exact ih (i + 1) (by omega)
  rw [List.range_eq_range']
  exact loop_of (key n 0 (by omega)) (by omega)
theorem loop_any {σ ρ : Type} {f : σ → Option (LR σ ρ)} (S : Nat → σ) (n : Nat) (bad : Nat → Bool) (r : ρ) (b : σ) (hn : n < 4611686018427387904)
    (step : ∀ i, i < n → f (S i) = some (bif bad i then .ret r else .next (S (i + 1)))) (fin : f (S n) = some (.brk b)) :
    loop f (S 0) = some (bif (List.range n).any bad then .ret r else .brk b) := by
  rw [loop_find S n bad (fun _ => r) b hn step fin]
  cases hf : (List.range n).find? bad with
  | none =>
    have : (List.range n).any bad = false := by
      rw [List.any_eq_false]; intro x hx; have := List.find?_eq_none.1 hf x hx; simpa using this
    rw [this]; rfl
  | some i =>
    have : (List.range n).any bad = true := List.any_eq_true.2 ⟨i, List.mem_of_find?_eq_some hf, List.find?_some hf⟩
    rw [this]; rfl

theorem w64_in {x : Int} (h : -9223372036854775808 ≤ x ∧ x ≤ 9223372036854775807) : w64 x = x := IntWalk.i64_in x h
theorem w64_succ {i : Nat} (h : i < 4611686018427387904) : w64 ((i : Int) + 1) = ((i + 1 : Nat) : Int) := by rw [w64_in (by omega)]; omega
theorem w64_pred {i : Nat} (h : i < 4611686018427387904) : w64 (((i + 1 : Nat) : Int) - 1) = (i : Int) := by rw [w64_in (by omega)]; omega
theorem chk_in {α : Type} {i : Int} {n : Nat} {k : Option α} (h : 0 ≤ i ∧ i < n) : chk i n k = k := if_pos h
theorem nz_in {α : Type} {b : Int} {k : Option α} (h : b ≠ 0) : nz b k = k := if_neg h
theorem small_in {α : Type} {n : Nat} {k : Option α} (h : n ≤ 1099511627776) : small n k = k := if_pos h
theorem dlt_nat (i n : Nat) : decide ((i : Int) < (n : Int)) = decide (i < n) := by simp
theorem beq_nat (a b : Nat) : ((a : Int) == (b : Int)) = decide (a = b) := by rw [Bool.eq_iff_iff]; simp; omega
theorem beq_nat0 (a : Nat) : ((a : Int) == 0) = decide (a = 0) := by rw [Bool.eq_iff_iff]; simp
theorem bne_nat (a b : Nat) : ((a : Int) != (b : Int)) = !decide (a = b) := by rw [bne, beq_nat]
theorem bne_nat0 (a : Nat) : ((a : Int) != 0) = !decide (a = 0) := by rw [bne, beq_nat0]
theorem any_congr {n : Nat} {p q : Nat → Bool} (h : ∀ i, i < n → p i = q i) : (List.range n).any p = (List.range n).any q := by
  rw [Bool.eq_iff_iff]
  simp only [List.any_eq_true, List.mem_range]
  constructor
  · rintro ⟨i, hi, hp⟩; exact ⟨i, hi, by rw [← h i hi]; exact hp⟩
  · rintro ⟨i, hi, hp⟩; exact ⟨i, hi, by rw [h i hi]; exact hp⟩
end Go.Sx

/- Triangles turned one after the other: any two runs end alike where one of them ends oriented. -/
namespace Go.Proofs.Ytiiljfpbcanphaa.G
open Go Go.Sx Go.Proofs
/-- A triangle turned over. -/
def ov (t : List Int) : List Int := [-(gt t 2), -(gt t 1), -(gt t 0)]
theorem list3 {t : List Int} (h : t.length = 3) : ∃ a b c, t = [a, b, c] := by
  match t, h with
  | [a, b, c], _ => exact ⟨a, b, c, rfl⟩
theorem mem_ov {t : List Int} (h : t.length = 3) (x : Int) : x ∈ ov t ↔ -x ∈ t := by
  obtain ⟨a, b, c, rfl⟩ := list3 h
  have e : ov [a, b, c] = [-c, -b, -a] := rfl
  rw [e]
  simp only [List.mem_cons, List.not_mem_nil, or_false]
  omega
theorem ov_len (t : List Int) : (ov t).length = 3 := rfl
/-- Two triangles touch. -/
def Tch (t u : List Int) : Prop := ∃ x ∈ u, x ∈ t ∨ -x ∈ t
def upf {α : Type} (f : Nat → α) (k : Nat) (v : α) : Nat → α := fun j => if j = k then v else f j
theorem upf_same {α : Type} (f : Nat → α) (k : Nat) (v : α) : upf f k v k = v := if_pos rfl
theorem upf_ne {α : Type} (f : Nat → α) {k j : Nat} (v : α) (h : j ≠ k) : upf f k v j = f j := if_neg h
variable {n : Nat} {s : Nat → List Int}
inductive Run (n : Nat) (s : Nat → List Int) : (Nat → List Int) → (Nat → Bool) → Prop
  | init : Run n s s (fun _ => false)
  | start {o : Nat → List Int} {d : Nat → Bool} (i : Nat) : Run n s o d → i < n → d i = false → (∀ j, j < i → d j = true) → (∀ j k, j < n → k < n → d j = true → d k = false → ¬ Tch (s j) (s k)) → Run n s o (upf d i true)
  | turn {o : Nat → List Int} {d : Nat → Bool} (i k : Nat) : Run n s o d → i < n → k < n → d i = true → d k = false → (∃ x ∈ o k, x ∈ o i) → Run n s (upf o k (ov (o k))) (upf d k true)
  | keep {o : Nat → List Int} {d : Nat → Bool} (i k : Nat) : Run n s o d → i < n → k < n → d i = true → d k = false → (∃ x ∈ o k, -x ∈ o i) → Run n s o (upf d k true)
theorem Run.rows {o d} (h : Run n s o d) : ∀ k, (d k = false → o k = s k) ∧ (o k = s k ∨ o k = ov (s k)) := by
  induction h with
  | init => exact fun k => ⟨fun _ => rfl, .inl rfl⟩
  | start i _ _ _ _ _ ih =>
    intro k
    refine ⟨fun hk => (ih k).1 ?_, (ih k).2⟩
    by_cases e : k = i
    · subst e; rw [upf_same] at hk; cases hk
    · rwa [upf_ne _ _ e] at hk
  | turn i k _ _ _ _ hdk _ ih =>
    intro q
    by_cases e : q = k
    · subst e
      rw [upf_same, upf_same]
      exact ⟨fun h => (by cases h), .inr (by rw [(ih q).1 hdk])⟩
    · rw [upf_ne _ _ e, upf_ne _ _ e]
      exact ih q
  | keep i k _ _ _ _ _ _ ih =>
    intro q
    refine ⟨fun hq => (ih q).1 ?_, (ih q).2⟩
    by_cases e : q = k
    · subst e; rw [upf_same] at hq; cases hq
    · rwa [upf_ne _ _ e] at hq
theorem tch_same {o : Nat → List Int} (h3 : ∀ k, k < n → (s k).length = 3) (ho : ∀ k, o k = s k ∨ o k = ov (s k)) {i k : Nat} (hi : i < n) (hk : k < n) : Tch (o i) (o k) ↔ Tch (s i) (s k) := by
  have key : ∀ j, j < n → ∀ x : Int, (x ∈ o j ∨ -x ∈ o j) ↔ (x ∈ s j ∨ -x ∈ s j) := by
    intro j hj x
    rcases ho j with e | e
    · rw [e]
    · rw [e, mem_ov (h3 j hj), mem_ov (h3 j hj), Int.neg_neg]
      exact Or.comm
  unfold Tch
  constructor
  · rintro ⟨x, hx, h⟩
    rcases (key k hk x).1 (.inl hx) with h1 | h1
    · exact ⟨x, h1, (key i hi x).1 h⟩
    · exact ⟨-x, h1, by rw [Int.neg_neg]; exact ((key i hi x).1 h).symm⟩
  · rintro ⟨x, hx, h⟩
    rcases (key k hk x).2 (.inl hx) with h1 | h1
    · exact ⟨x, h1, (key i hi x).2 h⟩
    · exact ⟨-x, h1, by rw [Int.neg_neg]; exact ((key i hi x).2 h).symm⟩
inductive Conn (n : Nat) (s : Nat → List Int) : Nat → Nat → Prop
  | refl (r : Nat) : Conn n s r r
  | step {r i : Nat} (k : Nat) : Conn n s r i → i < n → k < n → Tch (s i) (s k) → Conn n s r k
def Root (n : Nat) (s : Nat → List Int) (r : Nat) : Prop := ∀ j, j < r → ¬ Conn n s j r
theorem start_root {d : Nat → Bool} {i : Nat} (_hi : i < n) (hd : d i = false) (hb : ∀ j, j < i → d j = true) (hc : ∀ j k, j < n → k < n → d j = true → d k = false → ¬ Tch (s j) (s k)) : Root n s i := by
  intro j hj hcn
  have key : ∀ {a b}, Conn n s a b → d a = true → d b = true := by
    intro a b h
    induction h with
    | refl => exact id
    | step k _ hi' hk ht ih =>
      intro ha
      cases hdk : d k with
      | true => rfl
      | false => exact absurd ht (hc _ _ hi' hk (ih ha) hdk)
  rw [key hcn (hb j hj)] at hd
  cases hd
theorem upf_mono {d : Nat → Bool} {k j : Nat} (h : d j = true) : upf d k true j = true := by
  unfold upf; split
  · rfl
  · exact h
theorem Run.roots {o d} (h3 : ∀ k, k < n → (s k).length = 3) (h : Run n s o d) : (∀ k, k < n → d k = true → ∃ r, Root n s r ∧ Conn n s r k ∧ d r = true ∧ ∀ j, j < r → d j = true) ∧ ∀ r, r < n → Root n s r → o r = s r := by
  induction h with
  | init => exact ⟨fun k _ hk => (by cases hk), fun r _ _ => rfl⟩
  | @start o d i hr hi hd hb hc ih =>
    refine ⟨fun k hk hdk => ?_, ih.2⟩
    by_cases e : k = i
    · subst e
      exact ⟨k, start_root hi hd hb hc, .refl k, upf_same _ _ _, fun j hj => upf_mono (hb j hj)⟩
    · rw [upf_ne _ _ e] at hdk
      obtain ⟨r, r1, r2, r3, r4⟩ := ih.1 k hk hdk
      exact ⟨r, r1, r2, upf_mono r3, fun j hj => upf_mono (r4 j hj)⟩
  | @turn o d i k hr hi hk hdi hdk hx ih =>
    have hrows := hr.rows
    have ht : Tch (s i) (s k) := by
      obtain ⟨x, hx1, hx2⟩ := hx
      exact (tch_same h3 (fun k => (hrows k).2) hi hk).1 ⟨x, hx1, .inl hx2⟩
    refine ⟨fun q hq hdq => ?_, fun r hrn hroot => ?_⟩
    · by_cases e : q = k
      · subst e
        obtain ⟨r, r1, r2, r3, r4⟩ := ih.1 i hi hdi
        exact ⟨r, r1, r2.step q hi hk ht, upf_mono r3, fun j hj => upf_mono (r4 j hj)⟩
      · rw [upf_ne _ _ e] at hdq
        obtain ⟨r, r1, r2, r3, r4⟩ := ih.1 q hq hdq
        exact ⟨r, r1, r2, upf_mono r3, fun j hj => upf_mono (r4 j hj)⟩
    · by_cases e : r = k
      · subst e
        obtain ⟨r', r1, r2, r3, r4⟩ := ih.1 i hi hdi
        have h1 : ¬ r < r' := fun h => by have := r4 r h; rw [hdk] at this; cases this
        have h2 : r' ≠ r := fun h => by rw [h, hdk] at r3; cases r3
        exact absurd (r2.step r hi hk ht) (hroot r' (by omega))
      · rw [upf_ne _ _ e]
        exact ih.2 r hrn hroot
  | @keep o d i k hr hi hk hdi hdk hx ih =>
    have hrows := hr.rows
    have ht : Tch (s i) (s k) := by
      obtain ⟨x, hx1, hx2⟩ := hx
      exact (tch_same h3 (fun k => (hrows k).2) hi hk).1 ⟨x, hx1, .inr hx2⟩
    refine ⟨fun q hq hdq => ?_, ih.2⟩
    by_cases e : q = k
    · subst e
      obtain ⟨r, r1, r2, r3, r4⟩ := ih.1 i hi hdi
      exact ⟨r, r1, r2.step q hi hk ht, upf_mono r3, fun j hj => upf_mono (r4 j hj)⟩
    · rw [upf_ne _ _ e] at hdq
      obtain ⟨r, r1, r2, r3, r4⟩ := ih.1 q hq hdq
      exact ⟨r, r1, r2, upf_mono r3, fun j hj => upf_mono (r4 j hj)⟩
/-- No two triangles have a side in the same direction. -/
def Ori (n : Nat) (o : Nat → List Int) : Prop := ∀ i k, i < n → k < n → i ≠ k → ∀ x ∈ o i, x ∉ o k
theorem Run.same {o d} {z : Nat → List Int} (h3 : ∀ k, k < n → (s k).length = 3) (hz : ∀ k, k < n → z k = s k ∨ z k = ov (s k)) (hzr : ∀ r, r < n → Root n s r → z r = s r) (hzo : Ori n z) (h : Run n s o d) : ∀ k, k < n → d k = true → o k = z k := by
  induction h with
  | init => intro k _ hk; cases hk
  | @start o d i hr hi hd hb hc ih =>
    intro k hk hdk
    by_cases e : k = i
    · subst e
      rw [(hr.rows k).1 hd, hzr k hk (start_root hi hd hb hc)]
    · rw [upf_ne _ _ e] at hdk
      exact ih k hk hdk
  | @turn o d i k hr hi hk hdi hdk hx ih =>
    intro q hq hdq
    by_cases e : q = k
    · subst e
      rw [upf_same]
      obtain ⟨x, hx1, hx2⟩ := hx
      have hne : i ≠ q := fun e => by rw [e, hdk] at hdi; cases hdi
      rw [(hr.rows q).1 hdk] at hx1 ⊢
      rw [ih i hi hdi] at hx2
      rcases hz q hk with h1 | h1
      · rw [← h1] at hx1
        exact absurd hx1 (hzo i q hi hk hne x hx2)
      · exact h1.symm
    · rw [upf_ne _ _ e] at hdq ⊢
      exact ih q hq hdq
  | @keep o d i k hr hi hk hdi hdk hx ih =>
    intro q hq hdq
    by_cases e : q = k
    · subst e
      obtain ⟨x, hx1, hx2⟩ := hx
      have hne : i ≠ q := fun e => by rw [e, hdk] at hdi; cases hdi
      rw [(hr.rows q).1 hdk] at hx1 ⊢
      rw [ih i hi hdi] at hx2
      rcases hz q hk with h1 | h1
      · exact h1.symm
      · have : -x ∈ z q := by rw [h1, mem_ov (h3 q hk), Int.neg_neg]; exact hx1
        exact absurd this (hzo i q hi hk hne (-x) hx2)
    · rw [upf_ne _ _ e] at hdq
      exact ih q hq hdq
/-- Two runs that are over: if one of them ends oriented, the other ends alike. -/
theorem Run.unique {o d o' d'} (h3 : ∀ k, k < n → (s k).length = 3) (h : Run n s o d) (hd : ∀ k, k < n → d k = true) (h' : Run n s o' d') (ho : Ori n o') : ∀ k, k < n → o k = o' k :=
  fun k hk => h.same h3 (fun k _ => (h'.rows k).2) (fun r hr h1 => (h'.roots h3).2 r hr h1) ho k hk (hd k hk)
end Go.Proofs.Ytiiljfpbcanphaa.G

/- Slices of numbers that come in: how large they are, and their copies. -/
namespace Go.Proofs.Ytiiljfpbcanphaa.G
open Go Go.Sx Go.Proofs
theorem toS (a : List Int) (h : a.length ≤ 1048576) : laws_toInt64S.f a = some a := by
  unfold laws_toInt64S.f
  rw [small_in (by omega), Int.toNat_natCast]
  have hl := loop1_upto (f := laws_toInt64S.b0 a) (fun i => (a.take i ++ List.replicate (a.length - i) 0, (i : Int))) a.length (a, (a.length : Int)) (by omega) (fun i hi => by
    unfold laws_toInt64S.b0
    have e : (a.take i ++ List.replicate (a.length - i) (0 : Int)).length = a.length := by simp; omega
    simp only [dlt_nat, hi, decide_true, cond_true]
    rw [chk_in (by omega), e, chk_in (by omega), w64_succ (by omega), Int.toNat_natCast]
    have hg : gt a (i : Int) = a[i] := by simp [gt, List.getD, hi]
    have hm : (a.take i).length = i := by simp; omega
    have e2 : (a.take i ++ List.replicate (a.length - i) (0 : Int)).set i (gt a (i : Int)) = a.take (i + 1) ++ List.replicate (a.length - (i + 1)) 0 := by
      rw [hg, List.set_append_right _ _ (by omega), hm, Nat.sub_self, show a.length - i = (a.length - (i + 1)) + 1 by omega, List.replicate_succ, List.set_cons_zero, List.take_add_one, List.getElem?_eq_getElem hi]
      simp only [Option.toList_some, List.append_assoc, List.singleton_append]
    rw [e2]) (by
    unfold laws_toInt64S.b0
    simp)
  have hl' : loop1 (laws_toInt64S.b0 a) (List.replicate a.length 0, 0) = some (a, (a.length : Int)) := by simpa using hl
  rw [hl']; rfl
theorem szS (a : List Int) (l : Nat) (hl : l ≤ 1048576) (h : a.length ≤ 9223372036854775807) : (laws_szInt64S.f a l = some (-1) ∧ l < a.length) ∨ (laws_szInt64S.f a l = some ((l - a.length : Nat) : Int) ∧ a.length ≤ l) := by
  unfold laws_szInt64S.f
  rw [w64_in (by omega)]
  by_cases hc : a.length ≤ l
  · right
    have : decide (((l : Int) - (a.length : Int)) < 0) = false := by simp; omega
    rw [this]
    exact ⟨by rw [cond_false]; congr 1; omega, hc⟩
  · left
    have : decide (((l : Int) - (a.length : Int)) < 0) = true := by simp; omega
    rw [this]
    exact ⟨rfl, by omega⟩
end Go.Proofs.Ytiiljfpbcanphaa.G

/- Rows of numbers that come in: how large they are, and their copies. -/
namespace Go.Proofs.Ytiiljfpbcanphaa.G
open Go Go.Sx Go.Proofs
theorem gt_at {α : Type} [Inhabited α] {a : List α} {i : Nat} (h : i < a.length) : gt a (i : Int) = a[i] := by simp [gt, List.getD, h]
theorem toSS (a : List (List Int)) (h : a.length ≤ 1048576) (hr : ∀ r ∈ a, r.length ≤ 1048576) : laws_toInt64SS.f a = some a := by
  unfold laws_toInt64SS.f
  rw [small_in (by omega), Int.toNat_natCast]
  have hl := loop1_upto (f := laws_toInt64SS.b0 a) (fun i => (a.take i ++ List.replicate (a.length - i) [], (i : Int))) a.length (a, (a.length : Int)) (by omega) (fun i hi => by
    unfold laws_toInt64SS.b0
    have e : (a.take i ++ List.replicate (a.length - i) ([] : List Int)).length = a.length := by simp; omega
    simp only [dlt_nat, hi, decide_true, cond_true]
    rw [chk_in (by omega), gt_at hi, toS _ (hr _ (List.getElem_mem hi)), Option.bind_some, e, chk_in (by omega), w64_succ (by omega), Int.toNat_natCast]
    have hm : (a.take i).length = i := by simp; omega
    have e2 : (a.take i ++ List.replicate (a.length - i) ([] : List Int)).set i a[i] = a.take (i + 1) ++ List.replicate (a.length - (i + 1)) [] := by
      rw [List.set_append_right _ _ (by omega), hm, Nat.sub_self, show a.length - i = (a.length - (i + 1)) + 1 by omega, List.replicate_succ, List.set_cons_zero, List.take_add_one, List.getElem?_eq_getElem hi]
      simp only [Option.toList_some, List.append_assoc, List.singleton_append]
    rw [e2]) (by
    unfold laws_toInt64SS.b0
    simp)
  have hl' : loop1 (laws_toInt64SS.b0 a) (List.replicate a.length [], 0) = some (a, (a.length : Int)) := by simpa using hl
  rw [hl']; rfl
theorem szSS (a : List (List Int)) (l : Nat) (hl : l ≤ 1048576) (h : a.length ≤ 9223372036854775807) (hr : ∀ r ∈ a, r.length ≤ 9223372036854775807) :
    ∃ q, laws_szInt64SS.f a l = some q ∧ (q < 0 ∨ (0 ≤ q ∧ a.length ≤ l ∧ (∀ r ∈ a, r.length ≤ l) ∧ (a.map List.length).sum ≤ l)) := by
  unfold laws_szInt64SS.f
  rw [w64_in (by omega)]
  by_cases hc : a.length ≤ l
  · have e : decide (((l : Int) - (a.length : Int)) < 0) = false := by simp; omega
    rw [e, cond_false]
    obtain ⟨o, ho, hq⟩ := loop_run (f := laws_szInt64SS.b0 a) (fun s => ∃ (i k : Nat), s = ((k : Int), (i : Int)) ∧ i ≤ a.length ∧ k + ((a.take i).map List.length).sum ≤ l ∧ ∀ r ∈ a.take i, r.length ≤ l) (fun s => a.length - s.2.toNat)
      (fun o => match o with | .brk s => ∃ k : Nat, s.1 = (k : Int) ∧ (∀ r ∈ a, r.length ≤ l) ∧ (a.map List.length).sum ≤ l | .ret r => r = -1) (by
      rintro s ⟨i, k, rfl, hi, hk, hrs⟩
      unfold laws_szInt64SS.b0
      by_cases hlt : i < a.length
      · simp only [dlt_nat, hlt, decide_true, cond_true]
        rw [chk_in (by omega), gt_at hlt]
        rcases szS a[i] k (by omega) (hr _ (List.getElem_mem hlt)) with ⟨h1, h2⟩ | ⟨h1, h2⟩
        · rw [h1]
          exact .inr (.inr ⟨-1, rfl, rfl⟩)
        · rw [h1, Option.bind_some]
          have : decide (((k - a[i].length : Nat) : Int) < 0) = false := decide_eq_false (by omega)
          rw [this, cond_false, w64_succ (by omega)]
          have hsum : ((a.take (i + 1)).map List.length).sum = ((a.take i).map List.length).sum + a[i].length := by
            rw [List.take_add_one, List.getElem?_eq_getElem hlt, List.map_append, List.sum_append]
            simp only [Option.toList_some, List.map_cons, List.map_nil, List.sum_cons, List.sum_nil, Nat.add_zero]
          refine .inl ⟨_, rfl, ⟨i + 1, k - a[i].length, rfl, by omega, by rw [hsum]; omega, ?_⟩, by simp; omega⟩
          intro r hr'
          rw [List.take_add_one, List.getElem?_eq_getElem hlt] at hr'
          rcases List.mem_append.1 hr' with h | h
          · exact hrs r h
          · have : r = a[i] := by simpa using h
            subst this; omega
      · have hia : i = a.length := by omega
        subst hia
        simp only [dlt_nat, Nat.lt_irrefl, decide_false, cond_false]
        rw [List.take_length] at hrs hk
        exact .inr (.inl ⟨_, rfl, k, rfl, hrs, by omega⟩)) (((l : Int) - (a.length : Int)), 0) ⟨0, l - a.length, by simp; omega, by omega, by simp, by simp⟩ (by simp; omega)
    rw [ho]
    cases o with
    | brk s =>
      obtain ⟨k, hk, hrs, hsm⟩ := hq
      exact ⟨_, rfl, .inr ⟨by show 0 ≤ s.1; omega, hc, hrs, hsm⟩⟩
    | ret r => exact ⟨_, rfl, .inl (by simp only at hq; omega)⟩
  · have e : decide (((l : Int) - (a.length : Int)) < 0) = true := by simp; omega
    rw [e]
    exact ⟨_, rfl, .inl (by omega)⟩
end Go.Proofs.Ytiiljfpbcanphaa.G

/- What a surface is, told by both. -/
namespace Go.Proofs.Ytiiljfpbcanphaa.G
open Go Go.Sx Go.Proofs
theorem any_at {α : Type} [Inhabited α] (a : List α) (p : α → Bool) : (List.range a.length).any (fun (i : Nat) => p (gt a (i : Int))) = a.any p := by
  rw [Bool.eq_iff_iff, List.any_eq_true, List.any_eq_true]
  constructor
  · rintro ⟨i, hi, h⟩
    have hi' := List.mem_range.1 hi
    exact ⟨a[i], List.getElem_mem _, by rwa [gt_at hi'] at h⟩
  · rintro ⟨x, hx, h⟩
    obtain ⟨i, hi, rfl⟩ := List.mem_iff_getElem.1 hx
    exact ⟨i, List.mem_range.2 hi, by rw [gt_at hi]; exact h⟩
theorem containsInts (a : List Int) (h : a.length < 1000000) (f : Int → Option Bool) (p : Int → Bool) (hf : ∀ x ∈ a, f x = some (p x)) : slices_ContainsFunc_int64_int64.f a f = some (a.any p) := by
  unfold slices_ContainsFunc_int64_int64.f slices_IndexFunc_int64_int64.f
  have hl := loop_find (f := slices_IndexFunc_int64_int64.b0 a f) (fun i => (i : Int)) a.length (fun (i : Nat) => p (gt a (i : Int))) (fun i => (i : Int)) (a.length : Int) (by omega) (fun i hi => by
    unfold slices_IndexFunc_int64_int64.b0
    simp only [dlt_nat, hi, decide_true, cond_true]
    rw [chk_in (by omega), hf _ (by rw [gt_at hi]; exact List.getElem_mem _), Option.bind_some, w64_succ (by omega)]
    cases p (gt a (i : Int)) <;> rfl) (by
    unfold slices_IndexFunc_int64_int64.b0
    simp)
  have hl' : loop (slices_IndexFunc_int64_int64.b0 a f) 0 = _ := hl
  rw [hl', ← any_at a p]
  cases hfd : (List.range a.length).find? (fun (i : Nat) => p (gt a (i : Int))) with
  | none =>
    have : (List.range a.length).any (fun (i : Nat) => p (gt a (i : Int))) = false := by
      rw [List.any_eq_false]; intro x hx; have := List.find?_eq_none.1 hfd x hx; simpa using this
    rw [this]; rfl
  | some i =>
    have : (List.range a.length).any (fun (i : Nat) => p (gt a (i : Int))) = true := List.any_eq_true.2 ⟨i, List.mem_of_find?_eq_some hfd, List.find?_some (p := fun (i : Nat) => p (gt a (i : Int))) hfd⟩
    rw [this]
    have hd : decide ((i : Int) ≥ 0) = true := by simp
    simp only [Option.bind_some, ln, hd]
theorem containsSides (a : List (List (Int × Int))) (h : a.length < 1000000) (f : List (Int × Int) → Option Bool) (p : List (Int × Int) → Bool) (hf : ∀ x ∈ a, f x = some (p x)) : slices_ContainsFunc_impl_sided_impl_sided.f a f = some (a.any p) := by
  unfold slices_ContainsFunc_impl_sided_impl_sided.f slices_IndexFunc_impl_sided_impl_sided.f
  have hl := loop_find (f := slices_IndexFunc_impl_sided_impl_sided.b0 a f) (fun i => (i : Int)) a.length (fun (i : Nat) => p (gt a (i : Int))) (fun i => (i : Int)) (a.length : Int) (by omega) (fun i hi => by
    unfold slices_IndexFunc_impl_sided_impl_sided.b0
    simp only [dlt_nat, hi, decide_true, cond_true]
    rw [chk_in (by omega), hf _ (by rw [gt_at hi]; exact List.getElem_mem _), Option.bind_some, w64_succ (by omega)]
    cases p (gt a (i : Int)) <;> rfl) (by
    unfold slices_IndexFunc_impl_sided_impl_sided.b0
    simp)
  have hl' : loop (slices_IndexFunc_impl_sided_impl_sided.b0 a f) 0 = _ := hl
  rw [hl', ← any_at a p]
  cases hfd : (List.range a.length).find? (fun (i : Nat) => p (gt a (i : Int))) with
  | none =>
    have : (List.range a.length).any (fun (i : Nat) => p (gt a (i : Int))) = false := by
      rw [List.any_eq_false]; intro x hx; have := List.find?_eq_none.1 hfd x hx; simpa using this
    rw [this]; rfl
  | some i =>
    have : (List.range a.length).any (fun (i : Nat) => p (gt a (i : Int))) = true := List.any_eq_true.2 ⟨i, List.mem_of_find?_eq_some hfd, List.find?_some (p := fun (i : Nat) => p (gt a (i : Int))) hfd⟩
    rw [this]
    have hd : decide ((i : Int) ≥ 0) = true := by simp
    simp only [Option.bind_some, ln, hd]

/-! ### the sides of the edges -/
abbrev Side := (Int × Int) × Int
def entry (s : List (List Int)) (i q : Nat) : Int := gt (gt s (i : Int)) (q : Int)
def rowP (s : List (List Int)) (i : Nat) : Nat → List Side
  | 0 => []
  | j + 1 => rowP s i j ++ [(((i : Int), (j : Int)), entry s i j)]
def preP (s : List (List Int)) : Nat → List Side
  | 0 => []
  | i + 1 => preP s i ++ rowP s i 3
def sdl (P : List Side) (k : Nat) : List (Int × Int) := (P.filter fun p => p.2.natAbs == k).map (·.1)
def tab (m : Nat) (P : List Side) : List (List (Int × Int)) := (List.range (m + 1)).map (sdl P)
def cnt (m : Nat) (P : List Side) : List Int := (List.range (m + 1)).map fun k => ((sdl P k).length : Int)
theorem rowP_length (s : List (List Int)) (i : Nat) : ∀ j, (rowP s i j).length = j
  | 0 => rfl
  | j + 1 => by simp only [rowP, List.length_append, rowP_length s i j]; rfl
theorem preP_length (s : List (List Int)) : ∀ i, (preP s i).length = 3 * i
  | 0 => rfl
  | i + 1 => by simp only [preP, List.length_append, preP_length s i, rowP_length]; omega
theorem sdl_le (P : List Side) (k : Nat) : (sdl P k).length ≤ P.length := by
  unfold sdl; rw [List.length_map]; exact List.length_filter_le _ _
theorem sdl_add (P : List Side) (a : Int × Int) (x : Int) (k : Nat) : sdl (P ++ [(a, x)]) k = if x.natAbs = k then sdl P k ++ [a] else sdl P k := by
  unfold sdl
  rw [List.filter_append, List.map_append]
  by_cases h : x.natAbs = k
  · rw [if_pos h]
    simp [List.filter, h]
  · rw [if_neg h]
    have : (x.natAbs == k) = false := by simpa using h
    simp [List.filter, this]
theorem tab_length (m : Nat) (P : List Side) : (tab m P).length = m + 1 := by simp [tab]
theorem cnt_length (m : Nat) (P : List Side) : (cnt m P).length = m + 1 := by simp [cnt]
theorem tab_gt {m k : Nat} (P : List Side) (h : k ≤ m) : gt (tab m P) (k : Int) = sdl P k := by
  have : k < m + 1 := by omega
  simp [gt, tab, List.getD, this]
theorem cnt_gt {m k : Nat} (P : List Side) (h : k ≤ m) : gt (cnt m P) (k : Int) = ((sdl P k).length : Int) := by
  have : k < m + 1 := by omega
  simp [gt, cnt, List.getD, this]
theorem tab_add {m : Nat} (P : List Side) (a : Int × Int) (x : Int) : (tab m P).set x.natAbs (sdl P x.natAbs ++ [a]) = tab m (P ++ [(a, x)]) := by
  apply List.ext_getElem?
  intro q
  simp only [tab, List.getElem?_set, List.length_map, List.length_range, List.getElem?_map]
  by_cases hq : q < m + 1
  · by_cases hx : x.natAbs = q
    · subst hx; simp [hq, sdl_add]
    · simp [hq, hx, sdl_add]
  · by_cases hx : x.natAbs = q
    · subst hx; simp [hq]
    · simp [hq, hx]
theorem cnt_add {m : Nat} (P : List Side) (a : Int × Int) (x : Int) : (cnt m P).set x.natAbs (((sdl P x.natAbs).length + 1 : Nat) : Int) = cnt m (P ++ [(a, x)]) := by
  apply List.ext_getElem?
  intro q
  simp only [cnt, List.getElem?_set, List.length_map, List.length_range, List.getElem?_map]
  by_cases hq : q < m + 1
  · by_cases hx : x.natAbs = q
    · subst hx; simp [hq, sdl_add]
    · simp [hq, hx, sdl_add]
  · by_cases hx : x.natAbs = q
    · subst hx; simp [hq]
    · simp [hq, hx]
def entB (m : Nat) (x : Int) : Bool := decide (x ≠ 0) && decide (-(m : Int) ≤ x) && decide (x ≤ (m : Int))
def rowB (m : Nat) (t : List Int) : Bool := decide (t.length = 3) && t.all (entB m)
theorem size_abs {m : Nat} (hm : m ≤ 100) {x : Int} (h : entB m x = true) : (if (w64 (0 - x)) > x then (w64 (0 - x)) else x) = (x.natAbs : Int) := by
  unfold entB at h
  simp only [Bool.and_eq_true, decide_eq_true_eq] at h
  rw [w64_in (by omega)]
  split <;> omega
theorem abs_le {m : Nat} {x : Int} (h : entB m x = true) : x.natAbs ≤ m := by
  unfold entB at h
  simp only [Bool.and_eq_true, decide_eq_true_eq] at h
  omega
def ed (n : Nat) : Nat := n * 3 / 2
theorem edges_eq {n : Nat} (h : n ≤ 100) : w64 (Int.tdiv (w64 ((n : Int) * 3)) 2) = (ed n : Int) := by
  have e1 : w64 ((n : Int) * 3) = (n : Int) * 3 := w64_in (by omega)
  rw [e1, Int.tdiv_eq_ediv_of_nonneg (by omega), w64_in (by omega)]
  unfold ed; omega
theorem row_entry {m : Nat} {s : List (List Int)} {i : Nat} (h : rowB m (gt s (i : Int)) = true) {q : Nat} (hq : q < 3) : entB m (entry s i q) = true ∧ (gt s (i : Int)).length = 3 := by
  unfold rowB at h
  simp only [Bool.and_eq_true, decide_eq_true_eq, List.all_eq_true] at h
  refine ⟨h.2 _ ?_, h.1⟩
  unfold entry
  have e : gt (gt s (i : Int)) (q : Int) = (gt s (i : Int))[q]'(by omega) := gt_at (by omega)
  rw [e]
  exact List.getElem_mem _
/-- The program's list of sides, where all rows are good. -/
theorem sides_eq {s : List (List Int)} (hn : s.length ≤ 100) (hr : ∀ i, i < s.length → rowB (ed s.length) (gt s (i : Int)) = true) : impl_sidesOfEdges.f s = some (tab (ed s.length) (preP s s.length)) := by
  have hm : ed s.length ≤ 150 := by unfold ed; omega
  have hm2 : ed s.length ≤ 100 ∨ True := .inr trivial
  unfold impl_sidesOfEdges.f impl_edgesOf.f
  rw [Option.bind_some, edges_eq hn, w64_succ (by omega), show decide ((0 : Int) ≤ ((ed s.length + 1 : Nat) : Int)) = true by simp; omega]
  simp only [grd, cond_true, Int.toNat_natCast]
  rw [small_in (by omega)]
  have ho := loop1_upto (f := impl_sidesOfEdges.b1 s) (fun i => (tab (ed s.length) (preP s i), (i : Int))) s.length (tab (ed s.length) (preP s s.length), (s.length : Int)) (by omega) (fun i hi => by
    unfold impl_sidesOfEdges.b1
    simp only [dlt_nat, hi, decide_true, cond_true]
    rw [chk_in (by omega)]
    have h3 := (row_entry (hr i hi) (q := 0) (by omega)).2
    have hin := loop1_upto (f := impl_sidesOfEdges.b0 s i) (fun j => (tab (ed s.length) (preP s i ++ rowP s i j), (j : Int))) 3 (tab (ed s.length) (preP s i ++ rowP s i 3), 3) (by omega) (fun j hj => by
      unfold impl_sidesOfEdges.b0
      have he := (row_entry (hr i hi) hj).1
      have hle := abs_le he
      simp only [h3]
      rw [show (((3 : Nat) : Int)) = ((3 : Nat) : Int) from rfl]
      simp only [dlt_nat, hj, decide_true, cond_true]
      rw [chk_in (by omega)]
      have hsz : impl_size.f (gt (gt s (i : Int)) (j : Int)) = some ((entry s i j).natAbs : Int) := by
        unfold impl_size.f
        have : entB (ed s.length) (gt (gt s (i : Int)) (j : Int)) = true := he
        have h2 : (if (w64 (0 - gt (gt s (i : Int)) (j : Int))) > gt (gt s (i : Int)) (j : Int) then (w64 (0 - gt (gt s (i : Int)) (j : Int))) else gt (gt s (i : Int)) (j : Int)) = ((entry s i j).natAbs : Int) := by
          unfold entB at this
          simp only [Bool.and_eq_true, decide_eq_true_eq] at this
          rw [w64_in (by omega)]
          unfold entry
          split <;> omega
        rw [h2]
      rw [hsz, Option.bind_some, tab_length, chk_in (by omega), tab_gt _ hle]
      have hlen : (sdl (preP s i ++ rowP s i j) (entry s i j).natAbs).length + 1 ≤ 1099511627776 := by
        have h1 := sdl_le (preP s i ++ rowP s i j) (entry s i j).natAbs
        rw [List.length_append, preP_length, rowP_length] at h1
        omega
      rw [small_in (by simpa using hlen), Int.toNat_natCast, tab_add, w64_succ (by omega)]
      simp only [rowP, List.append_assoc]) (by
      unfold impl_sidesOfEdges.b0
      simp [h3])
    have hin' : loop1 (impl_sidesOfEdges.b0 s i) (tab (ed s.length) (preP s i), 0) = some (tab (ed s.length) (preP s i ++ rowP s i 3), 3) := by simpa [rowP] using hin
    rw [hin']
    simp only [Option.bind_some, w64_succ (by omega : i < 4611686018427387904)]
    rfl) (by
    unfold impl_sidesOfEdges.b1
    simp)
  have e : List.replicate (ed s.length + 1) ([] : List (Int × Int)) = tab (ed s.length) (preP s 0) := by
    apply List.ext_getElem?
    intro q
    by_cases hq : q < ed s.length + 1 <;> simp [tab, preP, sdl, hq]
  rw [e]
  have ho' : loop1 (impl_sidesOfEdges.b1 s) (tab (ed s.length) (preP s 0), 0) = some (tab (ed s.length) (preP s s.length), (s.length : Int)) := ho
  rw [ho']; rfl
def badRows (s : List (List Int)) : Bool := s.any fun t => !rowB (ed s.length) t
def badEdges (s : List (List Int)) : Bool := (List.range (ed s.length)).any fun k => decide ((sdl (preP s s.length) (k + 1)).length ≠ 2)
/-- What both tell. -/
def surfB (s : List (List Int)) : Bool := decide (2 ≤ s.length) && decide (s.length ≤ 12) && decide (s.length % 2 = 0) && !badRows s && !badEdges s
theorem good_rows {s : List (List Int)} (h : badRows s = false) : ∀ i, i < s.length → rowB (ed s.length) (gt s (i : Int)) = true := by
  intro i hi
  unfold badRows at h
  rw [List.any_eq_false] at h
  have := h (gt s (i : Int)) (by rw [gt_at hi]; exact List.getElem_mem _)
  simpa using this
theorem is1_eq {s : List (List Int)} (hn : s.length ≤ 100) (x : Int) : impl_IsSurface_1.f x s = some (!entB (ed s.length) x) := by
  have hm : ed s.length ≤ 150 := by unfold ed; omega
  unfold impl_IsSurface_1.f impl_edgesOf.f impl_in.f
  rw [edges_eq hn]
  simp only [Option.bind_some]
  rw [w64_in (by omega)]
  unfold entB
  by_cases h0 : x = 0
  · subst h0; simp
  · have : (x == 0) = false := by simpa using h0
    rw [this, cond_false]
    congr 2
    have : decide (x ≠ 0) = true := by simpa using h0
    rw [this, Bool.true_and]
    congr 1
    · congr 1
      apply propext
      constructor <;> intro h <;> omega
theorem drop_tab (m : Nat) (P : List Side) : ((tab m P).drop 1).take ((tab m P).length - 1) = (List.range m).map fun k => sdl P (k + 1) := by
  rw [List.take_of_length_le (by simp)]
  apply List.ext_getElem?
  intro q
  simp only [tab, List.getElem?_drop, List.getElem?_map]
  by_cases hq : q < m
  · rw [List.getElem?_range hq, List.getElem?_range (by omega)]
    simp [Nat.add_comm]
  · rw [List.getElem?_eq_none (by simp; omega), List.getElem?_eq_none (by simp; omega)]
    rfl
theorem implSurf {s : List (List Int)} (hn : s.length ≤ 1048576) : impl_IsSurface.f s = some (surfB s) := by
  unfold impl_IsSurface.f impl_in.f
  rw [Option.bind_some]
  by_cases h : 2 ≤ s.length ∧ s.length ≤ 12 ∧ s.length % 2 = 0
  · obtain ⟨h1, h2, h3⟩ := h
    have e1 : (decide ((s.length : Int) ≥ 2) && decide ((s.length : Int) ≤ 12)) = true := by simp; omega
    have e2 : (Int.tmod (s.length : Int) 2 != 0) = false := by rw [Int.tmod_eq_emod_of_nonneg (by omega)]; simp; omega
    rw [e1, e2]
    simp only [Bool.not_true, Bool.or_false, cond_false]
    have hm : ed s.length ≤ 18 := by unfold ed; omega
    have hl := loop_any (f := impl_IsSurface.b0 s) (fun i => (i : Int)) s.length (fun i => !rowB (ed s.length) (gt s (i : Int))) false (s.length : Int) (by omega) (fun i hi => by
      unfold impl_IsSurface.b0
      simp only [dlt_nat, hi, decide_true, cond_true]
      rw [chk_in (by omega), w64_succ (by omega)]
      unfold rowB
      by_cases h3 : (gt s (i : Int)).length = 3
      · have e3 : (((gt s (i : Int)).length : Int) != 3) = false := by rw [h3]; rfl
        rw [e3, cond_false, containsInts _ (by omega) _ (fun x => !entB (ed s.length) x) (fun x _ => is1_eq (by omega) x)]
        simp only [Option.bind_some, h3, decide_true, Bool.true_and]
        have : (gt s (i : Int)).any (fun x => !entB (ed s.length) x) = !(gt s (i : Int)).all (entB (ed s.length)) := by rw [List.all_eq_not_any_not, Bool.not_not]
        rw [this]
        cases (gt s (i : Int)).all (entB (ed s.length)) <;> rfl
      · have e3 : (((gt s (i : Int)).length : Int) != 3) = true := by simp; omega
        rw [e3, cond_true, Option.bind_some, cond_true]
        have : decide ((gt s (i : Int)).length = 3) = false := by simpa using h3
        rw [this]; rfl) (by
      unfold impl_IsSurface.b0
      simp)
    have hl' : loop (impl_IsSurface.b0 s) 0 = some (bif badRows s then .ret false else .brk (s.length : Int)) := by
      have := any_at s (fun t => !rowB (ed s.length) t)
      unfold badRows
      rw [← this]; exact hl
    rw [hl']
    unfold surfB
    have f1 : decide (2 ≤ s.length) = true := decide_eq_true h1
    have f2 : decide (s.length ≤ 12) = true := decide_eq_true h2
    have f3 : decide (s.length % 2 = 0) = true := decide_eq_true h3
    rw [f1, f2, f3]
    cases hb : badRows s with
    | true => rfl
    | false =>
      simp only [cond_false, Option.bind_some, ln]
      rw [sides_eq (by omega) (good_rows hb), Option.bind_some]
      have e4 : (decide (0 ≤ 1) && decide (1 ≤ ((tab (ed s.length) (preP s s.length)).length : Int)) && decide (((tab (ed s.length) (preP s s.length)).length : Int) ≤ ((tab (ed s.length) (preP s s.length)).length : Int))) = true := by
        rw [tab_length]; simp; omega
      rw [e4]
      simp only [grd, cond_true]
      rw [drop_tab, containsSides _ (by simp; omega) _ (fun l => decide (l.length ≠ 2)) (fun l _ => by
        unfold impl_IsSurface_2.f
        congr 1
        rw [Bool.eq_iff_iff]; simp; omega)]
      simp only [Option.bind_some, Bool.true_and, Bool.not_false]
      rw [List.any_map]
      rfl
  · have e : (!(decide ((s.length : Int) ≥ 2) && decide ((s.length : Int) ≤ 12)) || (Int.tmod (s.length : Int) 2 != 0)) = true := by
      rw [Int.tmod_eq_emod_of_nonneg (by omega)]
      by_cases h1 : 2 ≤ s.length
      · by_cases h2 : s.length ≤ 12
        · have : ¬ s.length % 2 = 0 := fun h3 => h ⟨h1, h2, h3⟩
          simp; omega
        · simp; omega
      · simp; omega
    rw [e, cond_true]
    unfold surfB
    have : (decide (2 ≤ s.length) && decide (s.length ≤ 12) && decide (s.length % 2 = 0)) = false := by
      rw [Bool.eq_false_iff]
      intro hc
      simp only [Bool.and_eq_true, decide_eq_true_eq] at hc
      exact h ⟨hc.1.1, hc.1.2, hc.2⟩
    rw [this]; rfl
theorem specSurf {s : List (List Int)} (hn : s.length ≤ 1048576) : spec_l07Is.f s = some (surfB s) := by
  unfold spec_l07Is.f
  by_cases h : 2 ≤ s.length ∧ s.length ≤ 12 ∧ s.length % 2 = 0
  · obtain ⟨h1, h2, h3⟩ := h
    have e1 : (((decide ((s.length : Int) < 2)) || (decide ((s.length : Int) > 12))) || ((Int.tmod (s.length : Int) 2) != 0)) = false := by
      rw [Int.tmod_eq_emod_of_nonneg (by omega)]; simp; omega
    have hm : ed s.length ≤ 18 := by unfold ed; omega
    rw [e1, cond_false, edges_eq (by omega), w64_succ (by omega), show decide ((0 : Int) ≤ ((ed s.length + 1 : Nat) : Int)) = true by simp; omega]
    simp only [grd, cond_true, Int.toNat_natCast]
    rw [small_in (by omega)]
    have hl := loop_any (f := spec_l07Is.b1 s) (fun i => (cnt (ed s.length) (preP s i), (i : Int))) s.length (fun i => !rowB (ed s.length) (gt s (i : Int))) false (cnt (ed s.length) (preP s s.length), (s.length : Int)) (by omega) (fun i hi => by
      unfold spec_l07Is.b1
      simp only [dlt_nat, hi, decide_true, cond_true]
      rw [chk_in (by omega), w64_succ (by omega)]
      by_cases h3 : (gt s (i : Int)).length = 3
      · have e3 : (((gt s (i : Int)).length : Int) != 3) = false := by rw [h3]; rfl
        rw [e3, cond_false]
        have hin := loop_any (f := spec_l07Is.b0 s i) (fun j => (cnt (ed s.length) (preP s i ++ rowP s i j), (j : Int))) 3 (fun j => !entB (ed s.length) (entry s i j)) (.ret false) (cnt (ed s.length) (preP s i ++ rowP s i 3), 3) (by omega) (fun j hj => by
          unfold spec_l07Is.b0
          have hj' : decide ((j : Int) < 3) = true := by simp; omega
          simp only [hj', cond_true]
          rw [chk_in (by omega), edges_eq (by omega)]
          unfold spec_l01In.f
          rw [Option.bind_some, w64_in (x := 0 - (ed s.length : Int)) (by omega)]
          have eb : (!(decide (gt (gt s (i : Int)) (j : Int) ≥ 0 - (ed s.length : Int)) && decide (gt (gt s (i : Int)) (j : Int) ≤ (ed s.length : Int))) || (gt (gt s (i : Int)) (j : Int) == 0)) = !entB (ed s.length) (entry s i j) := by
            unfold entB entry
            rw [Bool.eq_iff_iff]
            simp only [Bool.or_eq_true, Bool.not_eq_true', Bool.and_eq_false_iff, decide_eq_false_iff_not, beq_iff_eq, ne_eq]
            omega
          rw [eb]
          cases hb : entB (ed s.length) (entry s i j) with
          | false => rfl
          | true =>
            simp only [Bool.not_true, cond_false]
            have hle := abs_le hb
            have hsz := size_abs (m := ed s.length) (by omega) hb
            unfold entry at hsz
            rw [hsz]
            have hen : ((gt (gt s (i : Int)) (j : Int)).natAbs) = (entry s i j).natAbs := rfl
            rw [hen, cnt_length, chk_in (by omega), cnt_gt _ hle, Int.toNat_natCast, w64_succ (by
              have h1 := sdl_le (preP s i ++ rowP s i j) (entry s i j).natAbs
              rw [List.length_append, preP_length, rowP_length] at h1
              omega), cnt_add (a := ((i : Int), (j : Int))), w64_succ (by omega)]
            simp only [rowP, List.append_assoc]) (by
          unfold spec_l07Is.b0
          rfl)
        have hin' : loop (spec_l07Is.b0 s i) (cnt (ed s.length) (preP s i), 0) = some (bif (List.range 3).any (fun j => !entB (ed s.length) (entry s i j)) then .ret (.ret false) else .brk (cnt (ed s.length) (preP s i ++ rowP s i 3), 3)) := by simpa [rowP] using hin
        rw [hin']
        have ea : (List.range 3).any (fun j => !entB (ed s.length) (entry s i j)) = !rowB (ed s.length) (gt s (i : Int)) := by
          have := any_at (gt s (i : Int)) (fun x => !entB (ed s.length) x)
          rw [h3] at this
          unfold entry
          rw [this]
          unfold rowB
          rw [h3, List.all_eq_not_any_not]
          simp
        rw [ea]
        cases rowB (ed s.length) (gt s (i : Int)) <;> rfl
      · have e3 : (((gt s (i : Int)).length : Int) != 3) = true := by simp; omega
        rw [e3, cond_true]
        have : rowB (ed s.length) (gt s (i : Int)) = false := by
          unfold rowB
          have : decide ((gt s (i : Int)).length = 3) = false := by simpa using h3
          rw [this]; rfl
        rw [this]; rfl) (by
      unfold spec_l07Is.b1
      simp)
    have e0 : List.replicate (ed s.length + 1) (0 : Int) = cnt (ed s.length) (preP s 0) := by
      apply List.ext_getElem?
      intro q
      by_cases hq : q < ed s.length + 1 <;> simp [cnt, preP, sdl, hq]
    rw [e0]
    have hl' : loop (spec_l07Is.b1 s) (cnt (ed s.length) (preP s 0), 0) = some (bif badRows s then .ret false else .brk (cnt (ed s.length) (preP s s.length), (s.length : Int))) := by
      have := any_at s (fun t => !rowB (ed s.length) t)
      unfold badRows
      rw [← this]; exact hl
    rw [hl']
    unfold surfB
    have f1 : decide (2 ≤ s.length) = true := decide_eq_true h1
    have f2 : decide (s.length ≤ 12) = true := decide_eq_true h2
    have f3 : decide (s.length % 2 = 0) = true := decide_eq_true h3
    rw [f1, f2, f3]
    cases hb : badRows s with
    | true => rfl
    | false =>
      simp only [cond_false, Option.bind_some, ln]
      have hk := loop_any (f := spec_l07Is.b2 s (cnt (ed s.length) (preP s s.length))) (fun k => ((k + 1 : Nat) : Int)) (ed s.length) (fun k => decide ((sdl (preP s s.length) (k + 1)).length ≠ 2)) false ((ed s.length + 1 : Nat) : Int) (by omega) (fun k hk => by
        unfold spec_l07Is.b2
        rw [edges_eq (by omega)]
        have hd : decide (((k + 1 : Nat) : Int) ≤ (ed s.length : Int)) = true := by simp; omega
        rw [hd, cond_true, cnt_length, chk_in (by omega), cnt_gt _ (by omega), w64_succ (by omega)]
        have : ((((sdl (preP s s.length) (k + 1)).length : Nat) : Int) != 2) = decide ((sdl (preP s s.length) (k + 1)).length ≠ 2) := by
          rw [Bool.eq_iff_iff]; simp; omega
        rw [this]
        cases decide ((sdl (preP s s.length) (k + 1)).length ≠ 2) <;> rfl) (by
        unfold spec_l07Is.b2
        rw [edges_eq (by omega)]
        have hd : decide (((ed s.length + 1 : Nat) : Int) ≤ (ed s.length : Int)) = false := by simp; omega
        rw [hd]; rfl)
      have hk' : loop (spec_l07Is.b2 s (cnt (ed s.length) (preP s s.length))) 1 = some (bif badEdges s then .ret false else .brk ((ed s.length + 1 : Nat) : Int)) := hk
      rw [hk']
      cases badEdges s <;> rfl
  · have e : (((decide ((s.length : Int) < 2)) || (decide ((s.length : Int) > 12))) || ((Int.tmod (s.length : Int) 2) != 0)) = true := by
      rw [Int.tmod_eq_emod_of_nonneg (by omega)]
      by_cases h1 : 2 ≤ s.length
      · by_cases h2 : s.length ≤ 12
        · have : ¬ s.length % 2 = 0 := fun h3 => h ⟨h1, h2, h3⟩
          simp; omega
        · simp; omega
      · simp; omega
    rw [e, cond_true]
    unfold surfB
    have : (decide (2 ≤ s.length) && decide (s.length ≤ 12) && decide (s.length % 2 = 0)) = false := by
      rw [Bool.eq_false_iff]
      intro hc
      simp only [Bool.and_eq_true, decide_eq_true_eq] at hc
      exact h ⟨hc.1.1, hc.1.2, hc.2⟩
    rw [this]; rfl
end Go.Proofs.Ytiiljfpbcanphaa.G

/- Surfaces that are oriented, told by both. -/
namespace Go.Proofs.Ytiiljfpbcanphaa.G
open Go Go.Sx Go.Proofs
def fl (P : List Side) (k : Nat) : List Side := P.filter fun p => p.2.natAbs == k
theorem sdl_fl (P : List Side) (k : Nat) : sdl P k = (fl P k).map (·.1) := rfl
def sn (x : Int) : Int := if x > 0 then 1 else -1
def sg (P : List Side) (k : Nat) : Int := ((fl P k).map fun p => sn p.2).sum
def sgs (m : Nat) (P : List Side) : List Int := (List.range (m + 1)).map (sg P)
theorem fl_add (P : List Side) (a : Int × Int) (x : Int) (k : Nat) : fl (P ++ [(a, x)]) k = if x.natAbs = k then fl P k ++ [(a, x)] else fl P k := by
  unfold fl
  rw [List.filter_append]
  by_cases h : x.natAbs = k
  · rw [if_pos h]; simp [List.filter, h]
  · rw [if_neg h]
    have : (x.natAbs == k) = false := by simpa using h
    simp [List.filter, this]
theorem sg_add (P : List Side) (a : Int × Int) (x : Int) (k : Nat) : sg (P ++ [(a, x)]) k = if x.natAbs = k then sg P k + sn x else sg P k := by
  unfold sg
  rw [fl_add]
  by_cases h : x.natAbs = k
  · rw [if_pos h, if_pos h]; simp
  · rw [if_neg h, if_neg h]
theorem sum_le : ∀ l : List Side, -(l.length : Int) ≤ (l.map fun p => sn p.2).sum ∧ (l.map fun p => sn p.2).sum ≤ l.length
  | [] => by simp
  | p :: l => by
    have := sum_le l
    simp only [List.map_cons, List.sum_cons, List.length_cons]
    have h : sn p.2 = 1 ∨ sn p.2 = -1 := by unfold sn; split <;> simp
    rcases h with h | h <;> rw [h] <;> omega
theorem sg_le (P : List Side) (k : Nat) : -(P.length : Int) ≤ sg P k ∧ sg P k ≤ P.length := by
  have h1 := sum_le (fl P k)
  have h2 : (fl P k).length ≤ P.length := List.length_filter_le _ _
  unfold sg; omega
theorem sgs_length (m : Nat) (P : List Side) : (sgs m P).length = m + 1 := by simp [sgs]
theorem sgs_gt {m k : Nat} (P : List Side) (h : k ≤ m) : gt (sgs m P) (k : Int) = sg P k := by
  have : k < m + 1 := by omega
  simp [gt, sgs, List.getD, this]
theorem sgs_add {m : Nat} (P : List Side) (a : Int × Int) (x : Int) : (sgs m P).set x.natAbs (sg P x.natAbs + sn x) = sgs m (P ++ [(a, x)]) := by
  apply List.ext_getElem?
  intro q
  simp only [sgs, List.getElem?_set, List.length_map, List.length_range, List.getElem?_map]
  by_cases hq : q < m + 1
  · by_cases hx : x.natAbs = q
    · subst hx; simp [hq, sg_add]
    · simp [hq, hx, sg_add]
  · by_cases hx : x.natAbs = q
    · subst hx; simp [hq]
    · simp [hq, hx]
theorem mem_rowP {s : List (List Int)} {i : Nat} : ∀ {j} {p : Side}, p ∈ rowP s i j → ∃ q : Nat, q < j ∧ p = (((i : Int), (q : Int)), entry s i q)
  | 0, _, h => by cases h
  | j + 1, p, h => by
    rcases List.mem_append.1 h with h | h
    · obtain ⟨q, hq, e⟩ := mem_rowP h; exact ⟨q, by omega, e⟩
    · exact ⟨j, by omega, by simpa using h⟩
theorem mem_preP {s : List (List Int)} : ∀ {n} {p : Side}, p ∈ preP s n → ∃ i q : Nat, i < n ∧ q < 3 ∧ p = (((i : Int), (q : Int)), entry s i q)
  | 0, _, h => by cases h
  | n + 1, p, h => by
    rcases List.mem_append.1 h with h | h
    · obtain ⟨i, q, hi, hq, e⟩ := mem_preP h; exact ⟨i, q, by omega, hq, e⟩
    · obtain ⟨q, hq, e⟩ := mem_rowP h; exact ⟨n, q, by omega, hq, e⟩
structure Surf (s : List (List Int)) : Prop where
  two : 2 ≤ s.length
  most : s.length ≤ 12
  even : s.length % 2 = 0
  row : ∀ i, i < s.length → rowB (ed s.length) (gt s (i : Int)) = true
  edge : ∀ k, k < ed s.length → (sdl (preP s s.length) (k + 1)).length = 2
theorem surf_of {s : List (List Int)} (h : surfB s = true) : Surf s := by
  unfold surfB at h
  simp only [Bool.and_eq_true, decide_eq_true_eq, Bool.not_eq_true'] at h
  refine ⟨h.1.1.1.1, h.1.1.1.2, h.1.1.2, good_rows h.1.2, fun k hk => ?_⟩
  have := h.2
  unfold badEdges at this
  rw [List.any_eq_false] at this
  have := this k (List.mem_range.2 hk)
  simpa using this
theorem Surf.edge2 {s : List (List Int)} (h : Surf s) {k : Nat} (hk : k < ed s.length) : ∃ p q, fl (preP s s.length) (k + 1) = [p, q] ∧ p ∈ preP s s.length ∧ q ∈ preP s s.length ∧ p.2.natAbs = k + 1 ∧ q.2.natAbs = k + 1 := by
  have h1 := h.edge k hk
  rw [sdl_fl, List.length_map] at h1
  match hf : fl (preP s s.length) (k + 1), h1 with
  | [p, q], _ =>
    have hp : p ∈ fl (preP s s.length) (k + 1) := by rw [hf]; simp
    have hq : q ∈ fl (preP s s.length) (k + 1) := by rw [hf]; simp
    unfold fl at hp hq
    rw [List.mem_filter] at hp hq
    exact ⟨p, q, rfl, hp.1, hq.1, by simpa using hp.2, by simpa using hq.2⟩
/-- One edge is passed twice in the same direction. -/
def sameE (s : List (List Int)) (k : Nat) : Bool := decide (sg (preP s s.length) (k + 1) ≠ 0)
def orB (s : List (List Int)) : Bool := !(List.range (ed s.length)).any (sameE s)
theorem at_side {s : List (List Int)} (h : Surf s) {p : Side} (hp : p ∈ preP s s.length) {α : Type} (k : Int → Option α) : chk p.1.1 s.length (chk p.1.2 ((gt s p.1.1).length) (k (gt (gt s p.1.1) p.1.2))) = k p.2 := by
  obtain ⟨i, q, hi, hq, rfl⟩ := mem_preP hp
  have h3 := (row_entry (h.row i hi) (q := 0) (by omega)).2
  rw [chk_in (by simp only; omega), chk_in (by simp only; omega)]
  rfl
theorem oriented1 {s : List (List Int)} (h : Surf s) {k : Nat} (hk : k < ed s.length) : impl_oriented_1.f (sdl (preP s s.length) (k + 1)) s = some (sameE s k) := by
  obtain ⟨p, q, hf, hp, hq, ap, aq⟩ := h.edge2 hk
  unfold impl_oriented_1.f
  have e : sdl (preP s s.length) (k + 1) = [p.1, q.1] := by rw [sdl_fl, hf]; rfl
  rw [e]
  have g0 : gt [p.1, q.1] 0 = p.1 := rfl
  have g1 : gt [p.1, q.1] 1 = q.1 := rfl
  rw [chk_in (by simp), g0, g1]
  have := at_side h hp (fun x => chk 1 [p.1, q.1].length (chk q.1.1 s.length (chk q.1.2 ((gt s q.1.1).length) (some (x == (gt (gt s q.1.1) q.1.2))))))
  rw [this, chk_in (by simp)]
  have := at_side h hq (fun y => some (p.2 == y))
  rw [this]
  congr 1
  unfold sameE sg
  rw [hf]
  simp only [List.map_cons, List.map_nil, List.sum_cons, List.sum_nil]
  rw [Bool.eq_iff_iff, beq_iff_eq, decide_eq_true_iff]
  unfold sn
  split <;> split <;> omega
theorem implOr {s : List (List Int)} (h : Surf s) : impl_oriented.f s = some (orB s) := by
  have h2 := h.most
  have hm : ed s.length ≤ 18 := by unfold ed; omega
  unfold impl_oriented.f
  rw [sides_eq (by omega) h.row, Option.bind_some]
  have e4 : (decide (0 ≤ 1) && decide (1 ≤ ((tab (ed s.length) (preP s s.length)).length : Int)) && decide (((tab (ed s.length) (preP s s.length)).length : Int) ≤ ((tab (ed s.length) (preP s s.length)).length : Int))) = true := by
    rw [tab_length]; simp; omega
  rw [e4]
  simp only [grd, cond_true]
  have hc := containsSides ((List.range (ed s.length)).map fun k => sdl (preP s s.length) (k + 1)) (by simp; omega) (fun x0_ => impl_oriented_1.f x0_ s) (fun l => (impl_oriented_1.f l s).getD false) (fun l hl => by
    obtain ⟨k, hk, rfl⟩ := List.mem_map.1 hl
    rw [oriented1 h (List.mem_range.1 hk)]; rfl)
  rw [drop_tab, hc]
  simp only [Option.bind_some]
  congr 2
  rw [List.any_map]
  refine any_congr fun k hk => ?_
  show (impl_oriented_1.f (sdl (preP s s.length) (k + 1)) s).getD false = _
  rw [oriented1 h hk]; rfl
theorem specOr {s : List (List Int)} (h : Surf s) : spec_l07Oriented.f s = some (orB s) := by
  have h2 := h.most
  have hm : ed s.length ≤ 18 := by unfold ed; omega
  unfold spec_l07Oriented.f
  rw [edges_eq (by omega), w64_succ (by omega), show decide ((0 : Int) ≤ ((ed s.length + 1 : Nat) : Int)) = true by simp; omega]
  simp only [grd, cond_true, Int.toNat_natCast]
  rw [small_in (by omega)]
  have hl := loop1_upto (f := spec_l07Oriented.b1 s) (fun i => (sgs (ed s.length) (preP s i), (i : Int))) s.length (sgs (ed s.length) (preP s s.length), (s.length : Int)) (by omega) (fun i hi => by
    unfold spec_l07Oriented.b1
    simp only [dlt_nat, hi, decide_true, cond_true]
    have h3 := (row_entry (h.row i hi) (q := 0) (by omega)).2
    have hin := loop1_upto (f := spec_l07Oriented.b0 i s) (fun j => (sgs (ed s.length) (preP s i ++ rowP s i j), (j : Int))) 3 (sgs (ed s.length) (preP s i ++ rowP s i 3), 3) (by omega) (fun j hj => by
      unfold spec_l07Oriented.b0
      have hj' : decide ((j : Int) < 3) = true := by simp; omega
      have he := (row_entry (h.row i hi) hj).1
      have hle := abs_le he
      have hsg := sg_le (preP s i ++ rowP s i j) (entry s i j).natAbs
      rw [List.length_append, preP_length, rowP_length] at hsg
      have hen : gt (gt s (i : Int)) (j : Int) = entry s i j := rfl
      simp only [hj', cond_true]
      rw [chk_in (by omega), chk_in (by omega), hen]
      have hne : entry s i j ≠ 0 := by
        unfold entB at he
        simp only [Bool.and_eq_true, decide_eq_true_eq] at he
        exact he.1.1
      by_cases hpos : entry s i j > 0
      · have ea : entry s i j = ((entry s i j).natAbs : Int) := by omega
        have hs : sn (entry s i j) = 1 := by unfold sn; rw [if_pos hpos]
        have := sgs_add (m := ed s.length) (preP s i ++ rowP s i j) ((i : Int), (j : Int)) (entry s i j)
        rw [hs] at this
        have e1 : gt (sgs (ed s.length) (preP s i ++ rowP s i j)) (entry s i j) = sg (preP s i ++ rowP s i j) (entry s i j).natAbs := by
          conv => lhs; rw [ea]
          exact sgs_gt _ hle
        have e2 : (entry s i j).toNat = (entry s i j).natAbs := by omega
        rw [decide_eq_true hpos, cond_true, sgs_length, chk_in (by omega), e1, e2, w64_in (x := sg (preP s i ++ rowP s i j) (entry s i j).natAbs + 1) (by omega), this, Option.bind_some, w64_succ (by omega)]
        simp only [rowP, List.append_assoc]
      · have ea : w64 (0 - entry s i j) = ((entry s i j).natAbs : Int) := by rw [w64_in (by omega)]; omega
        have hs : sn (entry s i j) = -1 := by unfold sn; rw [if_neg hpos]
        have := sgs_add (m := ed s.length) (preP s i ++ rowP s i j) ((i : Int), (j : Int)) (entry s i j)
        rw [hs] at this
        rw [decide_eq_false hpos, cond_false, ea, sgs_length, chk_in (by omega), sgs_gt _ hle, Int.toNat_natCast, w64_in (x := sg (preP s i ++ rowP s i j) (entry s i j).natAbs - 1) (by omega)]
        have e3 : sg (preP s i ++ rowP s i j) (entry s i j).natAbs - 1 = sg (preP s i ++ rowP s i j) (entry s i j).natAbs + -1 := by omega
        rw [e3, this, Option.bind_some, w64_succ (by omega)]
        simp only [rowP, List.append_assoc]) (by
      unfold spec_l07Oriented.b0
      rfl)
    have hin' : loop1 (spec_l07Oriented.b0 i s) (sgs (ed s.length) (preP s i), 0) = some (sgs (ed s.length) (preP s i ++ rowP s i 3), 3) := by simpa [rowP] using hin
    rw [hin']
    simp only [Option.bind_some, w64_succ (by omega : i < 4611686018427387904)]
    rfl) (by
    unfold spec_l07Oriented.b1
    simp)
  have e0 : List.replicate (ed s.length + 1) (0 : Int) = sgs (ed s.length) (preP s 0) := by
    apply List.ext_getElem?
    intro q
    by_cases hq : q < ed s.length + 1 <;> simp [sgs, preP, sg, fl, hq]
  rw [e0]
  have hl' : loop1 (spec_l07Oriented.b1 s) (sgs (ed s.length) (preP s 0), 0) = some (sgs (ed s.length) (preP s s.length), (s.length : Int)) := hl
  rw [hl', Option.bind_some]
  have hk := loop_any (f := spec_l07Oriented.b2 (sgs (ed s.length) (preP s s.length))) (fun k => (k : Int)) (ed s.length + 1) (fun k => decide (sg (preP s s.length) k ≠ 0)) false ((ed s.length + 1 : Nat) : Int) (by omega) (fun k hk => by
    unfold spec_l07Oriented.b2
    simp only [sgs_length, dlt_nat, hk, decide_true, cond_true]
    rw [chk_in (by omega), sgs_gt _ (by omega), w64_succ (by omega)]
    have : (sg (preP s s.length) k != 0) = decide (sg (preP s s.length) k ≠ 0) := by rw [Bool.eq_iff_iff]; simp
    rw [this]
    cases decide (sg (preP s s.length) k ≠ 0) <;> rfl) (by
    unfold spec_l07Oriented.b2
    simp [sgs_length])
  have hk' : loop (spec_l07Oriented.b2 (sgs (ed s.length) (preP s s.length))) 0 = _ := hk
  rw [hk']
  have hz : sg (preP s s.length) 0 = 0 := by
    unfold sg
    have : fl (preP s s.length) 0 = [] := by
      unfold fl
      rw [List.filter_eq_nil_iff]
      intro p hp hc
      obtain ⟨i, q, hi, hq, rfl⟩ := mem_preP hp
      have he := (row_entry (h.row i hi) hq).1
      unfold entB at he
      simp only [Bool.and_eq_true, decide_eq_true_eq] at he
      simp at hc
      exact he.1.1 hc
    rw [this]; rfl
  have e : (List.range (ed s.length + 1)).any (fun k => decide (sg (preP s s.length) k ≠ 0)) = (List.range (ed s.length)).any (sameE s) := by
    rw [List.range_succ_eq_map, List.any_cons, List.any_map, hz]
    rfl
  rw [e]
  unfold orB
  cases (List.range (ed s.length)).any (sameE s) <;> rfl
end Go.Proofs.Ytiiljfpbcanphaa.G

/- Slices of numbers that are searched. -/
namespace Go.Proofs.Ytiiljfpbcanphaa.G
open Go Go.Sx Go.Proofs
theorem gt_ix {α : Type} [Inhabited α] {a : List α} {i : Nat} (h : i < a.length) : gt a (i : Int) = a[i] := by simp [gt, List.getD, h]
theorem any_ix {α : Type} [Inhabited α] (a : List α) (p : α → Bool) : (List.range a.length).any (fun (i : Nat) => p (gt a (i : Int))) = a.any p := by
  rw [Bool.eq_iff_iff, List.any_eq_true, List.any_eq_true]
  constructor
  · rintro ⟨i, hi, h⟩
    have hi' := List.mem_range.1 hi
    exact ⟨a[i], List.getElem_mem _, by rwa [gt_ix hi'] at h⟩
  · rintro ⟨x, hx, h⟩
    obtain ⟨i, hi, rfl⟩ := List.mem_iff_getElem.1 hx
    exact ⟨i, List.mem_range.2 hi, by rw [gt_ix hi]; exact h⟩
theorem found {n : Nat} (p : Nat → Bool) (b : Int) : (((some (match (List.range n).find? p with | some i => LO.ret ((i : Nat) : Int) | none => LO.brk b) : Option (LO Int Int)).bind (ln fun _ => some (-1))).bind fun r_1 => some (decide (r_1 ≥ 0))) = some ((List.range n).any p) := by
  cases hfd : (List.range n).find? p with
  | none =>
    have : (List.range n).any p = false := by
      rw [List.any_eq_false]; intro x hx; have := List.find?_eq_none.1 hfd x hx; simpa using this
    rw [this]; rfl
  | some i =>
    have : (List.range n).any p = true := List.any_eq_true.2 ⟨i, List.mem_of_find?_eq_some hfd, List.find?_some hfd⟩
    rw [this]
    have hd : decide ((i : Int) ≥ 0) = true := by simp
    simp only [Option.bind_some, ln, hd]
theorem hasVal (a : List Int) (h : a.length < 1000000) (v : Int) : slices_Contains_int64_int64.f a v = some (a.any fun x => v == x) := by
  unfold slices_Contains_int64_int64.f slices_Index_int64_int64.f
  have hl := loop_find (f := slices_Index_int64_int64.b0 a v) (fun i => (i : Int)) a.length (fun (i : Nat) => v == gt a (i : Int)) (fun i => (i : Int)) (a.length : Int) (by omega) (fun i hi => by
    unfold slices_Index_int64_int64.b0
    simp only [dlt_nat, hi, decide_true, cond_true]
    rw [chk_in (by omega), w64_succ (by omega)]
    cases v == gt a (i : Int) <;> rfl) (by
    unfold slices_Index_int64_int64.b0
    simp)
  have hl' : loop (slices_Index_int64_int64.b0 a v) 0 = _ := hl
  rw [hl', ← any_ix a (fun x => v == x)]
  exact found _ _
end Go.Proofs.Ytiiljfpbcanphaa.G

/- Slices of numbers that are searched by a test. -/
namespace Go.Proofs.Ytiiljfpbcanphaa.G
open Go Go.Sx Go.Proofs
theorem hasInts (a : List Int) (h : a.length < 10000000) (f : Int → Option Bool) (p : Int → Bool) (hf : ∀ x ∈ a, f x = some (p x)) : slices_ContainsFunc_int64_int64.f a f = some (a.any p) := by
  unfold slices_ContainsFunc_int64_int64.f slices_IndexFunc_int64_int64.f
  have hl := loop_find (f := slices_IndexFunc_int64_int64.b0 a f) (fun i => (i : Int)) a.length (fun (i : Nat) => p (gt a (i : Int))) (fun i => (i : Int)) (a.length : Int) (by omega) (fun i hi => by
    unfold slices_IndexFunc_int64_int64.b0
    simp only [dlt_nat, hi, decide_true, cond_true]
    rw [chk_in (by omega), hf _ (by rw [gt_ix hi]; exact List.getElem_mem _), Option.bind_some, w64_succ (by omega)]
    cases p (gt a (i : Int)) <;> rfl) (by
    unfold slices_IndexFunc_int64_int64.b0
    simp)
  have hl' : loop (slices_IndexFunc_int64_int64.b0 a f) 0 = _ := hl
  rw [hl', ← any_ix a p]
  exact found _ _
end Go.Proofs.Ytiiljfpbcanphaa.G

/- Both programs turn triangles by runs. -/
namespace Go.Proofs.Ytiiljfpbcanphaa.G
open Go Go.Sx Go.Proofs
theorem gt_upd {α : Type} [Inhabited α] (l : List α) {k : Nat} (v : α) (h : k < l.length) : (fun i : Nat => gt (l.set k v) (i : Int)) = upf (fun i : Nat => gt l (i : Int)) k v := by
  funext i
  unfold upf
  by_cases e : i = k
  · subst e; simp [gt, List.getD, h]
  · have e' : ¬ k = i := fun h => e h.symm
    rw [if_neg e]
    simp [gt, List.getD, e']
/-- A run, told by lists. -/
structure RunL (s l : List (List Int)) (b : List Bool) : Prop where
  len : l.length = s.length
  lenb : b.length = s.length
  run : Run s.length (fun i : Nat => gt s (i : Int)) (fun i : Nat => gt l (i : Int)) (fun i : Nat => gt b (i : Int))
/-- The triangles that are not done. -/
def und (b : List Bool) : Nat := b.count false
theorem und_set {b : List Bool} {k : Nat} (hk : k < b.length) (h : gt b (k : Int) = false) : und (b.set k true) + 1 = und b := by
  unfold und
  have e : b[k] = false := by rwa [gt_ix hk] at h
  have hp : 0 < b.count false := List.count_pos_iff.2 (by rw [← e]; exact List.getElem_mem _)
  rw [List.count_set hk, e]
  simp
  omega
theorem und_le (b : List Bool) : und b ≤ b.length := List.count_le_length
def tB (t u : List Int) : Bool := u.any fun x => t.any (fun y => x == y) || t.any (fun y => -x == y)
def sB (t u : List Int) : Bool := u.any fun x => t.any (fun y => x == y)
theorem tB_iff (t u : List Int) : tB t u = true ↔ Tch t u := by
  unfold tB Tch
  simp
theorem sB_iff (t u : List Int) : sB t u = true ↔ ∃ x ∈ u, x ∈ t := by
  unfold sB
  simp
section
variable {s : List (List Int)} (S : Surf s)
include S
theorem s_row {k : Nat} (hk : k < s.length) : (gt s (k : Int)).length = 3 := (row_entry (S.row k hk) (q := 0) (by omega)).2
theorem s_ent {k : Nat} (hk : k < s.length) {x : Int} (hx : x ∈ gt s (k : Int)) : x ≠ 0 ∧ -18 ≤ x ∧ x ≤ 18 := by
  have hr := S.row k hk
  have hm := S.most
  have he : ed s.length ≤ 18 := by unfold ed; omega
  unfold rowB at hr
  simp only [Bool.and_eq_true, decide_eq_true_eq, List.all_eq_true] at hr
  have := hr.2 x hx
  unfold entB at this
  simp only [Bool.and_eq_true, decide_eq_true_eq] at this
  omega
variable {l : List (List Int)} {b : List Bool} (R : RunL s l b)
include R
theorem l_row {k : Nat} (hk : k < s.length) : (gt l (k : Int)).length = 3 := by
  rcases (R.run.rows k).2 with e | e
  · have e' : gt l (k : Int) = gt s (k : Int) := e
    rw [e']; exact s_row S hk
  · have e' : gt l (k : Int) = ov (gt s (k : Int)) := e
    rw [e']; rfl
theorem l_ent {k : Nat} (hk : k < s.length) {x : Int} (hx : x ∈ gt l (k : Int)) : x ≠ 0 ∧ -18 ≤ x ∧ x ≤ 18 := by
  rcases (R.run.rows k).2 with e | e
  · have e' : gt l (k : Int) = gt s (k : Int) := e
    rw [e'] at hx; exact s_ent S hk hx
  · have e' : gt l (k : Int) = ov (gt s (k : Int)) := e
    rw [e', mem_ov (s_row S hk)] at hx
    have := s_ent S hk hx
    omega
theorem tch_l {i k : Nat} (hi : i < s.length) (hk : k < s.length) : Tch (gt l (i : Int)) (gt l (k : Int)) ↔ Tch (gt s (i : Int)) (gt s (k : Int)) :=
  tch_same (s := fun i : Nat => gt s (i : Int)) (o := fun i : Nat => gt l (i : Int)) (fun _ hk => s_row S hk) (fun k => (R.run.rows k).2) hi hk
theorem over_eq {k : Nat} (hk : k < s.length) : spec_l07Over.f (gt l (k : Int)) = some (ov (gt l (k : Int))) ∧ impl_turned.f (gt l (k : Int)) = some (ov (gt l (k : Int))) := by
  have h3 := l_row S R hk
  have hb : ∀ q : Nat, q < 3 → w64 (0 - gt (gt l (k : Int)) (q : Int)) = -(gt (gt l (k : Int)) (q : Int)) := by
    intro q hq
    have e : gt (gt l (k : Int)) (q : Int) = (gt l (k : Int))[q]'(by omega) := gt_ix (by omega)
    have := l_ent S R hk (x := gt (gt l (k : Int)) (q : Int)) (by rw [e]; exact List.getElem_mem _)
    rw [w64_in (by omega)]; omega
  have h0 := hb 0 (by omega)
  have h1 := hb 1 (by omega)
  have h2 := hb 2 (by omega)
  simp only [Int.natCast_zero, Int.natCast_one] at h0 h1
  have h2' : w64 (0 - gt (gt l (k : Int)) 2) = -(gt (gt l (k : Int)) 2) := h2
  unfold spec_l07Over.f impl_turned.f
  rw [chk_in (by omega), chk_in (by omega), chk_in (by omega), h0, h1, h2']
  exact ⟨rfl, rfl⟩
omit S in
/-- One more that is done. -/
theorem RunL.go {i k : Nat} (hi : i < s.length) (hk : k < s.length) (hdi : gt b (i : Int) = true) (hdk : gt b (k : Int) = false) (ht : Tch (gt l (i : Int)) (gt l (k : Int))) :
    RunL s (bif sB (gt l (i : Int)) (gt l (k : Int)) then l.set k (ov (gt l (k : Int))) else l) (b.set k true) := by
  have hl := R.len
  have hb := R.lenb
  cases hs : sB (gt l (i : Int)) (gt l (k : Int)) with
  | true =>
    rw [cond_true]
    refine ⟨by rw [List.length_set]; exact hl, by rw [List.length_set]; exact hb, ?_⟩
    rw [gt_upd _ _ (by omega), gt_upd _ _ (by omega)]
    exact .turn i k R.run hi hk hdi hdk ((sB_iff _ _).1 hs)
  | false =>
    rw [cond_false]
    refine ⟨hl, by rw [List.length_set]; exact hb, ?_⟩
    rw [gt_upd _ _ (by omega)]
    refine .keep i k R.run hi hk hdi hdk ?_
    obtain ⟨x, hx, h⟩ := ht
    have hn : ¬ sB (gt l (i : Int)) (gt l (k : Int)) = true := by rw [hs]; simp
    rw [sB_iff] at hn
    rcases h with h | h
    · exact absurd ⟨x, hx, h⟩ hn
    · exact ⟨x, hx, h⟩
omit S in
theorem RunL.begin {i : Nat} (hi : i < s.length) (hdi : gt b (i : Int) = false) (hb : ∀ j : Nat, j < i → gt b (j : Int) = true) (hc : ∀ j k : Nat, j < s.length → k < s.length → gt b (j : Int) = true → gt b (k : Int) = false → ¬ Tch (gt s (j : Int)) (gt s (k : Int))) : RunL s l (b.set i true) := by
  refine ⟨R.len, by rw [List.length_set]; exact R.lenb, ?_⟩
  have := R.lenb
  rw [gt_upd _ _ (by omega)]
  exact .start i R.run hi hdi hb hc
end
theorem gt_set_true {b : List Bool} {k : Nat} (hk : k < b.length) (j : Nat) : gt (b.set k true) (j : Int) = if j = k then true else gt b (j : Int) := by
  have := congrFun (gt_upd b true hk) j
  exact this
theorem RunL.first (s : List (List Int)) : RunL s s (List.replicate s.length false) := by
  refine ⟨rfl, by simp, ?_⟩
  have : (fun i : Nat => gt (List.replicate s.length false) (i : Int)) = fun _ => false := by
    funext i
    by_cases h : i < s.length <;> simp [gt, List.getD, h]
  rw [this]
  exact .init
end Go.Proofs.Ytiiljfpbcanphaa.G

/- The reference's loops are a run. -/
namespace Go.Proofs.Ytiiljfpbcanphaa.G
open Go Go.Sx Go.Proofs
theorem edge_abs {x : Int} (h : -18 ≤ x ∧ x ≤ 18) : spec_l07Edge.f x = some (x.natAbs : Int) := by
  unfold spec_l07Edge.f
  rw [w64_in (by omega)]
  congr 1
  split <;> omega
theorem touch_row {t u : List Int} (ht : t.length = 3) (hu : u.length = 3) (bt : ∀ x ∈ t, -18 ≤ x ∧ x ≤ 18) (bu : ∀ x ∈ u, -18 ≤ x ∧ x ≤ 18) {i : Nat} (hi : i < 3) (T0 S0 : Bool) :
    loop1 (spec_l07Touch.b0 i t u) (T0, S0, 0) = some (T0 || u.any (fun x => (gt t (i : Int)).natAbs == x.natAbs), S0 || u.any (fun x => gt t (i : Int) == x), 3) := by
  have et : gt t (i : Int) = t[i]'(by omega) := gt_ix (by omega)
  have hti := bt (gt t (i : Int)) (by rw [et]; exact List.getElem_mem _)
  have h := loop1_upto (f := spec_l07Touch.b0 i t u) (fun k => (T0 || (List.range k).any (fun q => (gt t (i : Int)).natAbs == (gt u (q : Int)).natAbs), S0 || (List.range k).any (fun q => gt t (i : Int) == gt u (q : Int)), (k : Int))) 3 (T0 || (List.range 3).any (fun q => (gt t (i : Int)).natAbs == (gt u (q : Int)).natAbs), S0 || (List.range 3).any (fun q => gt t (i : Int) == gt u (q : Int)), 3) (by omega) (fun k hk => by
    unfold spec_l07Touch.b0
    have hd : decide ((k : Int) < 3) = true := decide_eq_true (by omega)
    have eu : gt u (k : Int) = u[k]'(by omega) := gt_ix (by omega)
    have huk := bu (gt u (k : Int)) (by rw [eu]; exact List.getElem_mem _)
    simp only [hd, cond_true]
    rw [chk_in (by omega), edge_abs hti, Option.bind_some, chk_in (by omega), edge_abs huk, Option.bind_some, w64_succ (by omega), List.range_succ, List.any_append, List.any_append, beq_nat]
    simp only [List.any_cons, List.any_nil, Bool.or_false]
    by_cases he : (gt t (i : Int)).natAbs = (gt u (k : Int)).natAbs
    · have hb : ((gt t (i : Int)).natAbs == (gt u (k : Int)).natAbs) = true := by simpa using he
      rw [decide_eq_true he, hb]
      cases S0 <;> cases (List.range k).any (fun q => gt t (i : Int) == gt u (q : Int)) <;> simp
    · have hb : ((gt t (i : Int)).natAbs == (gt u (k : Int)).natAbs) = false := by simpa using he
      have hc : (gt t (i : Int) == gt u (k : Int)) = false := by
        rw [beq_eq_false_iff_ne]; intro e; exact he (by rw [e])
      rw [decide_eq_false he, hb, hc]
      simp) (by
    unfold spec_l07Touch.b0
    rfl)
  have e1 := any_ix u (fun x => (gt t (i : Int)).natAbs == x.natAbs)
  have e2 := any_ix u (fun x => gt t (i : Int) == x)
  rw [hu] at e1 e2
  rw [e1, e2] at h
  simpa using h
theorem touch_eq {t u : List Int} (ht : t.length = 3) (hu : u.length = 3) (bt : ∀ x ∈ t, -18 ≤ x ∧ x ≤ 18) (bu : ∀ x ∈ u, -18 ≤ x ∧ x ≤ 18) : spec_l07Touch.f t u = some (tB t u, sB t u) := by
  unfold spec_l07Touch.f
  have h := loop1_upto (f := spec_l07Touch.b1 t u) (fun k => ((List.range k).any (fun i => u.any (fun x => (gt t (i : Int)).natAbs == x.natAbs)), (List.range k).any (fun i => u.any (fun x => gt t (i : Int) == x)), (k : Int))) 3 ((List.range 3).any (fun i => u.any (fun x => (gt t (i : Int)).natAbs == x.natAbs)), (List.range 3).any (fun i => u.any (fun x => gt t (i : Int) == x)), 3) (by omega) (fun k hk => by
    unfold spec_l07Touch.b1
    have hd : decide ((k : Int) < 3) = true := decide_eq_true (by omega)
    simp only [hd, cond_true]
    rw [touch_row ht hu bt bu hk, Option.bind_some, w64_succ (by omega), List.range_succ, List.any_append, List.any_append]
    simp only [List.any_cons, List.any_nil, Bool.or_false]) (by
    unfold spec_l07Touch.b1
    rfl)
  have e1 := any_ix t (fun y => u.any (fun x => y.natAbs == x.natAbs))
  have e2 := any_ix t (fun y => u.any (fun x => y == x))
  rw [ht] at e1 e2
  rw [e1, e2] at h
  have h' : loop1 (spec_l07Touch.b1 t u) (false, false, 0) = _ := h
  rw [h']
  have a1 : (t.any fun y => u.any fun x => y.natAbs == x.natAbs) = tB t u := by
    unfold tB
    rw [Bool.eq_iff_iff]
    simp only [List.any_eq_true, Bool.or_eq_true, beq_iff_eq]
    constructor
    · rintro ⟨y, hy, x, hx, e⟩
      refine ⟨x, hx, ?_⟩
      rcases Int.natAbs_eq_natAbs_iff.1 e with e | e
      · exact .inl ⟨y, hy, e.symm⟩
      · exact .inr ⟨y, hy, by omega⟩
    · rintro ⟨x, hx, ⟨y, hy, e⟩ | ⟨y, hy, e⟩⟩
      · exact ⟨y, hy, x, hx, by rw [e]⟩
      · exact ⟨y, hy, x, hx, by omega⟩
  have a2 : (t.any fun y => u.any fun x => y == x) = sB t u := by
    unfold sB
    rw [Bool.eq_iff_iff]
    simp only [List.any_eq_true, beq_iff_eq]
    constructor
    · rintro ⟨y, hy, x, hx, e⟩; exact ⟨x, hx, y, hy, e.symm⟩
    · rintro ⟨x, hx, y, hy, e⟩; exact ⟨y, hy, x, hx, e.symm⟩
  rw [a1, a2]
  rfl
/-- What is done has no edge out of it, up to triangle i. -/
def clTo (s : List (List Int)) (b : List Bool) (i : Nat) : Prop := ∀ j k : Nat, j < i → k < s.length → gt b (j : Int) = true → gt b (k : Int) = false → ¬ Tch (gt s (j : Int)) (gt s (k : Int))
def upTo (b : List Bool) (m : Nat) : Prop := ∀ j : Nat, j < m → gt b (j : Int) = true
theorem upTo_set {b : List Bool} {k m : Nat} (hk : k < b.length) (h : upTo b m) : upTo (b.set k true) m := fun j hj => by
  rw [gt_set_true hk]; split
  · rfl
  · exact h j hj
theorem cl_first (s : List (List Int)) : clTo s (List.replicate s.length false) s.length := by
  intro j k hj hk hdj
  have : gt (List.replicate s.length false) (j : Int) = false := by simp [gt, List.getD, hj]
  rw [this] at hdj
  cases hdj
section
variable {s : List (List Int)} (S : Surf s)
include S
theorem spRow {i m u0 : Nat} (hi : i < s.length) {l : List (List Int)} {b : List Bool} {x : Bool} (R : RunL s l b) (hm : upTo b m) (hu : und b + (if x = true then 1 else 0) ≤ u0) (hc : x = true ∨ clTo s b i) :
    ∃ l' b' x' q, loop1 (spec_l07Orient.b0 i) (l, b, x, 0) = some (l', b', x', q) ∧ RunL s l' b' ∧ upTo b' m ∧ und b' + (if x' = true then 1 else 0) ≤ u0 ∧ (x' = true ∨ clTo s b' (i + 1)) := by
  have hn := S.most
  obtain ⟨⟨l', b', x', q⟩, h1, h2⟩ := loop1_run (f := spec_l07Orient.b0 i)
    (fun p => RunL s p.1 p.2.1 ∧ upTo p.2.1 m ∧ und p.2.1 + (if p.2.2.1 = true then 1 else 0) ≤ u0 ∧ ∃ k : Nat, p.2.2.2 = k ∧ k ≤ s.length ∧ (p.2.2.1 = true ∨ (clTo s p.2.1 i ∧ (gt p.2.1 (i : Int) = true → ∀ k' : Nat, k' < k → gt p.2.1 (k' : Int) = false → ¬ Tch (gt s (i : Int)) (gt s (k' : Int))))))
    (fun p => s.length - p.2.2.2.toNat)
    (fun p => RunL s p.1 p.2.1 ∧ upTo p.2.1 m ∧ und p.2.1 + (if p.2.2.1 = true then 1 else 0) ≤ u0 ∧ (p.2.2.1 = true ∨ clTo s p.2.1 (i + 1)))
    (by
      rintro ⟨l, b, x, q⟩ ⟨R, hm, hu, k, rfl, hk, hc⟩
      simp only at R hm hu hc
      have hl := R.len
      have hb := R.lenb
      unfold spec_l07Orient.b0
      simp only []
      by_cases hkn : k < s.length
      · have d1 : decide ((k : Int) < (l.length : Int)) = true := decide_eq_true (by omega)
        rw [d1, cond_true, chk_in (by omega), Option.bind_some]
        cases hdi : gt b (i : Int) with
        | false =>
          refine .inr ⟨(l, b, x, (k : Int)), rfl, R, hm, hu, ?_⟩
          rcases hc with hc | hc
          · exact .inl hc
          · refine .inr fun j k' hj hk' hdj hdk => ?_
            by_cases e : j = i
            · subst e; rw [hdi] at hdj; cases hdj
            · exact hc.1 j k' (by omega) hk' hdj hdk
        | true =>
          have htE := touch_eq (l_row S R hi) (l_row S R hkn) (fun x hx => (l_ent S R hi hx).2) (fun x hx => (l_ent S R hkn hx).2)
          rw [cond_true, chk_in (by omega), chk_in (by omega), htE]
          simp only [Option.bind_some]
          rw [chk_in (by omega)]
          cases hdk : gt b (k : Int) with
          | true =>
            refine .inl ⟨(l, b, x, ((k + 1 : Nat) : Int)), by simp only [Bool.true_or, cond_true, Option.bind_some, jn, w64_succ (show k < 4611686018427387904 by omega)], ⟨R, hm, hu, k + 1, rfl, by omega, ?_⟩, by simp only; omega⟩
            rcases hc with hc | hc
            · exact .inl hc
            · refine .inr ⟨hc.1, fun hd k' hk' hdk' => ?_⟩
              by_cases e : k' = k
              · subst e; rw [hdk] at hdk'; cases hdk'
              · exact hc.2 hd k' (by omega) hdk'
          | false =>
            cases ht : tB (gt l (i : Int)) (gt l (k : Int)) with
            | false =>
              refine .inl ⟨(l, b, x, ((k + 1 : Nat) : Int)), by simp only [Bool.false_or, Bool.not_false, cond_true, Option.bind_some, jn, w64_succ (show k < 4611686018427387904 by omega)], ⟨R, hm, hu, k + 1, rfl, by omega, ?_⟩, by simp only; omega⟩
              rcases hc with hc | hc
              · exact .inl hc
              · refine .inr ⟨hc.1, fun hd k' hk' hdk' => ?_⟩
                by_cases e : k' = k
                · subst e
                  rw [← tch_l S R hi hkn, ← tB_iff, ht]
                  simp
                · exact hc.2 hd k' (by omega) hdk'
            | true =>
              have R' := R.go hi hkn hdi hdk ((tB_iff _ _).1 ht)
              have ho := (over_eq S R hkn).1
              have hus := und_set (b := b) (k := k) (by omega) hdk
              refine .inl ⟨(bif sB (gt l (i : Int)) (gt l (k : Int)) then l.set k (ov (gt l (k : Int))) else l, b.set k true, true, ((k + 1 : Nat) : Int)), ?_, ⟨R', upTo_set (by omega) hm, ?_, k + 1, rfl, by omega, .inl rfl⟩, by simp only; omega⟩
              · rw [ho]
                simp only [Bool.false_or, Bool.not_true, cond_false, Option.bind_some, Int.toNat_natCast]
                cases sB (gt l (i : Int)) (gt l (k : Int)) <;> simp only [cond_true, cond_false, Option.bind_some, jn, w64_succ (show k < 4611686018427387904 by omega)]
              · simp only [if_true]
                omega
      · obtain rfl : k = s.length := by omega
        have d1 : decide (((s.length : Nat) : Int) < (l.length : Int)) = false := decide_eq_false (by omega)
        rw [d1, cond_false, Option.bind_some, cond_false]
        refine .inr ⟨(l, b, x, (s.length : Int)), rfl, R, hm, hu, ?_⟩
        rcases hc with hc | hc
        · exact .inl hc
        · refine .inr fun j k' hj hk' hdj hdk => ?_
          by_cases e : j = i
          · subst e; exact hc.2 hdj k' hk' hdk
          · exact hc.1 j k' (by omega) hk' hdj hdk)
    (l, b, x, 0) ⟨R, hm, hu, 0, rfl, by omega, hc.imp_right fun h => ⟨h, fun _ k' hk' => by omega⟩⟩ (by simp only; omega)
  exact ⟨l', b', x', q, h1, h2⟩
theorem spPass {m u0 : Nat} {l : List (List Int)} {b : List Bool} (R : RunL s l b) (hm : upTo b m) (hu : und b ≤ u0) :
    ∃ l' b' x' q, loop1 spec_l07Orient.b1 (l, b, false, 0) = some (l', b', x', q) ∧ RunL s l' b' ∧ upTo b' m ∧ und b' + (if x' = true then 1 else 0) ≤ u0 ∧ (x' = true ∨ clTo s b' s.length) := by
  have hn := S.most
  obtain ⟨⟨l', b', x', q⟩, h1, h2⟩ := loop1_run (f := spec_l07Orient.b1)
    (fun p => RunL s p.1 p.2.1 ∧ upTo p.2.1 m ∧ und p.2.1 + (if p.2.2.1 = true then 1 else 0) ≤ u0 ∧ ∃ k : Nat, p.2.2.2 = k ∧ k ≤ s.length ∧ (p.2.2.1 = true ∨ clTo s p.2.1 k))
    (fun p => s.length - p.2.2.2.toNat)
    (fun p => RunL s p.1 p.2.1 ∧ upTo p.2.1 m ∧ und p.2.1 + (if p.2.2.1 = true then 1 else 0) ≤ u0 ∧ (p.2.2.1 = true ∨ clTo s p.2.1 s.length))
    (by
      rintro ⟨l, b, x, q⟩ ⟨R, hm, hu, k, rfl, hk, hc⟩
      simp only at R hm hu hc
      have hl := R.len
      unfold spec_l07Orient.b1
      simp only []
      by_cases hkn : k < s.length
      · have d1 : decide ((k : Int) < (l.length : Int)) = true := decide_eq_true (by omega)
        obtain ⟨l', b', x', q', e, R', hm', hu', hc'⟩ := spRow S hkn R hm hu hc
        refine .inl ⟨(l', b', x', ((k + 1 : Nat) : Int)), ?_, ⟨R', hm', hu', k + 1, rfl, by omega, hc'⟩, by simp only; omega⟩
        rw [d1, cond_true, e]
        simp only [Option.bind_some, w64_succ (show k < 4611686018427387904 by omega)]
      · obtain rfl : k = s.length := by omega
        have d1 : decide (((s.length : Nat) : Int) < (l.length : Int)) = false := decide_eq_false (by omega)
        rw [d1, cond_false]
        exact .inr ⟨(l, b, x, (s.length : Int)), rfl, R, hm, hu, hc⟩)
    (l, b, false, 0) ⟨R, hm, by simpa using hu, 0, rfl, by omega, .inr fun j _ hj => by omega⟩ (by simp only; omega)
  exact ⟨l', b', x', q, h1, h2⟩
theorem spMore {m : Nat} {l : List (List Int)} {b : List Bool} (R : RunL s l b) (hm : upTo b m) :
    ∃ l' b' x', loop1 spec_l07Orient.b2 (l, b, true) = some (l', b', x') ∧ RunL s l' b' ∧ upTo b' m ∧ clTo s b' s.length := by
  have hn := S.most
  obtain ⟨⟨l', b', x'⟩, h1, h2⟩ := loop1_run (f := spec_l07Orient.b2)
    (fun p => RunL s p.1 p.2.1 ∧ upTo p.2.1 m ∧ (p.2.2 = true ∨ clTo s p.2.1 s.length))
    (fun p => 2 * und p.2.1 + (if p.2.2 = true then 1 else 0))
    (fun p => RunL s p.1 p.2.1 ∧ upTo p.2.1 m ∧ clTo s p.2.1 s.length)
    (by
      rintro ⟨l, b, x⟩ ⟨R, hm, hc⟩
      simp only at R hm hc
      unfold spec_l07Orient.b2
      simp only []
      cases x with
      | false =>
        refine .inr ⟨(l, b, false), rfl, R, hm, ?_⟩
        rcases hc with hc | hc
        · cases hc
        · exact hc
      | true =>
        obtain ⟨l', b', x', q', e, R', hm', hu', hc'⟩ := spPass S R hm (Nat.le_refl _)
        refine .inl ⟨(l', b', x'), ?_, ⟨R', hm', hc'⟩, ?_⟩
        · rw [cond_true, e]; rfl
        · simp only [if_true]
          cases x' with
          | false => simp only [Bool.false_eq_true, if_false] at hu' ⊢; omega
          | true => simp only [if_true] at hu' ⊢; omega)
    (l, b, true) ⟨R, hm, .inl rfl⟩ (by
      have h1 := und_le b
      have h2 := R.lenb
      simp only [if_true]; omega)
  exact ⟨l', b', x', h1, h2⟩
theorem spAll : ∃ l b, loop1 spec_l07Orient.b3 (s, List.replicate s.length false, 0) = some (l, b, (s.length : Int)) ∧ RunL s l b ∧ upTo b s.length := by
  have hn := S.most
  obtain ⟨⟨l', b', x'⟩, h1, rfl, h2⟩ := loop1_run (f := spec_l07Orient.b3)
    (fun p => RunL s p.1 p.2.1 ∧ clTo s p.2.1 s.length ∧ ∃ k : Nat, p.2.2 = k ∧ k ≤ s.length ∧ upTo p.2.1 k)
    (fun p => s.length - p.2.2.toNat)
    (fun p => p.2.2 = (s.length : Int) ∧ RunL s p.1 p.2.1 ∧ upTo p.2.1 s.length)
    (by
      rintro ⟨l, b, x⟩ ⟨R, hc, k, rfl, hk, hm⟩
      simp only at R hm hc
      have hl := R.len
      have hb := R.lenb
      unfold spec_l07Orient.b3
      simp only []
      by_cases hkn : k < s.length
      · have d1 : decide ((k : Int) < (l.length : Int)) = true := decide_eq_true (by omega)
        rw [d1, cond_true, chk_in (by omega)]
        cases hdk : gt b (k : Int) with
        | true =>
          refine .inl ⟨(l, b, ((k + 1 : Nat) : Int)), by simp only [cond_true, Option.bind_some, jn, w64_succ (show k < 4611686018427387904 by omega)], ⟨R, hc, k + 1, rfl, by omega, fun j hj => ?_⟩, by simp only; omega⟩
          by_cases e : j = k
          · subst e; exact hdk
          · exact hm j (by omega)
        | false =>
          have R' := R.begin hkn hdk hm fun j k' hj hk' => hc j k' hj hk'
          have hm' : upTo (b.set k true) (k + 1) := fun j hj => by
            rw [gt_set_true (by omega)]
            split
            · rfl
            · exact hm j (by omega)
          obtain ⟨l', b', x', e, R2, hm2, hc2⟩ := spMore S R' hm'
          refine .inl ⟨(l', b', ((k + 1 : Nat) : Int)), ?_, ⟨R2, hc2, k + 1, rfl, by omega, hm2⟩, by simp only; omega⟩
          rw [cond_false, Int.toNat_natCast, e]
          simp only [Option.bind_some, jn, w64_succ (show k < 4611686018427387904 by omega)]
      · obtain rfl : k = s.length := by omega
        have d1 : decide (((s.length : Nat) : Int) < (l.length : Int)) = false := decide_eq_false (by omega)
        rw [d1, cond_false]
        exact .inr ⟨(l, b, (s.length : Int)), rfl, rfl, R, hm⟩)
    (s, List.replicate s.length false, 0) ⟨RunL.first s, cl_first s, 0, rfl, by omega, fun j hj => by omega⟩ (by simp only; omega)
  exact ⟨l', b', h1, h2⟩
end
end Go.Proofs.Ytiiljfpbcanphaa.G

/- The program's loops are a run. -/
namespace Go.Proofs.Ytiiljfpbcanphaa.G
open Go Go.Sx Go.Proofs
def qOk (s : List (List Int)) (b : List Bool) (y : List Int) : Prop := ∀ q ∈ y, ∃ i : Nat, i < s.length ∧ q = (i : Int) ∧ gt b (i : Int) = true
def clQ (s : List (List Int)) (b : List Bool) (y : List Int) : Prop := ∀ i k : Nat, i < s.length → k < s.length → gt b (i : Int) = true → gt b (k : Int) = false → ((i : Int) ∈ y ∨ ¬ Tch (gt s (i : Int)) (gt s (k : Int)))
section
variable {s : List (List Int)} (S : Surf s)
include S
theorem im_any {l : List (List Int)} {b : List Bool} (R : RunL s l b) {i k : Nat} (hi : i < s.length) (hk : k < s.length) (rest : List Int) :
    slices_ContainsFunc_int64_int64.f (gt l (k : Int)) (fun x0_ => impl_OrientSurface_1.f x0_ l ((i : Int) :: rest)) = some (tB (gt l (i : Int)) (gt l (k : Int))) ∧
    slices_ContainsFunc_int64_int64.f (gt l (k : Int)) (fun x0_ => impl_OrientSurface_2.f x0_ l ((i : Int) :: rest)) = some (sB (gt l (i : Int)) (gt l (k : Int))) := by
  have h3 := l_row S R hi
  have h4 := l_row S R hk
  have hl := R.len
  have g0 : gt ((i : Int) :: rest) 0 = (i : Int) := rfl
  constructor
  · refine hasInts _ (by omega) _ (fun x => (gt l (i : Int)).any (fun y => x == y) || (gt l (i : Int)).any (fun y => -x == y)) fun x hx => ?_
    have hb := l_ent S R hk hx
    unfold impl_OrientSurface_1.f
    rw [chk_in (by simp), g0, chk_in (by omega), hasVal _ (by omega), Option.bind_some]
    cases (gt l (i : Int)).any (fun y => x == y) with
    | true => rfl
    | false => rw [cond_false, w64_in (by omega), Int.zero_sub, hasVal _ (by omega)]; rfl
  · refine hasInts _ (by omega) _ (fun x => (gt l (i : Int)).any (fun y => x == y)) fun x hx => ?_
    unfold impl_OrientSurface_2.f
    rw [chk_in (by simp), g0, chk_in (by omega), hasVal _ (by omega)]
    rfl
theorem imRow {i m u0 : Nat} (hi : i < s.length) {l : List (List Int)} {b : List Bool} {rest : List Int} (R : RunL s l b) (hm : upTo b m) (hq : qOk s b ((i : Int) :: rest)) (hc : clQ s b ((i : Int) :: rest)) (hu : und b + rest.length = u0) (hu0 : u0 ≤ 100) {l7 : List (List Int)} (h7 : l7.length = s.length) :
    ∃ l' b' rest', loop1 (impl_OrientSurface.b0 l7) (l, b, (i : Int) :: rest, 0) = some (l', b', (i : Int) :: rest', (s.length : Int)) ∧ RunL s l' b' ∧ upTo b' m ∧ qOk s b' rest' ∧ clQ s b' rest' ∧ und b' + rest'.length = u0 := by
  have hn := S.most
  obtain ⟨⟨l', b', y', q⟩, h1, rest', rfl, rfl, h2⟩ := loop1_run (f := impl_OrientSurface.b0 l7)
    (fun p => ∃ (rest : List Int) (k : Nat), p.2.2.1 = (i : Int) :: rest ∧ p.2.2.2 = k ∧ k ≤ s.length ∧ RunL s p.1 p.2.1 ∧ upTo p.2.1 m ∧ qOk s p.2.1 ((i : Int) :: rest) ∧ clQ s p.2.1 ((i : Int) :: rest) ∧ und p.2.1 + rest.length = u0 ∧ ∀ k' : Nat, k' < k → gt p.2.1 (k' : Int) = false → ¬ Tch (gt s (i : Int)) (gt s (k' : Int)))
    (fun p => s.length - p.2.2.2.toNat)
    (fun p => ∃ rest : List Int, p.2.2.1 = (i : Int) :: rest ∧ p.2.2.2 = (s.length : Int) ∧ RunL s p.1 p.2.1 ∧ upTo p.2.1 m ∧ qOk s p.2.1 rest ∧ clQ s p.2.1 rest ∧ und p.2.1 + rest.length = u0)
    (by
      rintro ⟨l, b, y, q⟩ ⟨rest, k, hy, hq', hk, R, hm, hq, hc, hu, hkk⟩
      simp only at hy hq' R hm hq hc hu hkk
      subst hy hq'
      have hl := R.len
      have hb := R.lenb
      unfold impl_OrientSurface.b0
      simp only []
      by_cases hkn : k < s.length
      · have d1 : decide ((k : Int) < (l7.length : Int)) = true := decide_eq_true (by omega)
        obtain ⟨t1, t2⟩ := im_any S R hi hkn rest
        rw [d1, cond_true, chk_in (by omega), chk_in (by omega), t1, t2]
        obtain ⟨_, _, _, hdi⟩ := hq (i : Int) (by simp)
        have hdi' : gt b (i : Int) = true := by
          obtain ⟨i', _, e, h⟩ := hq (i : Int) (by simp)
          have : i = i' := by omega
          subst this; exact h
        cases hdk : gt b (k : Int) with
        | true =>
          refine .inl ⟨(l, b, (i : Int) :: rest, ((k + 1 : Nat) : Int)), by simp only [cond_true, Option.bind_some, jn, w64_succ (show k < 4611686018427387904 by omega)], ⟨rest, k + 1, rfl, rfl, by omega, R, hm, hq, hc, hu, fun k' hk' hdk' => ?_⟩, by simp only; omega⟩
          by_cases e : k' = k
          · subst e; simp only at hdk'; rw [hdk] at hdk'; cases hdk'
          · exact hkk k' (by omega) hdk'
        | false =>
          cases ht : tB (gt l (i : Int)) (gt l (k : Int)) with
          | false =>
            refine .inl ⟨(l, b, (i : Int) :: rest, ((k + 1 : Nat) : Int)), by simp only [cond_false, Option.bind_some, Bool.not_false, cond_true, jn, w64_succ (show k < 4611686018427387904 by omega)], ⟨rest, k + 1, rfl, rfl, by omega, R, hm, hq, hc, hu, fun k' hk' hdk' => ?_⟩, by simp only; omega⟩
            by_cases e : k' = k
            · subst e
              rw [← tch_l S R hi hkn, ← tB_iff, ht]
              simp
            · exact hkk k' (by omega) hdk'
          | true =>
            have R' := R.go hi hkn hdi' hdk ((tB_iff _ _).1 ht)
            have ho := (over_eq S R hkn).2
            have hus := und_set (b := b) (k := k) (by omega) hdk
            have hold : ∀ j : Nat, gt b (j : Int) = true → gt (b.set k true) (j : Int) = true := fun j hj => by
              rw [gt_set_true (by omega)]; split
              · rfl
              · exact hj
            have hnew : ∀ j : Nat, gt (b.set k true) (j : Int) = false → gt b (j : Int) = false ∧ j ≠ k := fun j hj => by
              rw [gt_set_true (by omega)] at hj
              split at hj
              · cases hj
              · exact ⟨hj, by assumption⟩
            refine .inl ⟨(bif sB (gt l (i : Int)) (gt l (k : Int)) then l.set k (ov (gt l (k : Int))) else l, b.set k true, (i : Int) :: (rest ++ [(k : Int)]), ((k + 1 : Nat) : Int)), ?_, ⟨rest ++ [(k : Int)], k + 1, rfl, rfl, by omega, R', upTo_set (by omega) hm, ?_, ?_, ?_, ?_⟩, by simp only; omega⟩
            · rw [ho]
              simp only [cond_false, Option.bind_some, Bool.not_true, Int.toNat_natCast]
              have hsm : ((i : Int) :: rest).length + [(k : Int)].length ≤ 1099511627776 := by simp; omega
              cases sB (gt l (i : Int)) (gt l (k : Int)) <;> simp only [cond_true, cond_false, Option.bind_some, small_in hsm, jn, w64_succ (show k < 4611686018427387904 by omega), List.cons_append]
            · intro q hqm
              simp only [List.mem_cons, List.mem_append, List.not_mem_nil, or_false] at hqm
              rcases hqm with e | hqm | e
              · exact ⟨i, hi, e, hold i hdi'⟩
              · obtain ⟨j, h1, h2, h3⟩ := hq q (by simp [hqm])
                exact ⟨j, h1, h2, hold j h3⟩
              · exact ⟨k, hkn, e, by simp only; rw [gt_set_true (by omega), if_pos rfl]⟩
            · intro j k' hj hk' hdj hdk'
              obtain ⟨h1, _⟩ := hnew k' hdk'
              by_cases e : j = k
              · subst e; exact .inl (by simp)
              · have hdj' : gt b (j : Int) = true := by
                  simp only at hdj
                  rw [gt_set_true (by omega), if_neg e] at hdj; exact hdj
                rcases hc j k' hj hk' hdj' h1 with h | h
                · exact .inl (by
                    simp only [List.mem_cons, List.mem_append] at h ⊢
                    rcases h with h | h
                    · exact .inl h
                    · exact .inr (.inl h))
                · exact .inr h
            · simp only [List.length_append, List.length_cons, List.length_nil]
              omega
            · intro k' hk' hdk'
              obtain ⟨h1, h2⟩ := hnew k' hdk'
              exact hkk k' (by omega) h1
      · obtain rfl : k = s.length := by omega
        have d1 : decide (((s.length : Nat) : Int) < (l7.length : Int)) = false := decide_eq_false (by omega)
        rw [d1, cond_false]
        refine .inr ⟨(l, b, (i : Int) :: rest, (s.length : Int)), rfl, rest, rfl, rfl, R, hm, fun q hqm => hq q (by simp [hqm]), ?_, hu⟩
        intro j k' hj hk' hdj hdk'
        rcases hc j k' hj hk' hdj hdk' with h | h
        · simp only [List.mem_cons] at h
          rcases h with h | h
          · have : j = i := by omega
            subst this
            exact .inr (hkk k' hk' hdk')
          · exact .inl h
        · exact .inr h)
    (l, b, (i : Int) :: rest, 0) ⟨rest, 0, rfl, rfl, by omega, R, hm, hq, hc, hu, fun k' hk' => by omega⟩ (by simp only; omega)
  exact ⟨l', b', rest', h1, h2⟩
theorem imMore {m : Nat} {l : List (List Int)} {b : List Bool} {y : List Int} (R : RunL s l b) (hm : upTo b m) (hq : qOk s b y) (hc : clQ s b y) (hu : und b + y.length ≤ 50) :
    ∃ l' b', loop1 impl_OrientSurface.b1 (l, b, y) = some (l', b', []) ∧ RunL s l' b' ∧ upTo b' m ∧ clQ s b' [] := by
  obtain ⟨⟨l', b', y'⟩, h1, rfl, h2⟩ := loop1_run (f := impl_OrientSurface.b1)
    (fun p => RunL s p.1 p.2.1 ∧ upTo p.2.1 m ∧ qOk s p.2.1 p.2.2 ∧ clQ s p.2.1 p.2.2 ∧ und p.2.1 + p.2.2.length ≤ 50)
    (fun p => und p.2.1 + p.2.2.length)
    (fun p => p.2.2 = [] ∧ RunL s p.1 p.2.1 ∧ upTo p.2.1 m ∧ clQ s p.2.1 p.2.2)
    (by
      rintro ⟨l, b, y⟩ ⟨R, hm, hq, hc, hu⟩
      simp only at R hm hq hc hu
      unfold impl_OrientSurface.b1
      simp only []
      cases y with
      | nil => exact .inr ⟨(l, b, []), rfl, rfl, R, hm, hc⟩
      | cons h rest =>
        obtain ⟨i, hi, rfl, hdi⟩ := hq h (by simp)
        simp only [List.length_cons] at hu
        obtain ⟨l', b', rest', e, R', hm', hq', hc', hu'⟩ := imRow S hi R hm hq hc rfl (by omega) R.len
        have d1 : decide ((((i : Int) :: rest).length : Int) > 0) = true := by simp
        refine .inl ⟨(l', b', rest'), ?_, ⟨R', hm', hq', hc', by simp only; omega⟩, by simp only [List.length_cons]; omega⟩
        rw [d1, cond_true, e]
        simp only [Option.bind_some]
        have g : (decide (0 ≤ 1) && decide (1 ≤ (((i : Int) :: rest').length : Int)) && decide ((((i : Int) :: rest').length : Int) ≤ (((i : Int) :: rest').length : Int))) = true := by simp; omega
        rw [g]
        simp only [grd, cond_true]
        congr 3
        simp)
    (l, b, y) ⟨R, hm, hq, hc, hu⟩ (by simp only; omega)
  exact ⟨l', b', h1, h2⟩
theorem imAll : ∃ l b, loop1 (impl_OrientSurface.b2 s) (s, List.replicate s.length false, 0) = some (l, b, (s.length : Int)) ∧ RunL s l b ∧ upTo b s.length := by
  have hn := S.most
  obtain ⟨⟨l', b', x'⟩, h1, rfl, h2⟩ := loop1_run (f := impl_OrientSurface.b2 s)
    (fun p => RunL s p.1 p.2.1 ∧ clQ s p.2.1 [] ∧ ∃ k : Nat, p.2.2 = k ∧ k ≤ s.length ∧ upTo p.2.1 k)
    (fun p => s.length - p.2.2.toNat)
    (fun p => p.2.2 = (s.length : Int) ∧ RunL s p.1 p.2.1 ∧ upTo p.2.1 s.length)
    (by
      rintro ⟨l, b, x⟩ ⟨R, hc, k, hx, hk, hm⟩
      simp only at R hm hc hx
      subst hx
      have hl := R.len
      have hb := R.lenb
      unfold impl_OrientSurface.b2
      simp only []
      by_cases hkn : k < s.length
      · have d1 : decide ((k : Int) < (s.length : Int)) = true := decide_eq_true (by omega)
        rw [d1, cond_true, chk_in (by omega)]
        cases hdk : gt b (k : Int) with
        | true =>
          refine .inl ⟨(l, b, ((k + 1 : Nat) : Int)), by simp only [cond_true, Option.bind_some, jn, w64_succ (show k < 4611686018427387904 by omega)], ⟨R, hc, k + 1, rfl, by omega, fun j hj => ?_⟩, by simp only; omega⟩
          by_cases e : j = k
          · subst e; exact hdk
          · exact hm j (by omega)
        | false =>
          have R' := R.begin hkn hdk hm fun j k' hj hk' hdj hdk' => (hc j k' hj hk' hdj hdk').resolve_left (by simp)
          have hm' : upTo (b.set k true) (k + 1) := fun j hj => by
            rw [gt_set_true (by omega)]
            split
            · rfl
            · exact hm j (by omega)
          have hq' : qOk s (b.set k true) [(k : Int)] := fun q hqm => by
            simp only [List.mem_cons, List.not_mem_nil, or_false] at hqm
            exact ⟨k, hkn, hqm, by rw [gt_set_true (by omega), if_pos rfl]⟩
          have hc' : clQ s (b.set k true) [(k : Int)] := fun j k' hj hk' hdj hdk' => by
            by_cases e : j = k
            · subst e; exact .inl (by simp)
            · rw [gt_set_true (by omega), if_neg e] at hdj
              rw [gt_set_true (by omega)] at hdk'
              split at hdk'
              · cases hdk'
              · exact .inr ((hc j k' hj hk' hdj hdk').resolve_left (by simp))
          have hul := und_le (b.set k true)
          rw [List.length_set] at hul
          obtain ⟨l', b', e, R2, hm2, hc2⟩ := imMore S R' hm' hq' hc' (by simp only [List.length_cons, List.length_nil]; omega)
          refine .inl ⟨(l', b', ((k + 1 : Nat) : Int)), ?_, ⟨R2, hc2, k + 1, rfl, by omega, hm2⟩, by simp only; omega⟩
          rw [cond_false, Int.toNat_natCast, e]
          simp only [Option.bind_some, jn, w64_succ (show k < 4611686018427387904 by omega)]
      · obtain rfl : k = s.length := by omega
        have d1 : decide (((s.length : Nat) : Int) < (s.length : Int)) = false := decide_eq_false (by omega)
        rw [d1, cond_false]
        exact .inr ⟨(l, b, (s.length : Int)), rfl, rfl, R, hm⟩)
    (s, List.replicate s.length false, 0) ⟨RunL.first s, fun j k hj hk hdj hdk => .inr (cl_first s j k hj hk hdj hdk), 0, rfl, by omega, fun j hj => by omega⟩ (by simp only; omega)
  exact ⟨l', b', h1, h2⟩
end
end Go.Proofs.Ytiiljfpbcanphaa.G

/- Slices of numbers: the same as themselves; marked, and held. -/
namespace Go.Proofs.Ytiiljfpbcanphaa.G
open Go Go.Sx Go.Proofs
theorem eqS_refl (a : List Int) (h : a.length < 1000000000000) : laws_eqInt64S.f a a = some true := by
  unfold laws_eqInt64S.f
  have e : (((a.length : Nat) : Int) != (a.length : Int)) = false := by simp
  rw [e, cond_false]
  have hl := loop_upto (f := laws_eqInt64S.b0 a a) (fun i => (i : Int)) a.length (a.length : Int) (by omega) (fun i hi => by
    unfold laws_eqInt64S.b0
    simp only [dlt_nat, hi, decide_true, cond_true]
    rw [chk_in (by omega), chk_in (by omega), w64_succ (by omega)]
    simp) (by
    unfold laws_eqInt64S.b0
    simp)
  have hl' : loop (laws_eqInt64S.b0 a a) 0 = some (.brk (a.length : Int)) := hl
  rw [hl']; rfl
/-- So many numbers from k on. -/
def iota (k n : Nat) : List Int := (List.range n).map fun i => ((k + i : Nat) : Int)
theorem iota_length (k n : Nat) : (iota k n).length = n := by simp [iota]
theorem iota_gt {k n i : Nat} (h : i < n) : gt (iota k n) (i : Int) = ((k + i : Nat) : Int) := by simp [gt, iota, List.getD, h]
theorem markS (a : List Int) (k : Nat) (h : k + a.length < 1000000000000) : laws_markInt64S.f a k = some (((k + a.length : Nat) : Int), iota k a.length) := by
  unfold laws_markInt64S.f
  have hl := loop1_upto (f := laws_markInt64S.b0) (fun i => (iota k i ++ a.drop i, ((k + i : Nat) : Int), (i : Int))) a.length (iota k a.length, ((k + a.length : Nat) : Int), (a.length : Int)) (by omega) (fun i hi => by
    unfold laws_markInt64S.b0
    have e : (iota k i ++ a.drop i).length = a.length := by rw [List.length_append, iota_length, List.length_drop]; omega
    simp only [e, dlt_nat, hi, decide_true, cond_true]
    rw [chk_in (by omega), w64_succ (by omega), w64_succ (by omega), Int.toNat_natCast]
    have e2 : (iota k i ++ a.drop i).set i ((k + i : Nat) : Int) = iota k (i + 1) ++ a.drop (i + 1) := by
      rw [List.set_append_right _ _ (by rw [iota_length]; exact Nat.le_refl _), iota_length, Nat.sub_self]
      have h3 : a.drop i = a[i] :: a.drop (i + 1) := by rw [List.getElem_cons_drop]
      rw [h3, List.set_cons_zero]
      unfold iota
      rw [List.range_succ, List.map_append]
      simp
    rw [e2]
    rfl) (by
    unfold laws_markInt64S.b0
    simp [iota_length])
  have hl' : loop1 laws_markInt64S.b0 (a, (k : Int), 0) = some (iota k a.length, ((k + a.length : Nat) : Int), (a.length : Int)) := hl
  rw [hl']; rfl
theorem heldS (k n : Nat) (h : k + n < 1000000000000) : laws_heldInt64S.f (iota k n) k = some ((k + n : Nat) : Int) := by
  unfold laws_heldInt64S.f
  have hl := loop_upto (f := laws_heldInt64S.b0 (iota k n)) (fun i => (((k + i : Nat) : Int), (i : Int))) n (((k + n : Nat) : Int), (n : Int)) (by omega) (fun i hi => by
    unfold laws_heldInt64S.b0
    simp only [iota_length, dlt_nat, hi, decide_true, cond_true]
    rw [chk_in (by omega), iota_gt hi, w64_succ (by omega), w64_succ (by omega)]
    simp
    rfl) (by
    unfold laws_heldInt64S.b0
    simp [iota_length])
  have hl' : loop (laws_heldInt64S.b0 (iota k n)) ((k : Int), 0) = some (.brk (((k + n : Nat) : Int), (n : Int))) := hl
  rw [hl']; rfl
end Go.Proofs.Ytiiljfpbcanphaa.G

/- Rows of numbers: the same as themselves; marked, and held. -/
namespace Go.Proofs.Ytiiljfpbcanphaa.G
open Go Go.Sx Go.Proofs
/-- k and all the rows' lengths. -/
def tot (k : Nat) : List (List Int) → Nat
  | [] => k
  | r :: rs => tot (k + r.length) rs
def marks (k : Nat) : List (List Int) → List (List Int)
  | [] => []
  | r :: rs => iota k r.length :: marks (k + r.length) rs
theorem marks_length (k : Nat) (a : List (List Int)) : (marks k a).length = a.length := by
  induction a generalizing k with
  | nil => rfl
  | cons r rs ih => simp [marks, ih]
theorem tot_le (k : Nat) (a : List (List Int)) : k ≤ tot k a := by
  induction a generalizing k with
  | nil => exact Nat.le_refl _
  | cons r rs ih => have := ih (k + r.length); simp only [tot]; omega
theorem tot_append (k : Nat) (a b : List (List Int)) : tot k (a ++ b) = tot (tot k a) b := by
  induction a generalizing k with
  | nil => rfl
  | cons r rs ih => simp only [List.cons_append, tot]; exact ih _
theorem marks_append (k : Nat) (a b : List (List Int)) : marks k (a ++ b) = marks k a ++ marks (tot k a) b := by
  induction a generalizing k with
  | nil => rfl
  | cons r rs ih => simp only [List.cons_append, marks, tot, ih]
theorem take_one {α : Type} {a : List α} {i : Nat} (h : i < a.length) : a.take (i + 1) = a.take i ++ [a[i]] := by rw [List.take_add_one, List.getElem?_eq_getElem h]; rfl
theorem gt_get {α : Type} [Inhabited α] {a : List α} {i : Nat} (h : i < a.length) : gt a (i : Int) = a[i] := by simp [gt, List.getD, h]
theorem tot_part (k : Nat) {a : List (List Int)} {i : Nat} (h : i < a.length) : tot k (a.take (i + 1)) = tot k (a.take i) + a[i].length := by rw [take_one h, tot_append]; rfl
theorem tot_mono (k : Nat) (a : List (List Int)) (i : Nat) : tot k (a.take i) ≤ tot k a := by
  have h : tot k a = tot (tot k (a.take i)) (a.drop i) := by rw [← tot_append, List.take_append_drop]
  rw [h]; exact tot_le _ _
theorem eqSS_refl (a : List (List Int)) (h : a.length < 1000000000000) (hr : ∀ r ∈ a, r.length < 1000000000000) : laws_eqInt64SS.f a a = some true := by
  unfold laws_eqInt64SS.f
  have e : (((a.length : Nat) : Int) != (a.length : Int)) = false := by simp
  rw [e, cond_false]
  have hl := loop_upto (f := laws_eqInt64SS.b0 a a) (fun i => (i : Int)) a.length (a.length : Int) (by omega) (fun i hi => by
    unfold laws_eqInt64SS.b0
    simp only [dlt_nat, hi, decide_true, cond_true]
    rw [chk_in (by omega), chk_in (by omega), eqS_refl _ (hr _ (by rw [gt_get hi]; exact List.getElem_mem _)), w64_succ (by omega)]
    rfl) (by
    unfold laws_eqInt64SS.b0
    simp)
  have hl' : loop (laws_eqInt64SS.b0 a a) 0 = some (.brk (a.length : Int)) := hl
  rw [hl']; rfl
theorem markSS (a : List (List Int)) (k : Nat) (h : tot k a < 1000000000000) (ha : a.length < 1000000000000) : laws_markInt64SS.f a k = some ((tot k a : Int), marks k a) := by
  unfold laws_markInt64SS.f
  have hl := loop1_upto (f := laws_markInt64SS.b0) (fun i => (marks k (a.take i) ++ a.drop i, (tot k (a.take i) : Int), (i : Int))) a.length (marks k a, (tot k a : Int), (a.length : Int)) (by omega) (fun i hi => by
    unfold laws_markInt64SS.b0
    have hm : (marks k (a.take i)).length = i := by rw [marks_length, List.length_take]; omega
    have e : (marks k (a.take i) ++ a.drop i).length = a.length := by rw [List.length_append, hm, List.length_drop]; omega
    have h1 := tot_part k hi
    have h2 := tot_mono k a (i + 1)
    simp only [e, dlt_nat, hi, decide_true, cond_true]
    have hd : a.drop i = a[i] :: a.drop (i + 1) := by rw [List.getElem_cons_drop]
    have g : gt (marks k (a.take i) ++ a.drop i) (i : Int) = a[i] := by
      rw [gt_get (by rw [e]; exact hi), List.getElem_append_right (by omega)]
      simp [hm]
    rw [chk_in (by omega), g, markS _ _ (by omega)]
    simp only [Option.bind_some, Int.toNat_natCast, w64_succ (by omega : i < 4611686018427387904)]
    have e2 : (marks k (a.take i) ++ a.drop i).set i (iota (tot k (a.take i)) a[i].length) = marks k (a.take (i + 1)) ++ a.drop (i + 1) := by
      rw [List.set_append_right _ _ (by omega), hm, Nat.sub_self, hd, List.set_cons_zero, take_one hi, marks_append]
      simp [marks]
    rw [e2, h1]) (by
    unfold laws_markInt64SS.b0
    simp [marks_length])
  have hl' : loop1 laws_markInt64SS.b0 (a, (k : Int), 0) = some (marks k a, (tot k a : Int), (a.length : Int)) := hl
  rw [hl']; rfl
theorem marks_get (k : Nat) {a : List (List Int)} {i : Nat} (h : i < a.length) : gt (marks k a) (i : Int) = iota (tot k (a.take i)) a[i].length := by
  rw [gt_get (by rw [marks_length]; exact h)]
  have h1 : a = a.take i ++ a[i] :: a.drop (i + 1) := by rw [List.getElem_cons_drop, List.take_append_drop]
  have h2 : marks k a = marks k (a.take i) ++ (iota (tot k (a.take i)) a[i].length :: marks (tot k (a.take i) + a[i].length) (a.drop (i + 1))) := by
    conv => lhs; rw [h1]
    rw [marks_append]; rfl
  have hm : (marks k (a.take i)).length = i := by rw [marks_length, List.length_take]; omega
  have h3 : (marks k a)[i]? = some (iota (tot k (a.take i)) a[i].length) := by
    rw [h2, List.getElem?_append_right (by omega), hm, Nat.sub_self]; rfl
  rw [List.getElem?_eq_getElem (by rw [marks_length]; exact h)] at h3
  exact Option.some.inj h3
theorem heldSS (a : List (List Int)) (k : Nat) (h : tot k a < 1000000000000) (ha : a.length < 1000000000000) : laws_heldInt64SS.f (marks k a) k = some (tot k a : Int) := by
  unfold laws_heldInt64SS.f
  have hl := loop_upto (f := laws_heldInt64SS.b0 (marks k a)) (fun i => ((tot k (a.take i) : Int), (i : Int))) a.length ((tot k a : Int), (a.length : Int)) (by omega) (fun i hi => by
    unfold laws_heldInt64SS.b0
    have h1 := tot_part k hi
    have h2 := tot_mono k a (i + 1)
    simp only [marks_length, dlt_nat, hi, decide_true, cond_true]
    rw [chk_in (by omega), marks_get k hi, heldS _ _ (by omega), Option.bind_some, w64_succ (by omega), ← h1]
    have hd : decide ((tot k (a.take (i + 1)) : Int) < 0) = false := decide_eq_false (by omega)
    rw [hd]; rfl) (by
    unfold laws_heldInt64SS.b0
    simp [marks_length])
  have hl' : loop (laws_heldInt64SS.b0 (marks k a)) ((k : Int), 0) = some (.brk ((tot k a : Int), (a.length : Int))) := hl
  rw [hl']; rfl
theorem tot_eq (k : Nat) (a : List (List Int)) : tot k a = k + (a.map List.length).sum := by
  induction a generalizing k with
  | nil => rfl
  | cons r rs ih => simp only [tot, ih, List.map_cons, List.sum_cons]; omega
theorem sum_le_mul (c : Nat) : ∀ (a : List (List Int)), (∀ r ∈ a, r.length ≤ c) → (a.map List.length).sum ≤ c * a.length
  | [], _ => by simp
  | r :: rs, h => by
    have h1 := sum_le_mul c rs fun x hx => h x (List.mem_cons_of_mem _ hx)
    have h2 := h r (by simp)
    simp only [List.map_cons, List.sum_cons, List.length_cons, Nat.mul_add]; omega
end Go.Proofs.Ytiiljfpbcanphaa.G

/- Surfaces copied. -/
namespace Go.Proofs.Ytiiljfpbcanphaa.G
open Go Go.Sx Go.Proofs
theorem clone_eq (s : List (List Int)) (h : s.length ≤ 1000000) (hr : ∀ r ∈ s, r.length ≤ 1000000) : spec_l07Copy.f s = some s ∧ impl_cloneSurface.f s = some s := by
  have key : ∀ f : (List (List Int)) × Int → Option (LB ((List (List Int)) × Int)), (∀ (o : List (List Int)) (i : Nat), i < s.length → o.length ≤ 1000000 → f (o, (i : Int)) = some (.next (o ++ [gt s (i : Int)], ((i + 1 : Nat) : Int)))) → (∀ o, f (o, (s.length : Int)) = some (.brk (o, (s.length : Int)))) → loop1 f ([], 0) = some (s, (s.length : Int)) := by
    intro f hs hf
    have := loop1_upto (f := f) (fun i => (s.take i, (i : Int))) s.length (s, (s.length : Int)) (by omega) (fun i hi => by
      rw [hs _ i hi (by simp; omega), gt_at hi, List.take_add_one, List.getElem?_eq_getElem hi]
      rfl) (by rw [List.take_length]; exact hf s)
    simpa using this
  constructor
  · unfold spec_l07Copy.f
    rw [key _ (fun o i hi ho => by
      unfold spec_l07Copy.b0 spec_l01Own.f
      simp only [dlt_nat, hi, decide_true, cond_true]
      have := hr (gt s (i : Int)) (by rw [gt_at hi]; exact List.getElem_mem _)
      rw [chk_in (by omega), small_in (by simp; omega), Option.bind_some, small_in (by omega), w64_succ (by omega)]
      rfl) (fun o => by
      unfold spec_l07Copy.b0
      simp)]
    rfl
  · unfold impl_cloneSurface.f
    rw [key _ (fun o i hi ho => by
      unfold impl_cloneSurface.b0 slices_Clone_int64_int64.f
      simp only [dlt_nat, hi, decide_true, cond_true]
      have := hr (gt s (i : Int)) (by rw [gt_at hi]; exact List.getElem_mem _)
      rw [chk_in (by omega), small_in (by simp; omega), Option.bind_some, small_in (by omega), w64_succ (by omega)]
      rfl) (fun o => by
      unfold impl_cloneSurface.b0
      simp)]
    rfl
end Go.Proofs.Ytiiljfpbcanphaa.G

/- The law of OrientSurface tells true. -/
namespace Go.Proofs.Ytiiljfpbcanphaa.G
open Go Go.Sx Go.Proofs
theorem in_rowP (s : List (List Int)) (i : Nat) : ∀ {j q : Nat}, q < j → (((i : Int), (q : Int)), entry s i q) ∈ rowP s i j
  | 0, _, h => by omega
  | j + 1, q, h => by
    by_cases hq : q = j
    · subst hq; exact List.mem_append.2 (.inr (by simp))
    · exact List.mem_append.2 (.inl (in_rowP s i (by omega)))
theorem in_preP (s : List (List Int)) : ∀ {n i q : Nat}, i < n → q < 3 → (((i : Int), (q : Int)), entry s i q) ∈ preP s n
  | 0, _, _, h, _ => by omega
  | n + 1, i, q, h, hq => by
    by_cases hi : i = n
    · subst hi; exact List.mem_append.2 (.inr (in_rowP s i hq))
    · exact List.mem_append.2 (.inl (in_preP s (by omega) hq))
theorem rows3 {s : List (List Int)} (h : Surf s) : ∀ r ∈ s, r.length = 3 := by
  intro r hr
  obtain ⟨q, hq, rfl⟩ := List.mem_iff_getElem.1 hr
  have := (row_entry (h.row q hq) (q := 0) (by omega)).2
  rwa [gt_at hq] at this
/-- How often an edge is met. -/
theorem fl_len_app (P Q : List Side) (k : Nat) : (sdl (P ++ Q) k).length = (sdl P k).length + (sdl Q k).length := by
  unfold sdl; rw [List.filter_append, List.map_append, List.length_append]
theorem row_cnt {s l : List (List Int)} {i : Nat} (h3 : (gt s (i : Int)).length = 3) (h : gt l (i : Int) = gt s (i : Int) ∨ gt l (i : Int) = ov (gt s (i : Int))) (k : Nat) : (sdl (rowP l i 3) k).length = (sdl (rowP s i 3) k).length := by
  have hr : ∀ z : List (List Int), (sdl (rowP z i 3) k).length = (if (entry z i 0).natAbs = k then 1 else 0) + ((if (entry z i 1).natAbs = k then 1 else 0) + (if (entry z i 2).natAbs = k then 1 else 0)) := by
    intro z
    have e : rowP z i 3 = (([] ++ [(((i : Int), ((0 : Nat) : Int)), entry z i 0)]) ++ [(((i : Int), ((1 : Nat) : Int)), entry z i 1)]) ++ [(((i : Int), ((2 : Nat) : Int)), entry z i 2)] := rfl
    rw [e, sdl_add, sdl_add, sdl_add]
    have e0 : sdl [] k = [] := rfl
    rw [e0]
    split <;> split <;> split <;> rfl
  rw [hr l, hr s]
  obtain ⟨a, b, c, he⟩ := list3 h3
  have es : entry s i 0 = a ∧ entry s i 1 = b ∧ entry s i 2 = c := by
    unfold entry; rw [he]; exact ⟨rfl, rfl, rfl⟩
  rcases h with h | h
  · have el : entry l i 0 = a ∧ entry l i 1 = b ∧ entry l i 2 = c := by
      unfold entry; rw [h, he]; exact ⟨rfl, rfl, rfl⟩
    rw [es.1, es.2.1, es.2.2, el.1, el.2.1, el.2.2]
  · have el : entry l i 0 = -c ∧ entry l i 1 = -b ∧ entry l i 2 = -a := by
      unfold entry; rw [h, he]; exact ⟨rfl, rfl, rfl⟩
    rw [es.1, es.2.1, es.2.2, el.1, el.2.1, el.2.2, Int.natAbs_neg, Int.natAbs_neg, Int.natAbs_neg]
    omega
theorem pre_cnt {s l : List (List Int)} (h3 : ∀ i, i < s.length → (gt s (i : Int)).length = 3) (h : ∀ i : Nat, gt l (i : Int) = gt s (i : Int) ∨ gt l (i : Int) = ov (gt s (i : Int))) (k : Nat) : ∀ n, n ≤ s.length → (sdl (preP l n) k).length = (sdl (preP s n) k).length
  | 0, _ => rfl
  | n + 1, hn => by
    have ih := pre_cnt h3 h k n (by omega)
    show (sdl (preP l n ++ rowP l n 3) k).length = (sdl (preP s n ++ rowP s n 3) k).length
    rw [fl_len_app, fl_len_app, ih, row_cnt (h3 n (by omega)) (h n)]
section
variable {s : List (List Int)} (S : Surf s)
include S
theorem surf_run {l : List (List Int)} {b : List Bool} (R : RunL s l b) : Surf l := by
  have hl := R.len
  refine ⟨by rw [hl]; exact S.two, by rw [hl]; exact S.most, by rw [hl]; exact S.even, fun i hi => ?_, fun k hk => ?_⟩
  · rw [hl] at hi ⊢
    have h3 := l_row S R hi
    have hr := S.row i hi
    unfold rowB at hr ⊢
    simp only [Bool.and_eq_true, decide_eq_true_eq, List.all_eq_true] at hr ⊢
    refine ⟨h3, fun x hx => ?_⟩
    rcases (R.run.rows i).2 with e | e
    · have e' : gt l (i : Int) = gt s (i : Int) := e
      rw [e'] at hx; exact hr.2 x hx
    · have e' : gt l (i : Int) = ov (gt s (i : Int)) := e
      rw [e', mem_ov hr.1] at hx
      have := hr.2 _ hx
      unfold entB at this ⊢
      simp only [Bool.and_eq_true, decide_eq_true_eq] at this ⊢
      omega
  · rw [hl] at hk ⊢
    rw [pre_cnt (fun i hi => s_row S hi) (fun i => (R.run.rows i).2) (k + 1) s.length (Nat.le_refl _)]
    exact S.edge k hk
end
theorem mem_entry {l : List (List Int)} {i : Nat} (h3 : (gt l (i : Int)).length = 3) {x : Int} (hx : x ∈ gt l (i : Int)) : ∃ q : Nat, q < 3 ∧ entry l i q = x := by
  obtain ⟨q, hq, e⟩ := List.getElem_of_mem hx
  refine ⟨q, by omega, ?_⟩
  have : gt (gt l (i : Int)) (q : Int) = (gt l (i : Int))[q] := gt_ix hq
  unfold entry
  rw [this, e]
/-- A surface that is oriented has no two triangles with a side in the same direction. -/
theorem ori_of {l : List (List Int)} (S : Surf l) (h : orB l = true) : Ori l.length (fun i : Nat => gt l (i : Int)) := by
  intro i k hi hk hne x hx hx'
  have h3 := (row_entry (S.row i hi) (q := 0) (by omega)).2
  have h4 := (row_entry (S.row k hk) (q := 0) (by omega)).2
  obtain ⟨q, hq, e1⟩ := mem_entry h3 hx
  obtain ⟨q', hq', e2⟩ := mem_entry h4 hx'
  have hb := (row_entry (S.row i hi) hq).1
  have hle := abs_le hb
  rw [e1] at hb hle
  have hx0 : x ≠ 0 := by
    unfold entB at hb
    simp only [Bool.and_eq_true, decide_eq_true_eq] at hb
    exact hb.1.1
  obtain ⟨m, hm⟩ : ∃ m, x.natAbs = m + 1 := ⟨x.natAbs - 1, by omega⟩
  have hme : m < ed l.length := by omega
  obtain ⟨p, r, hf, hp, hr, ap, ar⟩ := S.edge2 hme
  have hsg : sg (preP l l.length) (m + 1) = 0 := by
    unfold orB at h
    have h2 : (List.range (ed l.length)).any (sameE l) = false := by simpa using h
    rw [List.any_eq_false] at h2
    have := h2 m (List.mem_range.2 hme)
    unfold sameE at this
    simpa using this
  unfold sg at hsg
  rw [hf] at hsg
  simp only [List.map_cons, List.map_nil, List.sum_cons, List.sum_nil] at hsg
  have hu : ∀ a c : Nat, a < l.length → c < 3 → entry l a c = x → ((((a : Int), (c : Int)), x) : Side) = p ∨ ((((a : Int), (c : Int)), x) : Side) = r := by
    intro a c ha hc he
    have hmem : ((((a : Int), (c : Int)), x) : Side) ∈ fl (preP l l.length) (m + 1) := by
      unfold fl
      rw [List.mem_filter]
      exact ⟨by have := in_preP l ha hc; rwa [he] at this, by simpa using hm⟩
    rw [hf] at hmem
    simpa using hmem
  have hpr : ¬ (p.2 = x ∧ r.2 = x) := by
    rintro ⟨a1, a2⟩
    rw [a1, a2] at hsg
    unfold sn at hsg
    split at hsg <;> omega
  rcases hu i q hi hq e1 with a | a <;> rcases hu k q' hk hq' e2 with c | c
  · rw [← a] at c; simp only [Prod.mk.injEq] at c; omega
  · exact hpr ⟨by rw [← a], by rw [← c]⟩
  · exact hpr ⟨by rw [← c], by rw [← a]⟩
  · rw [← a] at c; simp only [Prod.mk.injEq] at c; omega
theorem os_same {s : List (List Int)} (h1 : s.length ≤ 1048576) : ∃ o e, spec_OrientSurface.f s = some (o, e) ∧ impl_OrientSurface.f s = some (o, e) ∧ o.length ≤ 12 ∧ ∀ r ∈ o, r.length ≤ 3 := by
  unfold spec_OrientSurface.f impl_OrientSurface.f
  rw [specSurf h1, implSurf h1]
  cases hb : surfB s with
  | false => exact ⟨_, _, rfl, rfl, by simp, by simp⟩
  | true =>
    have S := surf_of hb
    have h2 := S.most
    have hcl := clone_eq s (by omega) (fun r hr => by have := rows3 S r hr; omega)
    obtain ⟨l1, b1, e1, R1, u1⟩ := spAll S
    obtain ⟨l2, b2, e2, R2, u2⟩ := imAll S
    have S1 := surf_run S R1
    have S2 := surf_run S R2
    have n1 := R1.len
    have n2 := R2.len
    have hsame : (orB l1 = true → l2 = l1) ∧ (orB l2 = true → l1 = l2) := by
      have key : ∀ {l l' : List (List Int)} {b b' : List Bool}, RunL s l b → RunL s l' b' → upTo b s.length → Surf l' → orB l' = true → l = l' := by
        intro l l' b b' R R' u S' ho
        have hori := ori_of S' ho
        rw [R'.len] at hori
        have := R.run.unique (fun k hk => s_row S hk) u R'.run hori
        refine List.ext_getElem (by rw [R.len, R'.len]) fun k hk hk' => ?_
        have hks : k < s.length := by rw [← R.len]; exact hk
        have e := this k hks
        rw [gt_ix hk, gt_ix hk'] at e
        exact e
      exact ⟨key R2 R1 u2 S1, key R1 R2 u1 S2⟩
    unfold spec_l07Orient.f
    simp only [Option.bind_some, Bool.not_true, cond_false]
    rw [hcl.1, hcl.2]
    simp only [Option.bind_some, Int.toNat_natCast]
    rw [small_in (by omega), small_in (by omega), e1, e2]
    simp only [Option.bind_some]
    rw [specOr S1, implOr S2]
    simp only [Option.bind_some]
    have hrow : ∀ r ∈ l1, r.length ≤ 3 := fun r hr => by have := rows3 S1 r hr; omega
    cases o1 : orB l1 with
    | true =>
      obtain rfl := hsame.1 o1
      rw [o1]
      exact ⟨_, _, rfl, rfl, by omega, hrow⟩
    | false =>
      cases o2 : orB l2 with
      | true =>
        obtain rfl := hsame.2 o2
        rw [o1] at o2; cases o2
      | false => exact ⟨_, _, rfl, rfl, by simp, by simp⟩
theorem plain_FnExactOrientSurface (s : List (List Int)) (_w : ∀ r ∈ s, ∀ x ∈ r, IntKind.i64.has x) (z : ∀ r ∈ s, r.length ≤ 9223372036854775807) (y : s.length ≤ 9223372036854775807) : laws_FnExactOrientSurface.f s = some true := by
  unfold laws_FnExactOrientSurface.f
  obtain ⟨q, hq, h⟩ := szSS s 1048576 (by omega) y z
  have hq' : laws_szInt64SS.f s 1048576 = some q := hq
  rw [hq', Option.bind_some]
  rcases h with h | ⟨h0, h1, h2, h3⟩
  · rw [decide_eq_true h]; rfl
  · rw [decide_eq_false (by omega), cond_false, toSS s h1 h2]
    obtain ⟨o, e, e1, e2, e3, e4⟩ := os_same h1
    have b1 := eqSS_refl s (by omega) (fun r hr => by have := h2 r hr; omega)
    have b2 := eqSS_refl o (by omega) (fun r hr => by have := e4 r hr; omega)
    have t1 : tot 1 s ≤ 1048577 := by rw [tot_eq]; omega
    have t2 : tot 1 o ≤ 100 := by
      have := sum_le_mul 3 o e4
      rw [tot_eq]; omega
    have m1 : laws_markInt64SS.f s 1 = some ((tot 1 s : Int), marks 1 s) := markSS s 1 (by omega) (by omega)
    have m2 : laws_markInt64SS.f o 1 = some ((tot 1 o : Int), marks 1 o) := markSS o 1 (by omega) (by omega)
    have m3 : laws_heldInt64SS.f (marks 1 o) 1 = some (tot 1 o : Int) := heldSS o 1 (by omega) (by omega)
    have d1 : decide ((tot 1 s : Int) < 0) = false := decide_eq_false (by omega)
    have d2 : decide ((tot 1 o : Int) < 0) = false := decide_eq_false (by omega)
    have n1 : (e != e) = false := by simp
    have n2 : ((tot 1 o : Int) != (tot 1 o : Int)) = false := by simp
    simp only [Option.bind_some, e1, e2, b1, b2, m1, m2, m3, d1, d2, n1, n2, Bool.not_true, Bool.or_false, cond_false]
end Go.Proofs.Ytiiljfpbcanphaa.G

/- Arg: a law's arguments, as they come in, in the calculus' own words. -/
namespace Go.Sx
open Go.RowKit

theorem okWide_agg {P : Program} {W : World} {r : Reach} {base : Nat} {t : TypeId} {v : Value} {ts : List TypeId} (ht : (match P.underlying t with | some (.struct _) | some (.array _ _) => true | _ => false) = true) (hts : P.cellTypes P.depth t = some ts) (h : Value.okWide P W r base t v) :
    ∃ cs, v = .agg cs ∧ cs.size = P.cellsOf t ∧ ∀ i u, cs[i]? = some u → ∃ k, ts[i % ts.length]? = some k ∧ Cell.okWide P W r base k u := by
  unfold Value.okWide at h
  split at h
  · obtain ⟨cs, h1, h2, ts', h3, _, h4⟩ := h
    rw [hts] at h3; obtain rfl := Option.some.inj h3
    exact ⟨cs, h1, h2, h4⟩
  · obtain ⟨cs, h1, h2, ts', h3, _, h4⟩ := h
    rw [hts] at h3; obtain rfl := Option.some.inj h3
    exact ⟨cs, h1, h2, h4⟩
  · rename_i h1 h2
    exfalso
    split at ht
    · exact h1 _ ‹_›
    · exact h2 _ _ ‹_›
    · cases ht

theorem okWide_int {P : Program} {W : World} {r : Reach} {base : Nat} {t : TypeId} {k : IntKind} {v : Value} (ht : P.underlying t = some (.int k)) (h : Cell.okWide P W r base t v) : ∃ n, v = .int k n ∧ k.has n := by
  unfold Cell.okWide at h
  rw [ht] at h
  unfold Cell.ok at h
  rw [ht] at h
  cases v <;> simp at h
  rename_i k' n
  obtain ⟨rfl, h2⟩ := h
  exact ⟨n, rfl, h2⟩

theorem u8block (cs : Array Value) (o m : Nat) (h : ∀ i, o ≤ i → i < o + m → ∃ n, cs[i]? = some (.int .u8 n) ∧ IntKind.u8.has n) : ∃ t : Nat → UInt8, (cs.toList.drop o).take m = flat [.arr m (enf u8v t)] := by
  refine ⟨fun k => match cs[o + k]? with | some (.int _ n) => UInt8.ofInt n | _ => 0, ?_⟩
  apply List.ext_getElem?
  intro i
  simp only [flat, Seg.cells, List.append_nil, List.getElem?_take, List.getElem?_drop, List.getElem?_map]
  by_cases hi : i < m
  · obtain ⟨n, hn, hw⟩ := h (o + i) (by omega) (by omega)
    have hn' : cs.toList[o + i]? = some (.int .u8 n) := by simpa using hn
    rw [if_pos hi, List.getElem?_range hi, hn']
    simp only [Option.map_some, enf, hn]
    congr 1
    rw [← conv_i64_u8]
    congr 1
    have hw' : 0 ≤ n ∧ n ≤ 255 := by
      simp only [IntKind.has, IntKind.min, IntKind.max, IntKind.signed, IntKind.bits] at hw
      simpa using hw
    rw [IntKind.wrap_u8]; omega
  · rw [if_neg hi]
    simp [hi]

theorem okWideV_int {P : Program} {W : World} {r : Reach} {base : Nat} {t : TypeId} {k : IntKind} {v : Value} (ht : P.underlying t = some (.int k)) (h : Value.okWide P W r base t v) : ∃ n, v = .int k n ∧ k.has n := by
  unfold Value.okWide at h
  rw [ht] at h
  exact okWide_int ht h
theorem okWideV_string {P : Program} {W : World} {r : Reach} {base : Nat} {t : TypeId} {v : Value} (ht : P.underlying t = some .string) (h : Value.okWide P W r base t v) : ∃ l : Str, v = strv l := by
  unfold Value.okWide at h
  rw [ht] at h
  simp only at h
  unfold Cell.okWide at h
  rw [ht] at h
  unfold Cell.ok at h
  rw [ht] at h
  cases v <;> simp at h
  rename_i s
  exact ⟨s.data.toList, by simp [strv]⟩
theorem i64cell (cs : Array Value) (o : Nat) (ho : o < cs.size) (h : ∀ u, cs[o]? = some u → ∃ n, u = .int .i64 n ∧ IntKind.i64.has n) : ∃ x, (cs.toList.drop o).take 1 = flat [.one (.int .i64 x)] ∧ IntKind.i64.has x := by
  obtain ⟨n, hn, hw⟩ := h cs[o] (by simp [ho])
  refine ⟨n, ?_, hw⟩
  have hl : o < cs.toList.length := by simpa using ho
  rw [List.drop_eq_getElem_cons hl, List.take_succ_cons, List.take_zero]
  simp [flat, Seg.cells, hn]
def pieces (l : List Value) : Nat → List Nat → List Value
  | _, [] => []
  | o, m :: r => (l.drop o).take m ++ pieces l (o + m) r
theorem pieces_eq (l : List Value) : ∀ (ns : List Nat) (o : Nat), l.length = o + ns.sum → pieces l o ns = l.drop o
  | [], o, h => by
    simp only [List.sum_nil, Nat.add_zero] at h
    simp [pieces, h]
  | m :: r, o, h => by
    simp only [List.sum_cons] at h
    rw [pieces, pieces_eq l r (o + m) (by omega), ← List.drop_drop, List.take_append_drop]

theorem encs_ints (ys : List Int) : encs Ei ys = ys.map (Value.int .i64) := by
  induction ys with
  | nil => rfl
  | cons y ys ih => simp only [encs, List.flatMap_cons, List.map_cons] at ih ⊢; rw [ih]; rfl
theorem okWideV_slice {P : Program} {W : World} {r : Reach} {base : Nat} {t e : TypeId} {v : Value} (ht : P.underlying t = some (.slice e)) (h : Value.okWide P W r base t v) : ∃ a n c, v = .slice a n c := by
  unfold Value.okWide at h
  rw [ht] at h
  simp only at h
  unfold Cell.okWide at h
  rw [ht] at h
  simp only at h
  unfold Cell.ok at h
  rw [ht] at h
  cases v <;> simp at h
  exact ⟨_, _, _, rfl⟩
/-- A slice of whole numbers that comes in. -/
theorem okWideV_ints {H : Type} {r : Reach} {base : Nat} {enc : TypeId × Value → H} {P : Program} {W : World} {sp : Nat → Bool} {held : Bool} {t e : TypeId} {v : Value} {d : DataW H} {p : List MemPlace} (ht : P.underlying t = some (.slice e)) (he : P.underlying e = some (.int .i64)) (hc : P.cellsOf e = 1)
    (hv : Value.okWide P W r base t v) (h : DataW.Trod enc P W 0 sp held t v d p) : ∃ (s : SV) (ys : List Int) (el spare : List (DataW H)), v = s.v ∧ Reads Ei (hp W) s ys ∧ (∀ x ∈ ys, IntKind.i64.has x) ∧ ((d = .nil ∧ ys = []) ∨ (d = .slice el spare ∧ ys.length = el.length + 0)) := by
  obtain ⟨m, hm⟩ := h
  obtain ⟨a1, n1, c1, rfl⟩ := okWideV_slice ht hv
  have hcl : (Value.slice a1 n1 c1).cells.toList = [Value.slice a1 n1 c1] := rfl
  rw [hcl] at hm
  rcases ChangeShapes.open_ints ht he hc hm with ⟨h1, h2⟩ | ⟨a, len, cap, zs, h1, _, h3, h4, h5, h6, h7, h8⟩
  · injection h1 with h1
    injection h2 with h2
    exact ⟨⟨none, 0, 0⟩, [], [], [], h1, ⟨rfl, Nat.le_refl _, by simp [maxLen], .inl rfl⟩, by simp, .inl ⟨h2, rfl⟩⟩
  · injection h1 with h1
    injection h6 with h6
    have hlen : len ≤ zs.length := by rw [h5]; split <;> omega
    refine ⟨⟨some a, len, cap⟩, zs.take len, _, _, h1, ⟨by simp; omega, h3, h4, ?_⟩, ?_, .inr ⟨h6, by simp [ChangeShapes.lits]⟩⟩
    · by_cases hl : len = 0
      · left; subst hl; simp
      · right
        have h0 := h7 0 (by omega)
        obtain ⟨b, o, sp'⟩ := a
        have e0 : (⟨b, o, sp'⟩ : Addr).add 0 = ⟨b, o, sp'⟩ := by simp [Addr.add]
        rw [e0] at h0
        unfold World.cell? at h0
        split at h0
        · rename_i cs T fr hb
          have hsp : sp' = none := by
            cases sp' with
            | none => rfl
            | some x => simp at h0
          subst hsp
          refine ⟨b, o, cs, T, fr, rfl, hb, ?_⟩
          intro j u hu
          rw [encs_ints, List.getElem?_map, List.getElem?_take] at hu
          split at hu
          · rename_i hj
            have hz := h7 j (by omega)
            rw [add_none, cell_at hb] at hz
            rw [hz, ← hu]
            have : zs[j]? = some (zs[j]'(by omega)) := List.getElem?_eq_getElem _
            simp [List.getD, this]
          · simp at hu
        · cases h0
    · intro x hx
      have := h8 x (List.mem_of_mem_take hx)
      simp only [Lit.wf, Bool.and_eq_true, decide_eq_true_eq] at this
      exact this

theorem reads_of {β : Type} {E : FE β} {W : World} {a : Addr} {n cap : Nat} {ys : List β} (hn : n = ys.length) (hpos : 0 < E.sz) (hc : ∀ (j : Nat) (u : Value), (encs E ys)[j]? = some u → W.cell? (a.add j) = some u) (h1 : n ≤ cap) (h2 : cap ≤ maxLen) : Reads E (hp W) ⟨some a, n, cap⟩ ys := by
  subst hn
  refine ⟨rfl, h1, h2, ?_⟩
  cases ys with
  | nil => exact .inl rfl
  | cons y ys =>
    right
    have hl : 0 < (encs E (y :: ys)).length := by rw [encs_length, List.length_cons, Nat.add_mul]; omega
    have h0 := hc 0 _ (List.getElem?_eq_getElem hl)
    obtain ⟨b, o, sp'⟩ := a
    have e0 : (⟨b, o, sp'⟩ : Addr).add 0 = ⟨b, o, sp'⟩ := by simp [Addr.add]
    rw [e0] at h0
    unfold World.cell? at h0
    split at h0
    · rename_i cs T fr hb
      have hsp : sp' = none := by
        cases sp' with
        | none => rfl
        | some x => simp at h0
      subst hsp
      refine ⟨b, o, cs, T, fr, rfl, hb, ?_⟩
      intro j u hu
      have := hc j u hu
      rwa [add_none, cell_at hb] at this
    · cases h0
theorem encs_svs (ys : List SV) : encs Ev ys = ys.map SV.v := by
  induction ys with
  | nil => rfl
  | cons y ys ih => simp only [encs, List.flatMap_cons, List.map_cons] at ih ⊢; rw [ih]; rfl
theorem Reads.len_le {β : Type} {E : FE β} {I : Hp} {s : SV} {ys : List β} (h : Reads E I s ys) : ys.length ≤ 9223372036854775807 := by
  obtain ⟨h0, h1, h2, _⟩ := h
  have : maxLen = 9223372036854775807 := rfl
  omega
/-- A slice of slices of whole numbers that comes in. -/
theorem okWideV_introws {H : Type} {r : Reach} {base : Nat} {enc : TypeId × Value → H} {P : Program} {W : World} {held : Bool} {t e q : TypeId} {v : Value} {d : DataW H} {p : List MemPlace} (ht : P.underlying t = some (.slice e)) (he : P.underlying e = some (.slice q)) (hq : P.underlying q = some (.int .i64)) (ce : P.cellsOf e = 1) (cq : P.cellsOf q = 1)
    (hv : Value.okWide P W r base t v) (h : DataW.Trod enc P W 0 (fun _ => true) held t v d p) : ∃ (s : SV) (ss : List SV) (yss : List (List Int)), v = s.v ∧ ReadsM Ei (hp W) s ss yss ∧ (∀ r ∈ yss, ∀ x ∈ r, IntKind.i64.has x) ∧ (∀ r ∈ yss, r.length ≤ 9223372036854775807) ∧ yss.length ≤ 9223372036854775807 := by
  obtain ⟨m, hm⟩ := h
  obtain ⟨a1, n1, c1, rfl⟩ := okWideV_slice ht hv
  have hcl : (Value.slice a1 n1 c1).cells.toList = [Value.slice a1 n1 c1] := rfl
  rw [hcl] at hm
  rcases Deep.open_int_rows ht he hq ce cq hm with ⟨h1, h2⟩ | ⟨a, len, cap, A, L, C, Z, h1, _, h3, h4, _, h5⟩
  · injection h1 with h1
    exact ⟨⟨none, 0, 0⟩, [], [], h1, ⟨⟨rfl, Nat.le_refl _, by simp [maxLen], .inl rfl⟩, rfl, by simp⟩, by simp, by simp, by simp⟩
  · injection h1 with h1
    have key : ∀ r, r < len → Reads Ei (hp W) ⟨A r, L r, C r⟩ ((Z r).take (L r)) := by
      intro r hr
      obtain ⟨g1, g2, g3, g4, g5, g6, g7⟩ := h5 r (by omega)
      cases hA : A r with
      | none =>
        have := g6 hA
        have hL : L r = 0 := by omega
        rw [hL]
        exact ⟨rfl, Nat.zero_le _, g3, .inl rfl⟩
      | some a' =>
        refine reads_of (by simp; omega) (by decide) ?_ g2 g3
        intro j u hu
        rw [encs_ints, List.getElem?_map, List.getElem?_take] at hu
        split at hu
        · rename_i hj
          have hz := (g7 a' hA).2 j (by omega)
          rw [hz, ← hu]
          have : (Z r)[j]? = some ((Z r)[j]'(by omega)) := List.getElem?_eq_getElem _
          simp [List.getD, this]
        · simp at hu
    have hM : ReadsM Ei (hp W) ⟨some a, len, cap⟩ ((List.range len).map fun r => ⟨A r, L r, C r⟩) ((List.range len).map fun r => (Z r).take (L r)) := by
      refine ⟨reads_of (by simp) (by decide) ?_ h3 h4, by simp, ?_⟩
      · intro j u hu
        rw [encs_svs, List.map_map, List.getElem?_map] at hu
        by_cases hj : j < len
        · rw [List.getElem?_range hj] at hu
          have := (h5 j (by omega)).1
          rw [this, ← hu]; rfl
        · simp [hj] at hu
      · intro j u ys h1 h2
        by_cases hj : j < len
        · rw [List.getElem?_map, List.getElem?_range hj] at h1 h2
          obtain rfl := Option.some.inj h1
          obtain rfl := Option.some.inj h2
          exact key j hj
        · simp [hj] at h1
    refine ⟨⟨some a, len, cap⟩, _, _, h1, hM, ?_, ?_, hM.2.1 ▸ hM.1.len_le⟩
    · intro r hr x hx
      obtain ⟨i, hi, rfl⟩ := List.mem_map.1 hr
      have := (h5 i (by have := List.mem_range.1 hi; omega)).2.2.2.2.1 x (List.mem_of_mem_take hx)
      simp only [Lit.wf, Bool.and_eq_true, decide_eq_true_eq] at this
      exact this
    · intro r hr
      obtain ⟨i, hi, rfl⟩ := List.mem_map.1 hr
      exact (key i (List.mem_range.1 hi)).len_le

theorem mapM_get {α β : Type} {f : α → Option β} : ∀ {l : List α} {xs : List β}, l.mapM f = some xs → ∀ {i : Nat} {a : α}, l[i]? = some a → ∃ y, f a = some y
  | [], _, _, _, _, h => by simp at h
  | a :: l, xs, hm, i, b, h => by
    rw [List.mapM_cons] at hm
    obtain ⟨y, hy, h2⟩ := Option.bind_eq_some_iff.1 hm
    obtain ⟨ys, hys, _⟩ := Option.bind_eq_some_iff.1 h2
    cases i with
    | zero => simp at h; subst h; exact ⟨y, hy⟩
    | succ i => exact mapM_get hys (by simpa using h)
/-- A slice of whole numbers that is a field of a struct that comes in. -/
theorem structInts {H : Type} {enc : TypeId × Value → H} {P : Program} {W : World} {sp : Nat → Bool} {held : Bool} {t e : TypeId} {fs : Array Field} {f : Field} {cs : Array Value} {d : DataW H} {p : List MemPlace} (ht : P.underlying t = some (.struct fs)) (h : DataW.Trod enc P W 0 sp held t (.agg cs) d p) (i : Nat) (hf : fs[i]? = some f)
    (hu : P.underlying f.type = some (.slice e)) (he : P.underlying e = some (.int .i64)) (hc : P.cellsOf e = 1) (h1 : P.cellsOf f.type = 1) {o : Nat} (ho : f.offset = o) :
    ∃ (s : SV) (ys : List Int), (cs.toList.drop o).take 1 = flat [.one (SV.v s)] ∧ Reads Ei (hp W) s ys ∧ (∀ x ∈ ys, IntKind.i64.has x) := by
  obtain ⟨m, hm⟩ := h
  have hcl : (Value.agg cs).cells.toList = cs.toList := rfl
  rw [hcl] at hm
  cases m with
  | zero => simp [DataW.trod] at hm
  | succ m =>
    unfold DataW.trod at hm
    rw [ht] at hm
    simp only at hm
    split at hm
    · obtain ⟨xs, hxs, _⟩ := Option.map_eq_some_iff.1 hm
      obtain ⟨y, hy⟩ := mapM_get hxs (i := i) (a := f) (by simpa using hf)
      rw [h1, ho] at hy
      rcases ChangeShapes.open_ints hu he hc hy with ⟨g1, g2⟩ | ⟨a, len, cap, zs, g1, _, g3, g4, g5, g6, g7, g8⟩
      · exact ⟨⟨none, 0, 0⟩, [], by rw [g1]; rfl, ⟨rfl, Nat.le_refl _, by simp [maxLen], .inl rfl⟩, by simp⟩
      · have hlen : len ≤ zs.length := by rw [g5]; split <;> omega
        refine ⟨⟨some a, len, cap⟩, zs.take len, by rw [g1]; rfl, reads_of (by simp; omega) (by decide) ?_ g3 g4, ?_⟩
        · intro j u hu'
          rw [encs_ints, List.getElem?_map, List.getElem?_take] at hu'
          split at hu'
          · rename_i hj
            have hz := g7 j (by omega)
            rw [hz, ← hu']
            have : zs[j]? = some (zs[j]'(by omega)) := List.getElem?_eq_getElem _
            simp [List.getD, this]
          · simp at hu'
        · intro x hx
          have := g8 x (List.mem_of_mem_take hx)
          simp only [Lit.wf, Bool.and_eq_true, decide_eq_true_eq] at this
          exact this
    · cases hm

/-- The cells of an array of bytes that comes in. -/
theorem trod_u8s {H : Type} {enc : TypeId × Value → H} {P : Program} {W : World} {base : Nat} {sp : Nat → Bool} {held : Bool} {e q : TypeId} {N n : Nat} {cs : List Value} {x : DataW H × List MemPlace} (he : P.underlying e = some (.array N q)) (hq : P.underlying q = some (.int .u8)) (cq : P.cellsOf q = 1) (ce : P.cellsOf e = N)
    (h : DataW.trod enc P W base sp held n e cs = some x) : ∃ t : Nat → UInt8, cs = flat [.arr N (enf u8v t)] := by
  cases n with
  | zero => simp [DataW.trod] at h
  | succ n =>
    unfold DataW.trod at h
    rw [he] at h
    simp only at h
    split at h
    · rename_i hlen
      rw [ce] at hlen
      obtain ⟨xs, hxs, _⟩ := Option.map_eq_some_iff.1 h
      obtain ⟨t, ht⟩ := u8block cs.toArray 0 N (fun i _ hi => by
        obtain ⟨y, hy⟩ := mapM_get hxs (i := i) (a := i) (by rw [List.getElem?_range (by omega)])
        rw [cq, Nat.mul_one] at hy
        have hi' : i < cs.length := by omega
        rw [List.drop_eq_getElem_cons hi', List.take_succ_cons, List.take_zero] at hy
        cases n with
        | zero => simp [DataW.trod] at hy
        | succ n =>
          unfold DataW.trod at hy
          rw [hq] at hy
          cases hc : cs[i] <;> rw [hc] at hy <;> simp only at hy <;> try cases hy
          rename_i k' z
          split at hy
          · rename_i hw
            obtain ⟨rfl, hw⟩ := hw
            refine ⟨z, by simp [hi', hc], ?_⟩
            simp only [Lit.wf, Bool.and_eq_true, decide_eq_true_eq] at hw
            exact hw
          · cases hy)
      refine ⟨t, ?_⟩
      rw [← ht, List.drop_zero]
      exact (List.take_of_length_le (by omega)).symm
    · cases h
/-- A slice of arrays of bytes that comes in. -/
theorem okWideV_vecs {H : Type} {r : Reach} {base : Nat} {enc : TypeId × Value → H} {P : Program} {W : World} {held : Bool} {sp : Nat → Bool} {t e q : TypeId} {N : Nat} {v : Value} {d : DataW H} {p : List MemPlace} (ht : P.underlying t = some (.slice e)) (he : P.underlying e = some (.array N q)) (hq : P.underlying q = some (.int .u8)) (ce : P.cellsOf e = N) (cq : P.cellsOf q = 1) (hN : 0 < N)
    (hv : Value.okWide P W r base t v) (h : DataW.Trod enc P W 0 sp held t v d p) : ∃ (s : SV) (ys : List (Nat → UInt8)), v = s.v ∧ Reads (Evec N) (hp W) s ys ∧ ys.length ≤ 9223372036854775807 := by
  obtain ⟨m, hm⟩ := h
  obtain ⟨a1, n1, c1, rfl⟩ := okWideV_slice ht hv
  have hcl : (Value.slice a1 n1 c1).cells.toList = [Value.slice a1 n1 c1] := rfl
  rw [hcl] at hm
  rcases Deep.open_slice ht hm with ⟨h1, h2⟩ | ⟨a, len, cap, m', n', D, Pl, h1, _, h3, h4, h5, _, h7⟩
  · injection h1 with h1
    exact ⟨⟨none, 0, 0⟩, [], h1, ⟨rfl, Nat.le_refl _, by simp [maxLen], .inl rfl⟩, by simp⟩
  · injection h1 with h1
    have hlen : len ≤ m' := by rw [h5]; split <;> omega
    obtain ⟨T, hT⟩ := Deep.choose_lt (n := len) (α := Nat → UInt8) (p := fun i t => W.cells? 0 (a.add (i * N)) N = some (flat [.arr N (enf u8v t)])) (fun i hi => by
      obtain ⟨cs', g1, g2⟩ := h7 i (by omega)
      obtain ⟨t, rfl⟩ := trod_u8s he hq cq ce g2
      rw [ce] at g1
      exact ⟨t, g1⟩)
    have hR : Reads (Evec N) (hp W) ⟨some a, len, cap⟩ ((List.range len).map T) := by
      refine reads_of (by simp) hN ?_ h3 h4
      intro j u hu
      have hjl : j < len * N := by
        have := (List.getElem?_eq_some_iff.1 hu).1
        rw [encs_length] at this
        simpa [Evec] using this
      have hjd : j / N < len := by rw [Nat.div_lt_iff_lt_mul hN]; exact hjl
      have hjm : j % N < N := Nat.mod_lt _ hN
      have e1 : j / N * (Evec N).sz + j % N = j := by
        have := Nat.div_add_mod j N
        show j / N * N + j % N = j
        rw [Nat.mul_comm]; exact this
      have h8 := encs_get (Evec N) ((List.range len).map T) (j / N) (j % N) (T (j / N)) (by simp [hjd]) hjm
      rw [e1, hu] at h8
      obtain ⟨_, _, g3⟩ := World.cells?_some (hT (j / N) hjd)
      have h9 := (g3 (j % N) hjm).trans h8.symm
      rw [Deep.add_add] at h9
      rw [show j / N * N + j % N = j from e1] at h9
      exact h9
    exact ⟨⟨some a, len, cap⟩, _, h1, hR, hR.len_le⟩
end Go.Sx
