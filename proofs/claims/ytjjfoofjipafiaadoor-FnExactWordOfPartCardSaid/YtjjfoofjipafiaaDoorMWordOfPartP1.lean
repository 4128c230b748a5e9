/- Plain laws. -/
import Derived.Test.YtjjfoofjipafiaaDoorMWordOfPart2
import Derived.ProofKit
import Derived.OpenShut
import Derived.ShutString
import Derived.ChangeOld
import Derived.Carry
import Derived.SizedLaws
import Derived.ChangeSlices
import Derived.Deep.Matrix
/- Pl: plain laws of the loops, and of whole numbers. -/
namespace Go.Sx

theorem loopN_mono {σ ρ : Type} {f : σ → Option (LR σ ρ)} : ∀ {k s o}, loopN f k s = some o → ∀ {k'}, k ≤ k' → loopN f k' s = some o
  | 0, _, _, h, _, _ => by cases h
  | k + 1, s, o, h, k', hk => by
    obtain ⟨j, rfl⟩ : ∃ j, k' = j + 1 := ⟨k' - 1, by omega⟩
    simp only [loopN] at h ⊢
    split at h
    · cases h
    · exact loopN_mono h (by omega)
    · exact h
    · exact h

theorem loop_run {σ ρ : Type} {f : σ → Option (LR σ ρ)} (Inv : σ → Prop) (m : σ → Nat) (Q : LO σ ρ → Prop)
    (h : ∀ s, Inv s → (∃ s', f s = some (.next s') ∧ Inv s' ∧ m s' < m s) ∨ (∃ s', f s = some (.brk s') ∧ Q (.brk s')) ∨ (∃ r, f s = some (.ret r) ∧ Q (.ret r)))
    (s : σ) (hs : Inv s) (hm : m s < 4611686018427387904) : ∃ o, loop f s = some o ∧ Q o := by
  have key : ∀ k s, Inv s → m s < k → ∃ o, loopN f k s = some o ∧ Q o := by
    intro k
    induction k with
    | zero => intro s _ h; omega
    | succ k ih =>
      intro s hs hm
      rcases h s hs with ⟨s', h1, h2, h3⟩ | ⟨s', h1, h2⟩ | ⟨r, h1, h2⟩
      · obtain ⟨o, ho, hq⟩ := ih s' h2 (by omega)
        exact ⟨o, by simp only [loopN, h1]; exact ho, hq⟩
      · exact ⟨_, by simp only [loopN, h1], h2⟩
      · exact ⟨_, by simp only [loopN, h1], h2⟩
  obtain ⟨o, ho, hq⟩ := key (m s + 1) s hs (by omega)
  exact ⟨o, loopN_mono ho (by unfold FUEL; omega), hq⟩

theorem loop1_of {σ : Type} {f : σ → Option (LB σ)} {s s' : σ} (h : loop (ρ := Empty) (fun s => (f s).map LB.lr) s = some (.brk s')) : loop1 f s = some s' := by
  unfold loop1; rw [h]

theorem loop1_run {σ : Type} {f : σ → Option (LB σ)} (Inv : σ → Prop) (m : σ → Nat) (Q : σ → Prop)
    (h : ∀ s, Inv s → (∃ s', f s = some (.next s') ∧ Inv s' ∧ m s' < m s) ∨ (∃ s', f s = some (.brk s') ∧ Q s'))
    (s : σ) (hs : Inv s) (hm : m s < 4611686018427387904) : ∃ o, loop1 f s = some o ∧ Q o := by
  obtain ⟨o, ho, hq⟩ := loop_run (ρ := Empty) (f := fun s => (f s).map LB.lr) Inv m (fun o => match o with | .brk s => Q s | .ret r => nomatch r) (by
    intro s hs
    rcases h s hs with ⟨s', h1, h2, h3⟩ | ⟨s', h1, h2⟩
    · exact .inl ⟨s', by rw [h1]; rfl, h2, h3⟩
    · exact .inr (.inl ⟨s', by rw [h1]; rfl, h2⟩)) s hs hm
  cases o with
  | brk s' => exact ⟨s', loop1_of ho, hq⟩
  | ret r => exact nomatch r

theorem loop_of {σ ρ : Type} {f : σ → Option (LR σ ρ)} {s : σ} {o : LO σ ρ} {k : Nat} (h : loopN f k s = some o) (hk : k ≤ 4611686018427387904) : loop f s = some o :=
  loopN_mono h (by unfold FUEL; omega)

/-- A loop that counts up to n, and leaves by its end. -/
theorem loop_upto {σ ρ : Type} {f : σ → Option (LR σ ρ)} (S : Nat → σ) (n : Nat) (b : σ) (hn : n < 4611686018427387904) (step : ∀ i, i < n → f (S i) = some (.next (S (i + 1)))) (fin : f (S n) = some (.brk b)) : loop f (S 0) = some (.brk b) := by
  have key : ∀ d i, i + d = n → loopN f (d + 1) (S i) = some (.brk b) := by
    intro d
    induction d with
    | zero => intro i hi; obtain rfl : i = n := by omega
              simp only [loopN, fin]
    | succ d ih => intro i hi; rw [loopN, step i (by omega)]; exact ih (i + 1) (by omega)
  exact loop_of (key n 0 (by omega)) (by omega)
theorem loop1_upto {σ : Type} {f : σ → Option (LB σ)} (S : Nat → σ) (n : Nat) (b : σ) (hn : n < 4611686018427387904) (step : ∀ i, i < n → f (S i) = some (.next (S (i + 1)))) (fin : f (S n) = some (.brk b)) : loop1 f (S 0) = some b :=
  loop1_of (loop_upto (ρ := Empty) (f := fun s => (f s).map LB.lr) S n b hn (fun i hi => by rw [step i hi]; rfl) (by rw [fin]; rfl))

/-- A loop that counts up to n and looks for something. -/
theorem loop_find {σ ρ : Type} {f : σ → Option (LR σ ρ)} (S : Nat → σ) (n : Nat) (bad : Nat → Bool) (r : Nat → ρ) (b : σ) (hn : n < 4611686018427387904)
    (step : ∀ i, i < n → f (S i) = some (bif bad i then .ret (r i) else .next (S (i + 1)))) (fin : f (S n) = some (.brk b)) :
    loop f (S 0) = some (match (List.range n).find? bad with | some i => .ret (r i) | none => .brk b) := by
  have key : ∀ d i, i + d = n → loopN f (d + 1) (S i) = some (match (List.range' i d).find? bad with | some i => .ret (r i) | none => .brk b) := by
    intro d
    induction d with
    | zero => intro i hi; obtain rfl : i = n := by omega
              simp only [loopN, fin]; rfl
    | succ d ih =>
      intro i hi
      rw [loopN, step i (by omega), List.range'_succ, List.find?_cons]
      cases hb : bad i with
      | true => rfl
      | false => exact ih (i + 1) (by omega)
  rw [List.range_eq_range']
  exact loop_of (key n 0 (by omega)) (by omega)
theorem loop_any {σ ρ : Type} {f : σ → Option (LR σ ρ)} (S : Nat → σ) (n : Nat) (bad : Nat → Bool) (r : ρ) (b : σ) (hn : n < 4611686018427387904)
    (step : ∀ i, i < n → f (S i) = some (bif bad i then .ret r else .next (S (i + 1)))) (fin : f (S n) = some (.brk b)) :
    loop f (S 0) = some (bif (List.range n).any bad then .ret r else .brk b) := by
  rw [loop_find S n bad (fun _ => r) b hn step fin]
  cases hf : (List.range n).find? bad with
  | none =>
    have : (List.range n).any bad = false := by
      rw [List.any_eq_false]; intro x hx; have := List.find?_eq_none.1 hf x hx; simpa using this
    rw [this]; rfl
  | some i =>
    have : (List.range n).any bad = true := List.any_eq_true.2 ⟨i, List.mem_of_find?_eq_some hf, List.find?_some hf⟩
    rw [this]; rfl

theorem w64_in {x : Int} (h : -9223372036854775808 ≤ x ∧ x ≤ 9223372036854775807) : w64 x = x := IntWalk.i64_in x h
theorem w64_succ {i : Nat} (h : i < 4611686018427387904) : w64 ((i : Int) + 1) = ((i + 1 : Nat) : Int) := by rw [w64_in (by omega)]; omega
theorem w64_pred {i : Nat} (h : i < 4611686018427387904) : w64 (((i + 1 : Nat) : Int) - 1) = (i : Int) := by rw [w64_in (by omega)]; omega
theorem chk_in {α : Type} {i : Int} {n : Nat} {k : Option α} (h : 0 ≤ i ∧ i < n) : chk i n k = k := if_pos h
theorem nz_in {α : Type} {b : Int} {k : Option α} (h : b ≠ 0) : nz b k = k := if_neg h
theorem small_in {α : Type} {n : Nat} {k : Option α} (h : n ≤ 1099511627776) : small n k = k := if_pos h
theorem dlt_nat (i n : Nat) : decide ((i : Int) < (n : Int)) = decide (i < n) := by simp
theorem beq_nat (a b : Nat) : ((a : Int) == (b : Int)) = decide (a = b) := by rw [Bool.eq_iff_iff]; simp; omega
theorem beq_nat0 (a : Nat) : ((a : Int) == 0) = decide (a = 0) := by rw [Bool.eq_iff_iff]; simp
theorem bne_nat (a b : Nat) : ((a : Int) != (b : Int)) = !decide (a = b) := by rw [bne, beq_nat]
theorem bne_nat0 (a : Nat) : ((a : Int) != 0) = !decide (a = 0) := by rw [bne, beq_nat0]
theorem any_congr {n : Nat} {p q : Nat → Bool} (h : ∀ i, i < n → p i = q i) : (List.range n).any p = (List.range n).any q := by
  rw [Bool.eq_iff_iff]
  simp only [List.any_eq_true, List.mem_range]
  constructor
  · rintro ⟨i, hi, hp⟩; exact ⟨i, hi, by rw [← h i hi]; exact hp⟩
  · rintro ⟨i, hi, hp⟩; exact ⟨i, hi, by rw [h i hi]; exact hp⟩
end Go.Sx

/- The reference's joining of layers is the library's. -/
namespace Go.Proofs.YtjjfoofjipafiaaDoor.G
open Go Go.Sx Go.Proofs
theorem join_snoc (xs : List Str) (x : Str) (h : xs ≠ []) : Lib.join (xs ++ [x]) [47] = Lib.join xs [47] ++ [47] ++ x := by
  cases xs with
  | nil => exact absurd rfl h
  | cons y ys =>
    rw [List.cons_append, Lib.join_cons, Lib.join_cons]
    simp [Lib.joinTail]
theorem joinTail_len {xs : List Str} (h : ∀ x ∈ xs, x.length ≤ 20) : (Lib.joinTail [47] xs).length ≤ 21 * xs.length := by
  induction xs with
  | nil => simp [Lib.joinTail]
  | cons x xs ih =>
    have h1 := h x (by simp)
    have h2 := ih (fun y hy => h y (by simp [hy]))
    simp only [Lib.joinTail, List.map_cons, List.flatten_cons, List.length_append, List.length_cons, List.length_nil] at h2 ⊢
    omega
theorem join_len {xs : List Str} (h : ∀ x ∈ xs, x.length ≤ 20) : (Lib.join xs [47]).length ≤ 21 * xs.length := by
  cases xs with
  | nil => simp [Lib.join, List.intercalate]
  | cons y ys =>
    have h1 := h y (by simp)
    have h2 := joinTail_len (xs := ys) (fun z hz => h z (by simp [hz]))
    rw [Lib.join_cons, List.length_append, List.length_cons]
    omega
theorem gt_lt {α : Type} [Inhabited α] {a : List α} {i : Nat} (h : i < a.length) : gt a (i : Int) = a[i] := by simp [gt, List.getD, h]
theorem joined_eq {xs : List Str} (hn : xs.length ≤ 200) (h : ∀ x ∈ xs, x.length ≤ 20) : spec_l04Joined.f xs = some (Lib.join xs [47]) := by
  unfold spec_l04Joined.f
  have hl := loop1_upto (f := spec_l04Joined.b0 xs) (fun k => (Lib.join (xs.take k) [47], (k : Int))) xs.length (Lib.join xs [47], (xs.length : Int)) (by omega) (fun k hk => by
    unfold spec_l04Joined.b0
    have hlen := join_len (xs := xs.take k) (fun x hx => h x (List.mem_of_mem_take hx))
    rw [List.length_take] at hlen
    have hx := h xs[k] (List.getElem_mem hk)
    have hlen2 : (Lib.join (xs.take k) [47]).length ≤ 4200 := by omega
    clear hlen
    simp only [dlt_nat, hk, decide_true, cond_true]
    rw [gt_lt hk, w64_succ (by omega), List.take_add_one, List.getElem?_eq_getElem hk]
    cases k with
    | zero =>
      have d : decide (((0 : Nat) : Int) > 0) = false := by decide
      rw [d, cond_false, Option.bind_some, chk_in (by omega), small_in (by simp [Lib.join, List.intercalate] <;> omega)]
      simp [Lib.join, List.intercalate]
    | succ k =>
      have d : decide (((k + 1 : Nat) : Int) > 0) = true := decide_eq_true (by omega)
      have hne : xs.take (k + 1) ≠ [] := by
        intro e
        have h0 : (xs.take (k + 1)).length = 0 := by rw [e]; rfl
        rw [List.length_take] at h0
        omega
      rw [d, cond_true, small_in (by simp only [List.length_cons, List.length_nil]; omega), Option.bind_some, chk_in (by omega), small_in (by simp only [List.length_append, List.length_cons, List.length_nil]; omega), Option.toList_some, join_snoc _ _ hne]) (by
    unfold spec_l04Joined.b0
    simp)
  have hl' : loop1 (spec_l04Joined.b0 xs) (([] : Str), 0) = _ := hl
  rw [hl']; rfl
def joinB (xs : List Str) : Bool := decide (xs.length ≤ 200) && xs.all fun x => decide (x.length ≤ 20)
def joined2 (xs : List Str) : Option Str := bif joinB xs then some (Lib.join xs [47]) else spec_l04Joined.f xs
theorem joined2_eq : spec_l04Joined.f = joined2 := by
  funext xs
  unfold joined2
  cases hb : joinB xs with
  | false => rfl
  | true =>
    unfold joinB at hb
    simp only [Bool.and_eq_true, decide_eq_true_eq, List.all_eq_true] at hb
    exact joined_eq hb.1 hb.2
end Go.Proofs.YtjjfoofjipafiaaDoor.G

/- The law of WordOfPart tells true: at all numbers that are in range by a table, at all others by the first test. -/
set_option linter.unusedVariables false
namespace Go.Proofs.YtjjfoofjipafiaaDoor.G
open Go Go.Sx Go.Proofs
set_option maxRecDepth 1000000
/-- The reference's word, its layers joined by the library's function. -/
def word2 (x1 : Int) (x2 : Int) (x3 : Int) : Option (Str × Int) := (G.spec_l01In.f x1 0 20).bind (fun r_1 => (bif (!r_1) then some true else (G.spec_l01In.f x2 0 6).bind (fun r_2 => some (!r_2))).bind (fun b_1 => (bif b_1 then some true else (G.spec_l01In.f x3 0 6).bind (fun r_3 => some (!r_3))).bind (fun b_2 => (bif b_2 then some (([] : Str), 2) else ((bif (x2 == 0) then small (([] : List Str).length + ([([117] : Str)] : List Str).length) (some (([] : List Str) ++ ([([117] : Str)] : List Str))) else some ([] : List Str))).bind (fun x4 => (loop1 (spec_WordOfPart.b0) (x4, x2)).bind (fun p => match p with | (x5, x6) => (loop1 (spec_WordOfPart.b1) (x1, x5)).bind (fun p => match p with | (x7, x8) => ((bif (x3 == 0) then small (x8.length + ([([101] : Str)] : List Str).length) (some (x8 ++ ([([101] : Str)] : List Str))) else some x8)).bind (fun x9 => (loop1 (spec_WordOfPart.b2 x3) (x9, 1)).bind (fun p => match p with | (x10, x11) => ((bif ((x10.length : Int) == 0) then small (x10.length + ([([105] : Str)] : List Str).length) (some (x10 ++ ([([105] : Str)] : List Str))) else some x10)).bind (fun x12 => (joined2 x12).bind (fun r_6 => some (r_6, 0))))))))))))
theorem word2_eq : spec_WordOfPart.f = word2 := by
  funext g a b
  unfold spec_WordOfPart.f word2
  rw [joined2_eq]
/-- What the law asks, so that the kernel reckons it fast. -/
def fast (g a b : Int) : Option Bool := (word2 g a b).bind (fun p => match p with | (r_1, r_2) => (G.impl_WordOfPart.f g a b).bind (fun p => match p with | (r_3, r_4) => (bif ((r_3 != r_1) || (r_4 != r_2)) then some false else some true)))
theorem fast_eq (g a b : Int) : laws_FnExactWordOfPart.f g a b = fast g a b := by
  unfold laws_FnExactWordOfPart.f fast
  rw [word2_eq]
theorem word_0 : ∀ a : Fin 7, ∀ b : Fin 7, fast 0 (a.val : Int) (b.val : Int) = some true := by decide +kernel
theorem word_1 : ∀ a : Fin 7, ∀ b : Fin 7, fast 1 (a.val : Int) (b.val : Int) = some true := by decide +kernel
theorem word_2 : ∀ a : Fin 7, ∀ b : Fin 7, fast 2 (a.val : Int) (b.val : Int) = some true := by decide +kernel
theorem word_3 : ∀ a : Fin 7, ∀ b : Fin 7, fast 3 (a.val : Int) (b.val : Int) = some true := by decide +kernel
theorem word_4 : ∀ a : Fin 7, ∀ b : Fin 7, fast 4 (a.val : Int) (b.val : Int) = some true := by decide +kernel
theorem word_5 : ∀ a : Fin 7, ∀ b : Fin 7, fast 5 (a.val : Int) (b.val : Int) = some true := by decide +kernel
theorem word_6 : ∀ a : Fin 7, ∀ b : Fin 7, fast 6 (a.val : Int) (b.val : Int) = some true := by decide +kernel
theorem word_7 : ∀ a : Fin 7, ∀ b : Fin 7, fast 7 (a.val : Int) (b.val : Int) = some true := by decide +kernel
theorem word_8 : ∀ a : Fin 7, ∀ b : Fin 7, fast 8 (a.val : Int) (b.val : Int) = some true := by decide +kernel
theorem word_9 : ∀ a : Fin 7, ∀ b : Fin 7, fast 9 (a.val : Int) (b.val : Int) = some true := by decide +kernel
theorem word_10 : ∀ a : Fin 7, ∀ b : Fin 7, fast 10 (a.val : Int) (b.val : Int) = some true := by decide +kernel
theorem word_11 : ∀ a : Fin 7, ∀ b : Fin 7, fast 11 (a.val : Int) (b.val : Int) = some true := by decide +kernel
theorem word_12 : ∀ a : Fin 7, ∀ b : Fin 7, fast 12 (a.val : Int) (b.val : Int) = some true := by decide +kernel
theorem word_13 : ∀ a : Fin 7, ∀ b : Fin 7, fast 13 (a.val : Int) (b.val : Int) = some true := by decide +kernel
theorem word_14 : ∀ a : Fin 7, ∀ b : Fin 7, fast 14 (a.val : Int) (b.val : Int) = some true := by decide +kernel
theorem word_15 : ∀ a : Fin 7, ∀ b : Fin 7, fast 15 (a.val : Int) (b.val : Int) = some true := by decide +kernel
theorem word_16 : ∀ a : Fin 7, ∀ b : Fin 7, fast 16 (a.val : Int) (b.val : Int) = some true := by decide +kernel
theorem word_17 : ∀ a : Fin 7, ∀ b : Fin 7, fast 17 (a.val : Int) (b.val : Int) = some true := by decide +kernel
theorem word_18 : ∀ a : Fin 7, ∀ b : Fin 7, fast 18 (a.val : Int) (b.val : Int) = some true := by decide +kernel
theorem word_19 : ∀ a : Fin 7, ∀ b : Fin 7, fast 19 (a.val : Int) (b.val : Int) = some true := by decide +kernel
theorem word_20 : ∀ a : Fin 7, ∀ b : Fin 7, fast 20 (a.val : Int) (b.val : Int) = some true := by decide +kernel
theorem word_in (g : Fin 21) (a b : Fin 7) : laws_FnExactWordOfPart.f (g.val : Int) (a.val : Int) (b.val : Int) = some true := by
  rw [fast_eq]
  match g with
  | ⟨0, _⟩ => exact word_0 a b
  | ⟨1, _⟩ => exact word_1 a b
  | ⟨2, _⟩ => exact word_2 a b
  | ⟨3, _⟩ => exact word_3 a b
  | ⟨4, _⟩ => exact word_4 a b
  | ⟨5, _⟩ => exact word_5 a b
  | ⟨6, _⟩ => exact word_6 a b
  | ⟨7, _⟩ => exact word_7 a b
  | ⟨8, _⟩ => exact word_8 a b
  | ⟨9, _⟩ => exact word_9 a b
  | ⟨10, _⟩ => exact word_10 a b
  | ⟨11, _⟩ => exact word_11 a b
  | ⟨12, _⟩ => exact word_12 a b
  | ⟨13, _⟩ => exact word_13 a b
  | ⟨14, _⟩ => exact word_14 a b
  | ⟨15, _⟩ => exact word_15 a b
  | ⟨16, _⟩ => exact word_16 a b
  | ⟨17, _⟩ => exact word_17 a b
  | ⟨18, _⟩ => exact word_18 a b
  | ⟨19, _⟩ => exact word_19 a b
  | ⟨20, _⟩ => exact word_20 a b
  | ⟨n + 21, h⟩ => omega
theorem plain_FnExactWordOfPart (g a b : Int) (_wg : IntKind.i64.has g) (_wa : IntKind.i64.has a) (_wb : IntKind.i64.has b) : laws_FnExactWordOfPart.f g a b = some true := by
  by_cases h : (0 ≤ g ∧ g ≤ 20) ∧ (0 ≤ a ∧ a ≤ 6) ∧ 0 ≤ b ∧ b ≤ 6
  · obtain ⟨⟨g0, g1⟩, ⟨a0, a1⟩, b0, b1⟩ := h
    have := word_in ⟨g.toNat, by omega⟩ ⟨a.toNat, by omega⟩ ⟨b.toNat, by omega⟩
    simp only at this
    rw [Int.toNat_of_nonneg g0, Int.toNat_of_nonneg a0, Int.toNat_of_nonneg b0] at this
    exact this
  · unfold laws_FnExactWordOfPart.f spec_WordOfPart.f impl_WordOfPart.f spec_l01In.f impl_in.f
    have e : ((decide (g ≥ 0) && decide (g ≤ 20)) && ((decide (a ≥ 0) && decide (a ≤ 6)) && (decide (b ≥ 0) && decide (b ≤ 6)))) = false := by
      rw [Bool.eq_false_iff]
      intro hc
      simp only [Bool.and_eq_true, decide_eq_true_eq] at hc
      exact h ⟨hc.1, hc.2.1, hc.2.2⟩
    simp only [Option.bind_some]
    cases c1 : (decide (g ≥ 0) && decide (g ≤ 20)) with
    | false => simp
    | true =>
      rw [c1, Bool.true_and] at e
      cases c2 : (decide (a ≥ 0) && decide (a ≤ 6)) with
      | false => simp
      | true =>
        rw [c2, Bool.true_and] at e
        rw [e]
        simp
end Go.Proofs.YtjjfoofjipafiaaDoor.G

/- Arg: a law's arguments, as they come in, in the calculus' own words. -/
namespace Go.Sx
open Go.RowKit

theorem okWide_agg {P : Program} {W : World} {r : Reach} {base : Nat} {t : TypeId} {v : Value} {ts : List TypeId} (ht : (match P.underlying t with | some (.struct _) | some (.array _ _) => true | _ => false) = true) (hts : P.cellTypes P.depth t = some ts) (h : Value.okWide P W r base t v) :
    ∃ cs, v = .agg cs ∧ cs.size = P.cellsOf t ∧ ∀ i u, cs[i]? = some u → ∃ k, ts[i % ts.length]? = some k ∧ Cell.okWide P W r base k u := by
  unfold Value.okWide at h
  split at h
  · obtain ⟨cs, h1, h2, ts', h3, _, h4⟩ := h
    rw [hts] at h3; obtain rfl := Option.some.inj h3
    exact ⟨cs, h1, h2, h4⟩
  · obtain ⟨cs, h1, h2, ts', h3, _, h4⟩ := h
    rw [hts] at h3; obtain rfl := Option.some.inj h3
    exact ⟨cs, h1, h2, h4⟩
  · rename_i h1 h2
    exfalso
    split at ht
    · exact h1 _ ‹_›
    · exact h2 _ _ ‹_›
    · cases ht

theorem okWide_int {P : Program} {W : World} {r : Reach} {base : Nat} {t : TypeId} {k : IntKind} {v : Value} (ht : P.underlying t = some (.int k)) (h : Cell.okWide P W r base t v) : ∃ n, v = .int k n ∧ k.has n := by
  unfold Cell.okWide at h
  rw [ht] at h
  unfold Cell.ok at h
  rw [ht] at h
  cases v <;> simp at h
  rename_i k' n
  obtain ⟨rfl, h2⟩ := h
  exact ⟨n, rfl, h2⟩

theorem u8block (cs : Array Value) (o m : Nat) (h : ∀ i, o ≤ i → i < o + m → ∃ n, cs[i]? = some (.int .u8 n) ∧ IntKind.u8.has n) : ∃ t : Nat → UInt8, (cs.toList.drop o).take m = flat [.arr m (enf u8v t)] := by
  refine ⟨fun k => match cs[o + k]? with | some (.int _ n) => UInt8.ofInt n | _ => 0, ?_⟩
  apply List.ext_getElem?
  intro i
  simp only [flat, Seg.cells, List.append_nil, List.getElem?_take, List.getElem?_drop, List.getElem?_map]
  by_cases hi : i < m
  · obtain ⟨n, hn, hw⟩ := h (o + i) (by omega) (by omega)
    have hn' : cs.toList[o + i]? = some (.int .u8 n) := by simpa using hn
    rw [if_pos hi, List.getElem?_range hi, hn']
    simp only [Option.map_some, enf, hn]
    congr 1
    rw [← conv_i64_u8]
    congr 1
    have hw' : 0 ≤ n ∧ n ≤ 255 := by
      simp only [IntKind.has, IntKind.min, IntKind.max, IntKind.signed, IntKind.bits] at hw
      simpa using hw
    rw [IntKind.wrap_u8]; omega
  · rw [if_neg hi]
    simp [hi]

theorem okWideV_int {P : Program} {W : World} {r : Reach} {base : Nat} {t : TypeId} {k : IntKind} {v : Value} (ht : P.underlying t = some (.int k)) (h : Value.okWide P W r base t v) : ∃ n, v = .int k n ∧ k.has n := by
  unfold Value.okWide at h
  rw [ht] at h
  exact okWide_int ht h
theorem okWideV_string {P : Program} {W : World} {r : Reach} {base : Nat} {t : TypeId} {v : Value} (ht : P.underlying t = some .string) (h : Value.okWide P W r base t v) : ∃ l : Str, v = strv l := by
  unfold Value.okWide at h
  rw [ht] at h
  simp only at h
  unfold Cell.okWide at h
  rw [ht] at h
  unfold Cell.ok at h
  rw [ht] at h
  cases v <;> simp at h
  rename_i s
  exact ⟨s.data.toList, by simp [strv]⟩
theorem i64cell (cs : Array Value) (o : Nat) (ho : o < cs.size) (h : ∀ u, cs[o]? = some u → ∃ n, u = .int .i64 n ∧ IntKind.i64.has n) : ∃ x, (cs.toList.drop o).take 1 = flat [.one (.int .i64 x)] ∧ IntKind.i64.has x := by
  obtain ⟨n, hn, hw⟩ := h cs[o] (by simp [ho])
  refine ⟨n, ?_, hw⟩
  have hl : o < cs.toList.length := by simpa using ho
  rw [List.drop_eq_getElem_cons hl, List.take_succ_cons, List.take_zero]
  simp [flat, Seg.cells, hn]
def pieces (l : List Value) : Nat → List Nat → List Value
  | _, [] => []
  | o, m :: r => (l.drop o).take m ++ pieces l (o + m) r
theorem pieces_eq (l : List Value) : ∀ (ns : List Nat) (o : Nat), l.length = o + ns.sum → pieces l o ns = l.drop o
  | [], o, h => by
    simp only [List.sum_nil, Nat.add_zero] at h
    simp [pieces, h]
  | m :: r, o, h => by
    simp only [List.sum_cons] at h
    rw [pieces, pieces_eq l r (o + m) (by omega), ← List.drop_drop, List.take_append_drop]

theorem encs_ints (ys : List Int) : encs Ei ys = ys.map (Value.int .i64) := by
  induction ys with
  | nil => rfl
  | cons y ys ih => simp only [encs, List.flatMap_cons, List.map_cons] at ih ⊢; rw [ih]; rfl
theorem okWideV_slice {P : Program} {W : World} {r : Reach} {base : Nat} {t e : TypeId} {v : Value} (ht : P.underlying t = some (.slice e)) (h : Value.okWide P W r base t v) : ∃ a n c, v = .slice a n c := by
  unfold Value.okWide at h
  rw [ht] at h
  simp only at h
  unfold Cell.okWide at h
  rw [ht] at h
  simp only at h
  unfold Cell.ok at h
  rw [ht] at h
  cases v <;> simp at h
  exact ⟨_, _, _, rfl⟩
/-- A slice of whole numbers that comes in. -/
theorem okWideV_ints {H : Type} {r : Reach} {base : Nat} {enc : TypeId × Value → H} {P : Program} {W : World} {sp : Nat → Bool} {held : Bool} {t e : TypeId} {v : Value} {d : DataW H} {p : List MemPlace} (ht : P.underlying t = some (.slice e)) (he : P.underlying e = some (.int .i64)) (hc : P.cellsOf e = 1)
    (hv : Value.okWide P W r base t v) (h : DataW.Trod enc P W 0 sp held t v d p) : ∃ (s : SV) (ys : List Int) (el spare : List (DataW H)), v = s.v ∧ Reads Ei (hp W) s ys ∧ (∀ x ∈ ys, IntKind.i64.has x) ∧ ((d = .nil ∧ ys = []) ∨ (d = .slice el spare ∧ ys.length = el.length + 0)) := by
  obtain ⟨m, hm⟩ := h
  obtain ⟨a1, n1, c1, rfl⟩ := okWideV_slice ht hv
  have hcl : (Value.slice a1 n1 c1).cells.toList = [Value.slice a1 n1 c1] := rfl
  rw [hcl] at hm
  rcases ChangeShapes.open_ints ht he hc hm with ⟨h1, h2⟩ | ⟨a, len, cap, zs, h1, _, h3, h4, h5, h6, h7, h8⟩
  · injection h1 with h1
    injection h2 with h2
    exact ⟨⟨none, 0, 0⟩, [], [], [], h1, ⟨rfl, Nat.le_refl _, by simp [maxLen], .inl rfl⟩, by simp, .inl ⟨h2, rfl⟩⟩
  · injection h1 with h1
    injection h6 with h6
    have hlen : len ≤ zs.length := by rw [h5]; split <;> omega
    refine ⟨⟨some a, len, cap⟩, zs.take len, _, _, h1, ⟨by simp; omega, h3, h4, ?_⟩, ?_, .inr ⟨h6, by simp [ChangeShapes.lits]⟩⟩
    · by_cases hl : len = 0
      · left; subst hl; simp
      · right
        have h0 := h7 0 (by omega)
        obtain ⟨b, o, sp'⟩ := a
        have e0 : (⟨b, o, sp'⟩ : Addr).add 0 = ⟨b, o, sp'⟩ := by simp [Addr.add]
        rw [e0] at h0
        unfold World.cell? at h0
        split at h0
        · rename_i cs T fr hb
          have hsp : sp' = none := by
            cases sp' with
            | none => rfl
            | some x => simp at h0
          subst hsp
          refine ⟨b, o, cs, T, fr, rfl, hb, ?_⟩
          intro j u hu
          rw [encs_ints, List.getElem?_map, List.getElem?_take] at hu
          split at hu
          · rename_i hj
            have hz := h7 j (by omega)
            rw [add_none, cell_at hb] at hz
            rw [hz, ← hu]
            have : zs[j]? = some (zs[j]'(by omega)) := List.getElem?_eq_getElem _
            simp [List.getD, this]
          · simp at hu
        · cases h0
    · intro x hx
      have := h8 x (List.mem_of_mem_take hx)
      simp only [Lit.wf, Bool.and_eq_true, decide_eq_true_eq] at this
      exact this

theorem reads_of {β : Type} {E : FE β} {W : World} {a : Addr} {n cap : Nat} {ys : List β} (hn : n = ys.length) (hpos : 0 < E.sz) (hc : ∀ (j : Nat) (u : Value), (encs E ys)[j]? = some u → W.cell? (a.add j) = some u) (h1 : n ≤ cap) (h2 : cap ≤ maxLen) : Reads E (hp W) ⟨some a, n, cap⟩ ys := by
  subst hn
  refine ⟨rfl, h1, h2, ?_⟩
  cases ys with
  | nil => exact .inl rfl
  | cons y ys =>
    right
    have hl : 0 < (encs E (y :: ys)).length := by rw [encs_length, List.length_cons, Nat.add_mul]; omega
    have h0 := hc 0 _ (List.getElem?_eq_getElem hl)
    obtain ⟨b, o, sp'⟩ := a
    have e0 : (⟨b, o, sp'⟩ : Addr).add 0 = ⟨b, o, sp'⟩ := by simp [Addr.add]
    rw [e0] at h0
    unfold World.cell? at h0
    split at h0
    · rename_i cs T fr hb
      have hsp : sp' = none := by
        cases sp' with
        | none => rfl
        | some x => simp at h0
      subst hsp
      refine ⟨b, o, cs, T, fr, rfl, hb, ?_⟩
      intro j u hu
      have := hc j u hu
      rwa [add_none, cell_at hb] at this
    · cases h0
theorem encs_svs (ys : List SV) : encs Ev ys = ys.map SV.v := by
  induction ys with
  | nil => rfl
  | cons y ys ih => simp only [encs, List.flatMap_cons, List.map_cons] at ih ⊢; rw [ih]; rfl
theorem Reads.len_le {β : Type} {E : FE β} {I : Hp} {s : SV} {ys : List β} (h : Reads E I s ys) : ys.length ≤ 9223372036854775807 := by
  obtain ⟨h0, h1, h2, _⟩ := h
  have : maxLen = 9223372036854775807 := rfl
  omega
/-- A slice of slices of whole numbers that comes in. -/
theorem okWideV_introws {H : Type} {r : Reach} {base : Nat} {enc : TypeId × Value → H} {P : Program} {W : World} {held : Bool} {t e q : TypeId} {v : Value} {d : DataW H} {p : List MemPlace} (ht : P.underlying t = some (.slice e)) (he : P.underlying e = some (.slice q)) (hq : P.underlying q = some (.int .i64)) (ce : P.cellsOf e = 1) (cq : P.cellsOf q = 1)
    (hv : Value.okWide P W r base t v) (h : DataW.Trod enc P W 0 (fun _ => true) held t v d p) : ∃ (s : SV) (ss : List SV) (yss : List (List Int)), v = s.v ∧ ReadsM Ei (hp W) s ss yss ∧ (∀ r ∈ yss, ∀ x ∈ r, IntKind.i64.has x) ∧ (∀ r ∈ yss, r.length ≤ 9223372036854775807) ∧ yss.length ≤ 9223372036854775807 := by
  obtain ⟨m, hm⟩ := h
  obtain ⟨a1, n1, c1, rfl⟩ := okWideV_slice ht hv
  have hcl : (Value.slice a1 n1 c1).cells.toList = [Value.slice a1 n1 c1] := rfl
  rw [hcl] at hm
  rcases Deep.open_int_rows ht he hq ce cq hm with ⟨h1, h2⟩ | ⟨a, len, cap, A, L, C, Z, h1, _, h3, h4, _, h5⟩
  · injection h1 with h1
    exact ⟨⟨none, 0, 0⟩, [], [], h1, ⟨⟨rfl, Nat.le_refl _, by simp [maxLen], .inl rfl⟩, rfl, by simp⟩, by simp, by simp, by simp⟩
  · injection h1 with h1
    have key : ∀ r, r < len → Reads Ei (hp W) ⟨A r, L r, C r⟩ ((Z r).take (L r)) := by
      intro r hr
      obtain ⟨g1, g2, g3, g4, g5, g6, g7⟩ := h5 r (by omega)
      cases hA : A r with
      | none =>
        have := g6 hA
        have hL : L r = 0 := by omega
        rw [hL]
        exact ⟨rfl, Nat.zero_le _, g3, .inl rfl⟩
      | some a' =>
        refine reads_of (by simp; omega) (by decide) ?_ g2 g3
        intro j u hu
        rw [encs_ints, List.getElem?_map, List.getElem?_take] at hu
        split at hu
        · rename_i hj
          have hz := (g7 a' hA).2 j (by omega)
          rw [hz, ← hu]
          have : (Z r)[j]? = some ((Z r)[j]'(by omega)) := List.getElem?_eq_getElem _
          simp [List.getD, this]
        · simp at hu
    have hM : ReadsM Ei (hp W) ⟨some a, len, cap⟩ ((List.range len).map fun r => ⟨A r, L r, C r⟩) ((List.range len).map fun r => (Z r).take (L r)) := by
      refine ⟨reads_of (by simp) (by decide) ?_ h3 h4, by simp, ?_⟩
      · intro j u hu
        rw [encs_svs, List.map_map, List.getElem?_map] at hu
        by_cases hj : j < len
        · rw [List.getElem?_range hj] at hu
          have := (h5 j (by omega)).1
          rw [this, ← hu]; rfl
        · simp [hj] at hu
      · intro j u ys h1 h2
        by_cases hj : j < len
        · rw [List.getElem?_map, List.getElem?_range hj] at h1 h2
          obtain rfl := Option.some.inj h1
          obtain rfl := Option.some.inj h2
          exact key j hj
        · simp [hj] at h1
    refine ⟨⟨some a, len, cap⟩, _, _, h1, hM, ?_, ?_, hM.2.1 ▸ hM.1.len_le⟩
    · intro r hr x hx
      obtain ⟨i, hi, rfl⟩ := List.mem_map.1 hr
      have := (h5 i (by have := List.mem_range.1 hi; omega)).2.2.2.2.1 x (List.mem_of_mem_take hx)
      simp only [Lit.wf, Bool.and_eq_true, decide_eq_true_eq] at this
      exact this
    · intro r hr
      obtain ⟨i, hi, rfl⟩ := List.mem_map.1 hr
      exact (key i (List.mem_range.1 hi)).len_le

theorem mapM_get {α β : Type} {f : α → Option β} : ∀ {l : List α} {xs : List β}, l.mapM f = some xs → ∀ {i : Nat} {a : α}, l[i]? = some a → ∃ y, f a = some y
  | [], _, _, _, _, h => by simp at h
  | a :: l, xs, hm, i, b, h => by
    rw [List.mapM_cons] at hm
    obtain ⟨y, hy, h2⟩ := Option.bind_eq_some_iff.1 hm
    obtain ⟨ys, hys, _⟩ := Option.bind_eq_some_iff.1 h2
    cases i with
    | zero => simp at h; subst h; exact ⟨y, hy⟩
    | succ i => exact mapM_get hys (by simpa using h)
/-- A slice of whole numbers that is a field of a struct that comes in. -/
theorem structInts {H : Type} {enc : TypeId × Value → H} {P : Program} {W : World} {sp : Nat → Bool} {held : Bool} {t e : TypeId} {fs : Array Field} {f : Field} {cs : Array Value} {d : DataW H} {p : List MemPlace} (ht : P.underlying t = some (.struct fs)) (h : DataW.Trod enc P W 0 sp held t (.agg cs) d p) (i : Nat) (hf : fs[i]? = some f)
    (hu : P.underlying f.type = some (.slice e)) (he : P.underlying e = some (.int .i64)) (hc : P.cellsOf e = 1) (h1 : P.cellsOf f.type = 1) {o : Nat} (ho : f.offset = o) :
    ∃ (s : SV) (ys : List Int), (cs.toList.drop o).take 1 = flat [.one (SV.v s)] ∧ Reads Ei (hp W) s ys ∧ (∀ x ∈ ys, IntKind.i64.has x) := by
  obtain ⟨m, hm⟩ := h
  have hcl : (Value.agg cs).cells.toList = cs.toList := rfl
  rw [hcl] at hm
  cases m with
  | zero => simp [DataW.trod] at hm
  | succ m =>
    unfold DataW.trod at hm
    rw [ht] at hm
    simp only at hm
    split at hm
    · obtain ⟨xs, hxs, _⟩ := Option.map_eq_some_iff.1 hm
      obtain ⟨y, hy⟩ := mapM_get hxs (i := i) (a := f) (by simpa using hf)
      rw [h1, ho] at hy
      rcases ChangeShapes.open_ints hu he hc hy with ⟨g1, g2⟩ | ⟨a, len, cap, zs, g1, _, g3, g4, g5, g6, g7, g8⟩
      · exact ⟨⟨none, 0, 0⟩, [], by rw [g1]; rfl, ⟨rfl, Nat.le_refl _, by simp [maxLen], .inl rfl⟩, by simp⟩
      · have hlen : len ≤ zs.length := by rw [g5]; split <;> omega
        refine ⟨⟨some a, len, cap⟩, zs.take len, by rw [g1]; rfl, reads_of (by simp; omega) (by decide) ?_ g3 g4, ?_⟩
        · intro j u hu'
          rw [encs_ints, List.getElem?_map, List.getElem?_take] at hu'
          split at hu'
          · rename_i hj
            have hz := g7 j (by omega)
            rw [hz, ← hu']
            have : zs[j]? = some (zs[j]'(by omega)) := List.getElem?_eq_getElem _
            simp [List.getD, this]
          · simp at hu'
        · intro x hx
          have := g8 x (List.mem_of_mem_take hx)
          simp only [Lit.wf, Bool.and_eq_true, decide_eq_true_eq] at this
          exact this
    · cases hm

/-- The cells of an array of bytes that comes in. -/
theorem trod_u8s {H : Type} {enc : TypeId × Value → H} {P : Program} {W : World} {base : Nat} {sp : Nat → Bool} {held : Bool} {e q : TypeId} {N n : Nat} {cs : List Value} {x : DataW H × List MemPlace} (he : P.underlying e = some (.array N q)) (hq : P.underlying q = some (.int .u8)) (cq : P.cellsOf q = 1) (ce : P.cellsOf e = N)
    (h : DataW.trod enc P W base sp held n e cs = some x) : ∃ t : Nat → UInt8, cs = flat [.arr N (enf u8v t)] := by
  cases n with
  | zero => simp [DataW.trod] at h
  | succ n =>
    unfold DataW.trod at h
    rw [he] at h
    simp only at h
    split at h
    · rename_i hlen
      rw [ce] at hlen
      obtain ⟨xs, hxs, _⟩ := Option.map_eq_some_iff.1 h
      obtain ⟨t, ht⟩ := u8block cs.toArray 0 N (fun i _ hi => by
        obtain ⟨y, hy⟩ := mapM_get hxs (i := i) (a := i) (by rw [List.getElem?_range (by omega)])
        rw [cq, Nat.mul_one] at hy
        have hi' : i < cs.length := by omega
        rw [List.drop_eq_getElem_cons hi', List.take_succ_cons, List.take_zero] at hy
        cases n with
        | zero => simp [DataW.trod] at hy
        | succ n =>
          unfold DataW.trod at hy
          rw [hq] at hy
          cases hc : cs[i] <;> rw [hc] at hy <;> simp only at hy <;> try cases hy
          rename_i k' z
          split at hy
          · rename_i hw
            obtain ⟨rfl, hw⟩ := hw
            refine ⟨z, by simp [hi', hc], ?_⟩
            simp only [Lit.wf, Bool.and_eq_true, decide_eq_true_eq] at hw
            exact hw
          · cases hy)
      refine ⟨t, ?_⟩
      rw [← ht, List.drop_zero]
      exact (List.take_of_length_le (by omega)).symm
    · cases h
/-- A slice of arrays of bytes that comes in. -/
theorem okWideV_vecs {H : Type} {r : Reach} {base : Nat} {enc : TypeId × Value → H} {P : Program} {W : World} {held : Bool} {sp : Nat → Bool} {t e q : TypeId} {N : Nat} {v : Value} {d : DataW H} {p : List MemPlace} (ht : P.underlying t = some (.slice e)) (he : P.underlying e = some (.array N q)) (hq : P.underlying q = some (.int .u8)) (ce : P.cellsOf e = N) (cq : P.cellsOf q = 1) (hN : 0 < N)
    (hv : Value.okWide P W r base t v) (h : DataW.Trod enc P W 0 sp held t v d p) : ∃ (s : SV) (ys : List (Nat → UInt8)), v = s.v ∧ Reads (Evec N) (hp W) s ys ∧ ys.length ≤ 9223372036854775807 := by
  obtain ⟨m, hm⟩ := h
  obtain ⟨a1, n1, c1, rfl⟩ := okWideV_slice ht hv
  have hcl : (Value.slice a1 n1 c1).cells.toList = [Value.slice a1 n1 c1] := rfl
  rw [hcl] at hm
  rcases Deep.open_slice ht hm with ⟨h1, h2⟩ | ⟨a, len, cap, m', n', D, Pl, h1, _, h3, h4, h5, _, h7⟩
  · injection h1 with h1
    exact ⟨⟨none, 0, 0⟩, [], h1, ⟨rfl, Nat.le_refl _, by simp [maxLen], .inl rfl⟩, by simp⟩
  · injection h1 with h1
    have hlen : len ≤ m' := by rw [h5]; split <;> omega
    obtain ⟨T, hT⟩ := Deep.choose_lt (n := len) (α := Nat → UInt8) (p := fun i t => W.cells? 0 (a.add (i * N)) N = some (flat [.arr N (enf u8v t)])) (fun i hi => by
      obtain ⟨cs', g1, g2⟩ := h7 i (by omega)
      obtain ⟨t, rfl⟩ := trod_u8s he hq cq ce g2
      rw [ce] at g1
      exact ⟨t, g1⟩)
    have hR : Reads (Evec N) (hp W) ⟨some a, len, cap⟩ ((List.range len).map T) := by
      refine reads_of (by simp) hN ?_ h3 h4
      intro j u hu
      have hjl : j < len * N := by
        have := (List.getElem?_eq_some_iff.1 hu).1
        rw [encs_length] at this
        simpa [Evec] using this
      have hjd : j / N < len := by rw [Nat.div_lt_iff_lt_mul hN]; exact hjl
      have hjm : j % N < N := Nat.mod_lt _ hN
      have e1 : j / N * (Evec N).sz + j % N = j := by
        have := Nat.div_add_mod j N
        show j / N * N + j % N = j
        rw [Nat.mul_comm]; exact this
      have h8 := encs_get (Evec N) ((List.range len).map T) (j / N) (j % N) (T (j / N)) (by simp [hjd]) hjm
      rw [e1, hu] at h8
      obtain ⟨_, _, g3⟩ := World.cells?_some (hT (j / N) hjd)
      have h9 := (g3 (j % N) hjm).trans h8.symm
      rw [Deep.add_add] at h9
      rw [show j / N * N + j % N = j from e1] at h9
      exact h9
    exact ⟨⟨some a, len, cap⟩, _, h1, hR, hR.len_le⟩
end Go.Sx
