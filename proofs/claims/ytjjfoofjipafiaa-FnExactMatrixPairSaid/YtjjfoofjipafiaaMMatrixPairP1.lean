/- Plain laws. -/
import Derived.Test.YtjjfoofjipafiaaMMatrixPair6
import Derived.ProofKit
import Derived.OpenShut
import Derived.ShutString
import Derived.ChangeOld
import Derived.Carry
import Derived.SizedLaws
import Derived.ChangeSlices
import Derived.Deep.Matrix
/- Pl: plain laws of the loops, and of whole numbers. -/
namespace Go.Sx

theorem loopN_mono {σ ρ : Type} {f : σ → Option (LR σ ρ)} : ∀ {k s o}, loopN f k s = some o → ∀ {k'}, k ≤ k' → loopN f k' s = some o
  | 0, _, _, h, _, _ => by cases h
  | k + 1, s, o, h, k', hk => by
    obtain ⟨j, rfl⟩ : ∃ j, k' = j + 1 := ⟨k' - 1, by omega⟩
    simp only [loopN] at h ⊢
    split at h
    · cases h
    · exact loopN_mono h (by omega)
    · exact h
    · exact h

theorem loop_run {σ ρ : Type} {f : σ → Option (LR σ ρ)} (Inv : σ → Prop) (m : σ → Nat) (Q : LO σ ρ → Prop)
    (h : ∀ s, Inv s → (∃ s', f s = some (.next s') ∧ Inv s' ∧ m s' < m s) ∨ (∃ s', f s = some (.brk s') ∧ Q (.brk s')) ∨ (∃ r, f s = some (.ret r) ∧ Q (.ret r)))
    (s : σ) (hs : Inv s) (hm : m s < 4611686018427387904) : ∃ o, loop f s = some o ∧ Q o := by
  have key : ∀ k s, Inv s → m s < k → ∃ o, loopN f k s = some o ∧ Q o := by
    intro k
    induction k with
    | zero => intro s _ h; omega
    | succ k ih =>
      intro s hs hm
      rcases h s hs with ⟨s', h1, h2, h3⟩ | ⟨s', h1, h2⟩ | ⟨r, h1, h2⟩
      · obtain ⟨o, ho, hq⟩ := ih s' h2 (by omega)
        exact ⟨o, by simp only [loopN, h1]; exact ho, hq⟩
      · exact ⟨_, by simp only [loopN, h1], h2⟩
      · exact ⟨_, by simp only [loopN, h1], h2⟩
  obtain ⟨o, ho, hq⟩ := key (m s + 1) s hs (by omega)
  exact ⟨o, loopN_mono ho (by unfold FUEL; omega), hq⟩

theorem loop1_of {σ : Type} {f : σ → Option (LB σ)} {s s' : σ} (h : loop (ρ := Empty) (fun s => (f s).map LB.lr) s = some (.brk s')) : loop1 f s = some s' := by
  unfold loop1; rw [h]

theorem loop1_run {σ : Type} {f : σ → Option (LB σ)} (Inv : σ → Prop) (m : σ → Nat) (Q : σ → Prop)
    (h : ∀ s, Inv s → (∃ s', f s = some (.next s') ∧ Inv s' ∧ m s' < m s) ∨ (∃ s', f s = some (.brk s') ∧ Q s'))
    (s : σ) (hs : Inv s) (hm : m s < 4611686018427387904) : ∃ o, loop1 f s = some o ∧ Q o := by
  obtain ⟨o, ho, hq⟩ := loop_run (ρ := Empty) (f := fun s => (f s).map LB.lr) Inv m (fun o => match o with | .brk s => Q s | .ret r => nomatch r) (by
    intro s hs
    rcases h s hs with ⟨s', h1, h2, h3⟩ | ⟨s', h1, h2⟩
    · exact .inl ⟨s', by rw [h1]; rfl, h2, h3⟩
    · exact .inr (.inl ⟨s', by rw [h1]; rfl, h2⟩)) s hs hm
  cases o with
  | brk s' => exact ⟨s', loop1_of ho, hq⟩
  | ret r => exact nomatch r

theorem loop_of {σ ρ : Type} {f : σ → Option (LR σ ρ)} {s : σ} {o : LO σ ρ} {k : Nat} (h : loopN f k s = some o) (hk : k ≤ 4611686018427387904) : loop f s = some o :=
  loopN_mono h (by unfold FUEL; omega)

/-- A loop that counts up to n, and leaves by its end. -/
theorem loop_upto {σ ρ : Type} {f : σ → Option (LR σ ρ)} (S : Nat → σ) (n : Nat) (b : σ) (hn : n < 4611686018427387904) (step : ∀ i, i < n → f (S i) = some (.next (S (i + 1)))) (fin : f (S n) = some (.brk b)) : loop f (S 0) = some (.brk b) := by
  have key : ∀ d i, i + d = n → loopN f (d + 1) (S i) = some (.brk b) := by
    intro d
    induction d with
    | zero => intro i hi; obtain rfl : i = n := by omega
              simp only [loopN, fin]
    | succ d ih => intro i hi; rw [loopN, step i (by omega)]; exact ih (i + 1) (by omega)
  exact loop_of (key n 0 (by omega)) (by omega)
theorem loop1_upto {σ : Type} {f : σ → Option (LB σ)} (S : Nat → σ) (n : Nat) (b : σ) (hn : n < 4611686018427387904) (step : ∀ i, i < n → f (S i) = some (.next (S (i + 1)))) (fin : f (S n) = some (.brk b)) : loop1 f (S 0) = some b :=
  loop1_of (loop_upto (ρ := Empty) (f := fun s => (f s).map LB.lr) S n b hn (fun i hi => by rw [step i hi]; rfl) (by rw [fin]; rfl))

/-- A loop that counts up to n and looks for something. -/
theorem loop_find {σ ρ : Type} {f : σ → Option (LR σ ρ)} (S : Nat → σ) (n : Nat) (bad : Nat → Bool) (r : Nat → ρ) (b : σ) (hn : n < 4611686018427387904)
    (step : ∀ i, i < n → f (S i) = some (bif bad i then .ret (r i) else .next (S (i + 1)))) (fin : f (S n) = some (.brk b)) :
    loop f (S 0) = some (match (List.range n).find? bad with | some i => .ret (r i) | none => .brk b) := by
  have key : ∀ d i, i + d = n → loopN f (d + 1) (S i) = some (match (List.range' i d).find? bad with | some i => .ret (r i) | none => .brk b) := by
    intro d
    induction d with
    | zero => intro i hi; obtain rfl : i = n := by omega
              simp only [loopN, fin]; rfl
    | succ d ih =>
      intro i hi
      rw [loopN, step i (by omega), List.range'_succ, List.find?_cons]
      cases hb : bad i with
      | true => rfl
      | false => exact ih (i + 1) (by omega)
  rw [List.range_eq_range']
  exact loop_of (key n 0 (by omega)) (by omega)
theorem loop_any {σ ρ : Type} {f : σ → Option (LR σ ρ)} (S : Nat → σ) (n : Nat) (bad : Nat → Bool) (r : ρ) (b : σ) (hn : n < 4611686018427387904)
    (step : ∀ i, i < n → f (S i) = some (bif bad i then .ret r else .next (S (i + 1)))) (fin : f (S n) = some (.brk b)) :
    loop f (S 0) = some (bif (List.range n).any bad then .ret r else .brk b) := by
  rw [loop_find S n bad (fun _ => r) b hn step fin]
  cases hf : (List.range n).find? bad with
  | none =>
    have : (List.range n).any bad = false := by
      rw [List.any_eq_false]; intro x hx; have := List.find?_eq_none.1 hf x hx; simpa using this
    rw [this]; rfl
  | some i =>
    have : (List.range n).any bad = true := List.any_eq_true.2 ⟨i, List.mem_of_find?_eq_some hf, List.find?_some hf⟩
    rw [this]; rfl

theorem w64_in {x : Int} (h : -9223372036854775808 ≤ x ∧ x ≤ 9223372036854775807) : w64 x = x := IntWalk.i64_in x h
theorem w64_succ {i : Nat} (h : i < 4611686018427387904) : w64 ((i : Int) + 1) = ((i + 1 : Nat) : Int) := by rw [w64_in (by omega)]; omega
theorem w64_pred {i : Nat} (h : i < 4611686018427387904) : w64 (((i + 1 : Nat) : Int) - 1) = (i : Int) := by rw [w64_in (by omega)]; omega
theorem chk_in {α : Type} {i : Int} {n : Nat} {k : Option α} (h : 0 ≤ i ∧ i < n) : chk i n k = k := if_pos h
theorem nz_in {α : Type} {b : Int} {k : Option α} (h : b ≠ 0) : nz b k = k := if_neg h
theorem small_in {α : Type} {n : Nat} {k : Option α} (h : n ≤ 1099511627776) : small n k = k := if_pos h
theorem dlt_nat (i n : Nat) : decide ((i : Int) < (n : Int)) = decide (i < n) := by simp
theorem beq_nat (a b : Nat) : ((a : Int) == (b : Int)) = decide (a = b) := by rw [Bool.eq_iff_iff]; simp; omega
theorem beq_nat0 (a : Nat) : ((a : Int) == 0) = decide (a = 0) := by rw [Bool.eq_iff_iff]; simp
theorem bne_nat (a b : Nat) : ((a : Int) != (b : Int)) = !decide (a = b) := by rw [bne, beq_nat]
theorem bne_nat0 (a : Nat) : ((a : Int) != 0) = !decide (a = 0) := by rw [bne, beq_nat0]
theorem any_congr {n : Nat} {p q : Nat → Bool} (h : ∀ i, i < n → p i = q i) : (List.range n).any p = (List.range n).any q := by
  rw [Bool.eq_iff_iff]
  simp only [List.any_eq_true, List.mem_range]
  constructor
  · rintro ⟨i, hi, hp⟩; exact ⟨i, hi, by rw [← h i hi]; exact hp⟩
  · rintro ⟨i, hi, hp⟩; exact ⟨i, hi, by rw [h i hi]; exact hp⟩
end Go.Sx

/- Slices of numbers that are searched. -/
namespace Go.Proofs.Ytjjfoofjipafiaa.G
open Go Go.Sx Go.Proofs
theorem gt_ix {α : Type} [Inhabited α] {a : List α} {i : Nat} (h : i < a.length) : gt a (i : Int) = a[i] := by simp [gt, List.getD, h]
theorem any_ix {α : Type} [Inhabited α] (a : List α) (p : α → Bool) : (List.range a.length).any (fun (i : Nat) => p (gt a (i : Int))) = a.any p := by
  rw [Bool.eq_iff_iff, List.any_eq_true, List.any_eq_true]
  constructor
  · rintro ⟨i, hi, h⟩
    have hi' := List.mem_range.1 hi
    exact ⟨a[i], List.getElem_mem _, by rwa [gt_ix hi'] at h⟩
  · rintro ⟨x, hx, h⟩
    obtain ⟨i, hi, rfl⟩ := List.mem_iff_getElem.1 hx
    exact ⟨i, List.mem_range.2 hi, by rw [gt_ix hi]; exact h⟩
theorem found {n : Nat} (p : Nat → Bool) (b : Int) : (((some (match (List.range n).find? p with | some i => LO.ret ((i : Nat) : Int) | none => LO.brk b) : Option (LO Int Int)).bind (ln fun _ => some (-1))).bind fun r_1 => some (decide (r_1 ≥ 0))) = some ((List.range n).any p) := by
  cases hfd : (List.range n).find? p with
  | none =>
    have : (List.range n).any p = false := by
      rw [List.any_eq_false]; intro x hx; have := List.find?_eq_none.1 hfd x hx; simpa using this
    rw [this]; rfl
  | some i =>
    have : (List.range n).any p = true := List.any_eq_true.2 ⟨i, List.mem_of_find?_eq_some hfd, List.find?_some hfd⟩
    rw [this]
    have hd : decide ((i : Int) ≥ 0) = true := by simp
    simp only [Option.bind_some, ln, hd]
theorem hasVal (a : List Int) (h : a.length < 1000000) (v : Int) : slices_Contains_int64_int64.f a v = some (a.any fun x => v == x) := by
  unfold slices_Contains_int64_int64.f slices_Index_int64_int64.f
  have hl := loop_find (f := slices_Index_int64_int64.b0 a v) (fun i => (i : Int)) a.length (fun (i : Nat) => v == gt a (i : Int)) (fun i => (i : Int)) (a.length : Int) (by omega) (fun i hi => by
    unfold slices_Index_int64_int64.b0
    simp only [dlt_nat, hi, decide_true, cond_true]
    rw [chk_in (by omega), w64_succ (by omega)]
    cases v == gt a (i : Int) <;> rfl) (by
    unfold slices_Index_int64_int64.b0
    simp)
  have hl' : loop (slices_Index_int64_int64.b0 a v) 0 = _ := hl
  rw [hl', ← any_ix a (fun x => v == x)]
  exact found _ _
end Go.Proofs.Ytjjfoofjipafiaa.G

/- The primes that are allowed, told by both. -/
namespace Go.Proofs.Ytjjfoofjipafiaa.G
open Go Go.Sx Go.Proofs
def primeB (p : Int) : Bool := ((((((p == 2) || (p == 3)) || (p == 5)) || (p == 7)) || (p == 11)) || (p == 13))
theorem specPrime (p : Int) : spec_l01Prime.f p = some (primeB p) := rfl
theorem implPrime (p : Int) : impl_isPrime.f p = some (primeB p) := by
  unfold impl_isPrime.f
  rw [hasVal _ (by simp)]
  simp only [Option.bind_some, List.any_cons, List.any_nil, Bool.or_false, primeB, Bool.or_assoc]
theorem primeB_le {p : Int} (h : primeB p = true) : 2 ≤ p ∧ p ≤ 13 := by
  unfold primeB at h
  simp only [Bool.or_eq_true, beq_iff_eq] at h
  omega
end Go.Proofs.Ytjjfoofjipafiaa.G

/- The law of MatrixPair tells true. -/
namespace Go.Proofs.Ytjjfoofjipafiaa.G
open Go Go.Sx Go.Proofs
def mpCheck (p : Nat) : Bool := (List.range (p - 1)).all fun s => decide (laws_FnExactMatrixPair.f (p : Int) ((s + 1 : Nat) : Int) = some true)
set_option maxRecDepth 100000 in
theorem mp_tab2 : mpCheck 2 = true := by decide +kernel
set_option maxRecDepth 100000 in
theorem mp_tab3 : mpCheck 3 = true := by decide +kernel
set_option maxRecDepth 100000 in
theorem mp_tab5 : mpCheck 5 = true := by decide +kernel
set_option maxRecDepth 100000 in
theorem mp_tab7 : mpCheck 7 = true := by decide +kernel
set_option maxRecDepth 100000 in
theorem mp_tab11 : mpCheck 11 = true := by decide +kernel
set_option maxRecDepth 100000 in
theorem mp_tab13 : mpCheck 13 = true := by decide +kernel
set_option maxRecDepth 100000 in
theorem mp_zero : laws_eqPair.f 0 0 (fun _ => (0 : UInt8)) (fun _ => (0 : UInt8)) 0 0 (fun _ => (0 : UInt8)) (fun _ => (0 : UInt8)) (fun _ => (0 : UInt8)) 0 0 (fun _ => (0 : UInt8)) (fun _ => (0 : UInt8)) 0 0 (fun _ => (0 : UInt8)) (fun _ => (0 : UInt8)) (fun _ => (0 : UInt8)) = some true := by decide +kernel
theorem mp_all {p : Nat} (h : p = 2 ∨ p = 3 ∨ p = 5 ∨ p = 7 ∨ p = 11 ∨ p = 13) : mpCheck p = true := by
  rcases h with rfl | rfl | rfl | rfl | rfl | rfl
  · exact mp_tab2
  · exact mp_tab3
  · exact mp_tab5
  · exact mp_tab7
  · exact mp_tab11
  · exact mp_tab13
theorem plain_FnExactMatrixPair (p s : Int) (_wp : IntKind.i64.has p) (_ws : IntKind.i64.has s) : laws_FnExactMatrixPair.f p s = some true := by
  by_cases hp : primeB p = true
  · have hpb := primeB_le hp
    by_cases hs : 1 ≤ s ∧ s ≤ p - 1
    · obtain ⟨q, rfl⟩ := Int.eq_ofNat_of_zero_le (show 0 ≤ p by omega)
      obtain ⟨r, rfl⟩ : ∃ r : Nat, s = ((r + 1 : Nat) : Int) := ⟨s.toNat - 1, by omega⟩
      have hq : q = 2 ∨ q = 3 ∨ q = 5 ∨ q = 7 ∨ q = 11 ∨ q = 13 := by
        unfold primeB at hp
        simp only [Bool.or_eq_true, beq_iff_eq] at hp
        omega
      have hc := List.all_eq_true.1 (mp_all hq) r (List.mem_range.2 (by omega))
      exact of_decide_eq_true hc
    · have e0 : (decide (s ≥ 1) && decide (s ≤ p - 1)) = false := by
        rw [Bool.and_eq_false_iff, decide_eq_false_iff_not, decide_eq_false_iff_not]; omega
      unfold laws_FnExactMatrixPair.f spec_MatrixPair.f impl_MatrixPair.f spec_l01In.f impl_in.f
      rw [specPrime, implPrime, hp, w64_in (x := p - 1) (by omega), e0]
      simp only [Option.bind_some, Bool.not_true, Bool.not_false, cond_true, cond_false, mp_zero, bne_self_eq_false, Bool.or_false]
  · have hp' : primeB p = false := by simpa using hp
    unfold laws_FnExactMatrixPair.f spec_MatrixPair.f impl_MatrixPair.f
    rw [specPrime, implPrime, hp']
    simp only [Option.bind_some, Bool.not_true, Bool.not_false, cond_true, cond_false, mp_zero, bne_self_eq_false, Bool.or_false]
end Go.Proofs.Ytjjfoofjipafiaa.G

/- Arg: a law's arguments, as they come in, in the calculus' own words. -/
namespace Go.Sx
open Go.RowKit

theorem okWide_agg {P : Program} {W : World} {r : Reach} {base : Nat} {t : TypeId} {v : Value} {ts : List TypeId} (ht : (match P.underlying t with | some (.struct _) | some (.array _ _) => true | _ => false) = true) (hts : P.cellTypes P.depth t = some ts) (h : Value.okWide P W r base t v) :
    ∃ cs, v = .agg cs ∧ cs.size = P.cellsOf t ∧ ∀ i u, cs[i]? = some u → ∃ k, ts[i % ts.length]? = some k ∧ Cell.okWide P W r base k u := by
  unfold Value.okWide at h
  split at h
  · obtain ⟨cs, h1, h2, ts', h3, _, h4⟩ := h
    rw [hts] at h3; obtain rfl := Option.some.inj h3
    exact ⟨cs, h1, h2, h4⟩
  · obtain ⟨cs, h1, h2, ts', h3, _, h4⟩ := h
    rw [hts] at h3; obtain rfl := Option.some.inj h3
    exact ⟨cs, h1, h2, h4⟩
  · rename_i h1 h2
    exfalso
    split at ht
    · exact h1 _ ‹_›
    · exact h2 _ _ ‹_›
    · cases ht

theorem okWide_int {P : Program} {W : World} {r : Reach} {base : Nat} {t : TypeId} {k : IntKind} {v : Value} (ht : P.underlying t = some (.int k)) (h : Cell.okWide P W r base t v) : ∃ n, v = .int k n ∧ k.has n := by
  unfold Cell.okWide at h
  rw [ht] at h
  unfold Cell.ok at h
  rw [ht] at h
  cases v <;> simp at h
  rename_i k' n
  obtain ⟨rfl, h2⟩ := h
  exact ⟨n, rfl, h2⟩

theorem u8block (cs : Array Value) (o m : Nat) (h : ∀ i, o ≤ i → i < o + m → ∃ n, cs[i]? = some (.int .u8 n) ∧ IntKind.u8.has n) : ∃ t : Nat → UInt8, (cs.toList.drop o).take m = flat [.arr m (enf u8v t)] := by
  refine ⟨fun k => match cs[o + k]? with | some (.int _ n) => UInt8.ofInt n | _ => 0, ?_⟩
  apply List.ext_getElem?
  intro i
  simp only [flat, Seg.cells, List.append_nil, List.getElem?_take, List.getElem?_drop, List.getElem?_map]
  by_cases hi : i < m
  · obtain ⟨n, hn, hw⟩ := h (o + i) (by omega) (by omega)
    have hn' : cs.toList[o + i]? = some (.int .u8 n) := by simpa using hn
    rw [if_pos hi, List.getElem?_range hi, hn']
    simp only [Option.map_some, enf, hn]
    congr 1
    rw [← conv_i64_u8]
    congr 1
    have hw' : 0 ≤ n ∧ n ≤ 255 := by
      simp only [IntKind.has, IntKind.min, IntKind.max, IntKind.signed, IntKind.bits] at hw
      simpa using hw
    rw [IntKind.wrap_u8]; omega
  · rw [if_neg hi]
    simp [hi]

theorem okWideV_int {P : Program} {W : World} {r : Reach} {base : Nat} {t : TypeId} {k : IntKind} {v : Value} (ht : P.underlying t = some (.int k)) (h : Value.okWide P W r base t v) : ∃ n, v = .int k n ∧ k.has n := by
  unfold Value.okWide at h
  rw [ht] at h
  exact okWide_int ht h
theorem okWideV_string {P : Program} {W : World} {r : Reach} {base : Nat} {t : TypeId} {v : Value} (ht : P.underlying t = some .string) (h : Value.okWide P W r base t v) : ∃ l : Str, v = strv l := by
  unfold Value.okWide at h
  rw [ht] at h
  simp only at h
  unfold Cell.okWide at h
  rw [ht] at h
  unfold Cell.ok at h
  rw [ht] at h
  cases v <;> simp at h
  rename_i s
  exact ⟨s.data.toList, by simp [strv]⟩
theorem i64cell (cs : Array Value) (o : Nat) (ho : o < cs.size) (h : ∀ u, cs[o]? = some u → ∃ n, u = .int .i64 n ∧ IntKind.i64.has n) : ∃ x, (cs.toList.drop o).take 1 = flat [.one (.int .i64 x)] ∧ IntKind.i64.has x := by
  obtain ⟨n, hn, hw⟩ := h cs[o] (by simp [ho])
  refine ⟨n, ?_, hw⟩
  have hl : o < cs.toList.length := by simpa using ho
  rw [List.drop_eq_getElem_cons hl, List.take_succ_cons, List.take_zero]
  simp [flat, Seg.cells, hn]
def pieces (l : List Value) : Nat → List Nat → List Value
  | _, [] => []
  | o, m :: r => (l.drop o).take m ++ pieces l (o + m) r
theorem pieces_eq (l : List Value) : ∀ (ns : List Nat) (o : Nat), l.length = o + ns.sum → pieces l o ns = l.drop o
  | [], o, h => by
    simp only [List.sum_nil, Nat.add_zero] at h
    simp [pieces, h]
  | m :: r, o, h => by
    simp only [List.sum_cons] at h
    rw [pieces, pieces_eq l r (o + m) (by omega), ← List.drop_drop, List.take_append_drop]

theorem encs_ints (ys : List Int) : encs Ei ys = ys.map (Value.int .i64) := by
  induction ys with
  | nil => rfl
  | cons y ys ih => simp only [encs, List.flatMap_cons, List.map_cons] at ih ⊢; rw [ih]; rfl
theorem okWideV_slice {P : Program} {W : World} {r : Reach} {base : Nat} {t e : TypeId} {v : Value} (ht : P.underlying t = some (.slice e)) (h : Value.okWide P W r base t v) : ∃ a n c, v = .slice a n c := by
  unfold Value.okWide at h
  rw [ht] at h
  simp only at h
  unfold Cell.okWide at h
  rw [ht] at h
  simp only at h
  unfold Cell.ok at h
  rw [ht] at h
  cases v <;> simp at h
  exact ⟨_, _, _, rfl⟩
/-- A slice of whole numbers that comes in. -/
theorem okWideV_ints {H : Type} {r : Reach} {base : Nat} {enc : TypeId × Value → H} {P : Program} {W : World} {sp : Nat → Bool} {held : Bool} {t e : TypeId} {v : Value} {d : DataW H} {p : List MemPlace} (ht : P.underlying t = some (.slice e)) (he : P.underlying e = some (.int .i64)) (hc : P.cellsOf e = 1)
    (hv : Value.okWide P W r base t v) (h : DataW.Trod enc P W 0 sp held t v d p) : ∃ (s : SV) (ys : List Int) (el spare : List (DataW H)), v = s.v ∧ Reads Ei (hp W) s ys ∧ (∀ x ∈ ys, IntKind.i64.has x) ∧ ((d = .nil ∧ ys = []) ∨ (d = .slice el spare ∧ ys.length = el.length + 0)) := by
  obtain ⟨m, hm⟩ := h
  obtain ⟨a1, n1, c1, rfl⟩ := okWideV_slice ht hv
  have hcl : (Value.slice a1 n1 c1).cells.toList = [Value.slice a1 n1 c1] := rfl
  rw [hcl] at hm
  rcases ChangeShapes.open_ints ht he hc hm with ⟨h1, h2⟩ | ⟨a, len, cap, zs, h1, _, h3, h4, h5, h6, h7, h8⟩
  · injection h1 with h1
    injection h2 with h2
    exact ⟨⟨none, 0, 0⟩, [], [], [], h1, ⟨rfl, Nat.le_refl _, by simp [maxLen], .inl rfl⟩, by simp, .inl ⟨h2, rfl⟩⟩
  · injection h1 with h1
    injection h6 with h6
    have hlen : len ≤ zs.length := by rw [h5]; split <;> omega
    refine ⟨⟨some a, len, cap⟩, zs.take len, _, _, h1, ⟨by simp; omega, h3, h4, ?_⟩, ?_, .inr ⟨h6, by simp [ChangeShapes.lits]⟩⟩
    · by_cases hl : len = 0
      · left; subst hl; simp
      · right
        have h0 := h7 0 (by omega)
        obtain ⟨b, o, sp'⟩ := a
        have e0 : (⟨b, o, sp'⟩ : Addr).add 0 = ⟨b, o, sp'⟩ := by simp [Addr.add]
        rw [e0] at h0
        unfold World.cell? at h0
        split at h0
        · rename_i cs T fr hb
          have hsp : sp' = none := by
            cases sp' with
            | none => rfl
            | some x => simp at h0
          subst hsp
          refine ⟨b, o, cs, T, fr, rfl, hb, ?_⟩
          intro j u hu
          rw [encs_ints, List.getElem?_map, List.getElem?_take] at hu
          split at hu
          · rename_i hj
            have hz := h7 j (by omega)
            rw [add_none, cell_at hb] at hz
            rw [hz, ← hu]
            have : zs[j]? = some (zs[j]'(by omega)) := List.getElem?_eq_getElem _
            simp [List.getD, this]
          · simp at hu
        · cases h0
    · intro x hx
      have := h8 x (List.mem_of_mem_take hx)
      simp only [Lit.wf, Bool.and_eq_true, decide_eq_true_eq] at this
      exact this

theorem reads_of {β : Type} {E : FE β} {W : World} {a : Addr} {n cap : Nat} {ys : List β} (hn : n = ys.length) (hpos : 0 < E.sz) (hc : ∀ (j : Nat) (u : Value), (encs E ys)[j]? = some u → W.cell? (a.add j) = some u) (h1 : n ≤ cap) (h2 : cap ≤ maxLen) : Reads E (hp W) ⟨some a, n, cap⟩ ys := by
  subst hn
  refine ⟨rfl, h1, h2, ?_⟩
  cases ys with
  | nil => exact .inl rfl
  | cons y ys =>
    right
    have hl : 0 < (encs E (y :: ys)).length := by rw [encs_length, List.length_cons, Nat.add_mul]; omega
    have h0 := hc 0 _ (List.getElem?_eq_getElem hl)
    obtain ⟨b, o, sp'⟩ := a
    have e0 : (⟨b, o, sp'⟩ : Addr).add 0 = ⟨b, o, sp'⟩ := by simp [Addr.add]
    rw [e0] at h0
    unfold World.cell? at h0
    split at h0
    · rename_i cs T fr hb
      have hsp : sp' = none := by
        cases sp' with
        | none => rfl
        | some x => simp at h0
      subst hsp
      refine ⟨b, o, cs, T, fr, rfl, hb, ?_⟩
      intro j u hu
      have := hc j u hu
      rwa [add_none, cell_at hb] at this
    · cases h0
theorem encs_svs (ys : List SV) : encs Ev ys = ys.map SV.v := by
  induction ys with
  | nil => rfl
  | cons y ys ih => simp only [encs, List.flatMap_cons, List.map_cons] at ih ⊢; rw [ih]; rfl
theorem Reads.len_le {β : Type} {E : FE β} {I : Hp} {s : SV} {ys : List β} (h : Reads E I s ys) : ys.length ≤ 9223372036854775807 := by
  obtain ⟨h0, h1, h2, _⟩ := h
  have : maxLen = 9223372036854775807 := rfl
  omega
/-- A slice of slices of whole numbers that comes in. -/
theorem okWideV_introws {H : Type} {r : Reach} {base : Nat} {enc : TypeId × Value → H} {P : Program} {W : World} {held : Bool} {t e q : TypeId} {v : Value} {d : DataW H} {p : List MemPlace} (ht : P.underlying t = some (.slice e)) (he : P.underlying e = some (.slice q)) (hq : P.underlying q = some (.int .i64)) (ce : P.cellsOf e = 1) (cq : P.cellsOf q = 1)
    (hv : Value.okWide P W r base t v) (h : DataW.Trod enc P W 0 (fun _ => true) held t v d p) : ∃ (s : SV) (ss : List SV) (yss : List (List Int)), v = s.v ∧ ReadsM Ei (hp W) s ss yss ∧ (∀ r ∈ yss, ∀ x ∈ r, IntKind.i64.has x) ∧ (∀ r ∈ yss, r.length ≤ 9223372036854775807) ∧ yss.length ≤ 9223372036854775807 := by
  obtain ⟨m, hm⟩ := h
  obtain ⟨a1, n1, c1, rfl⟩ := okWideV_slice ht hv
  have hcl : (Value.slice a1 n1 c1).cells.toList = [Value.slice a1 n1 c1] := rfl
  rw [hcl] at hm
  rcases Deep.open_int_rows ht he hq ce cq hm with ⟨h1, h2⟩ | ⟨a, len, cap, A, L, C, Z, h1, _, h3, h4, _, h5⟩
  · injection h1 with h1
    exact ⟨⟨none, 0, 0⟩, [], [], h1, ⟨⟨rfl, Nat.le_refl _, by simp [maxLen], .inl rfl⟩, rfl, by simp⟩, by simp, by simp, by simp⟩
  · injection h1 with h1
    have key : ∀ r, r < len → Reads Ei (hp W) ⟨A r, L r, C r⟩ ((Z r).take (L r)) := by
      intro r hr
      obtain ⟨g1, g2, g3, g4, g5, g6, g7⟩ := h5 r (by omega)
      cases hA : A r with
      | none =>
        have := g6 hA
        have hL : L r = 0 := by omega
        rw [hL]
        exact ⟨rfl, Nat.zero_le _, g3, .inl rfl⟩
      | some a' =>
        refine reads_of (by simp; omega) (by decide) ?_ g2 g3
        intro j u hu
        rw [encs_ints, List.getElem?_map, List.getElem?_take] at hu
        split at hu
        · rename_i hj
          have hz := (g7 a' hA).2 j (by omega)
          rw [hz, ← hu]
          have : (Z r)[j]? = some ((Z r)[j]'(by omega)) := List.getElem?_eq_getElem _
          simp [List.getD, this]
        · simp at hu
    have hM : ReadsM Ei (hp W) ⟨some a, len, cap⟩ ((List.range len).map fun r => ⟨A r, L r, C r⟩) ((List.range len).map fun r => (Z r).take (L r)) := by
      refine ⟨reads_of (by simp) (by decide) ?_ h3 h4, by simp, ?_⟩
      · intro j u hu
        rw [encs_svs, List.map_map, List.getElem?_map] at hu
        by_cases hj : j < len
        · rw [List.getElem?_range hj] at hu
          have := (h5 j (by omega)).1
          rw [this, ← hu]; rfl
        · simp [hj] at hu
      · intro j u ys h1 h2
        by_cases hj : j < len
        · rw [List.getElem?_map, List.getElem?_range hj] at h1 h2
          obtain rfl := Option.some.inj h1
          obtain rfl := Option.some.inj h2
          exact key j hj
        · simp [hj] at h1
    refine ⟨⟨some a, len, cap⟩, _, _, h1, hM, ?_, ?_, hM.2.1 ▸ hM.1.len_le⟩
    · intro r hr x hx
      obtain ⟨i, hi, rfl⟩ := List.mem_map.1 hr
      have := (h5 i (by have := List.mem_range.1 hi; omega)).2.2.2.2.1 x (List.mem_of_mem_take hx)
      simp only [Lit.wf, Bool.and_eq_true, decide_eq_true_eq] at this
      exact this
    · intro r hr
      obtain ⟨i, hi, rfl⟩ := List.mem_map.1 hr
      exact (key i (List.mem_range.1 hi)).len_le

theorem mapM_get {α β : Type} {f : α → Option β} : ∀ {l : List α} {xs : List β}, l.mapM f = some xs → ∀ {i : Nat} {a : α}, l[i]? = some a → ∃ y, f a = some y
  | [], _, _, _, _, h => by simp at h
  | a :: l, xs, hm, i, b, h => by
    rw [List.mapM_cons] at hm
    obtain ⟨y, hy, h2⟩ := Option.bind_eq_some_iff.1 hm
    obtain ⟨ys, hys, _⟩ := Option.bind_eq_some_iff.1 h2
    cases i with
    | zero => simp at h; subst h; exact ⟨y, hy⟩
    | succ i => exact mapM_get hys (by simpa using h)
/-- A slice of whole numbers that is a field of a struct that comes in. -/
theorem structInts {H : Type} {enc : TypeId × Value → H} {P : Program} {W : World} {sp : Nat → Bool} {held : Bool} {t e : TypeId} {fs : Array Field} {f : Field} {cs : Array Value} {d : DataW H} {p : List MemPlace} (ht : P.underlying t = some (.struct fs)) (h : DataW.Trod enc P W 0 sp held t (.agg cs) d p) (i : Nat) (hf : fs[i]? = some f)
    (hu : P.underlying f.type = some (.slice e)) (he : P.underlying e = some (.int .i64)) (hc : P.cellsOf e = 1) (h1 : P.cellsOf f.type = 1) {o : Nat} (ho : f.offset = o) :
    ∃ (s : SV) (ys : List Int), (cs.toList.drop o).take 1 = flat [.one (SV.v s)] ∧ Reads Ei (hp W) s ys ∧ (∀ x ∈ ys, IntKind.i64.has x) := by
  obtain ⟨m, hm⟩ := h
  have hcl : (Value.agg cs).cells.toList = cs.toList := rfl
  rw [hcl] at hm
  cases m with
  | zero => simp [DataW.trod] at hm
  | succ m =>
    unfold DataW.trod at hm
    rw [ht] at hm
    simp only at hm
    split at hm
    · obtain ⟨xs, hxs, _⟩ := Option.map_eq_some_iff.1 hm
      obtain ⟨y, hy⟩ := mapM_get hxs (i := i) (a := f) (by simpa using hf)
      rw [h1, ho] at hy
      rcases ChangeShapes.open_ints hu he hc hy with ⟨g1, g2⟩ | ⟨a, len, cap, zs, g1, _, g3, g4, g5, g6, g7, g8⟩
      · exact ⟨⟨none, 0, 0⟩, [], by rw [g1]; rfl, ⟨rfl, Nat.le_refl _, by simp [maxLen], .inl rfl⟩, by simp⟩
      · have hlen : len ≤ zs.length := by rw [g5]; split <;> omega
        refine ⟨⟨some a, len, cap⟩, zs.take len, by rw [g1]; rfl, reads_of (by simp; omega) (by decide) ?_ g3 g4, ?_⟩
        · intro j u hu'
          rw [encs_ints, List.getElem?_map, List.getElem?_take] at hu'
          split at hu'
          · rename_i hj
            have hz := g7 j (by omega)
            rw [hz, ← hu']
            have : zs[j]? = some (zs[j]'(by omega)) := List.getElem?_eq_getElem _
            simp [List.getD, this]
          · simp at hu'
        · intro x hx
          have := g8 x (List.mem_of_mem_take hx)
          simp only [Lit.wf, Bool.and_eq_true, decide_eq_true_eq] at this
          exact this
    · cases hm

/-- The cells of an array of bytes that comes in. -/
theorem trod_u8s {H : Type} {enc : TypeId × Value → H} {P : Program} {W : World} {base : Nat} {sp : Nat → Bool} {held : Bool} {e q : TypeId} {N n : Nat} {cs : List Value} {x : DataW H × List MemPlace} (he : P.underlying e = some (.array N q)) (hq : P.underlying q = some (.int .u8)) (cq : P.cellsOf q = 1) (ce : P.cellsOf e = N)
    (h : DataW.trod enc P W base sp held n e cs = some x) : ∃ t : Nat → UInt8, cs = flat [.arr N (enf u8v t)] := by
  cases n with
  | zero => simp [DataW.trod] at h
  | succ n =>
    unfold DataW.trod at h
    rw [he] at h
    simp only at h
    split at h
    · rename_i hlen
      rw [ce] at hlen
      obtain ⟨xs, hxs, _⟩ := Option.map_eq_some_iff.1 h
      obtain ⟨t, ht⟩ := u8block cs.toArray 0 N (fun i _ hi => by
        obtain ⟨y, hy⟩ := mapM_get hxs (i := i) (a := i) (by rw [List.getElem?_range (by omega)])
        rw [cq, Nat.mul_one] at hy
        have hi' : i < cs.length := by omega
        rw [List.drop_eq_getElem_cons hi', List.take_succ_cons, List.take_zero] at hy
        cases n with
        | zero => simp [DataW.trod] at hy
        | succ n =>
          unfold DataW.trod at hy
          rw [hq] at hy
          cases hc : cs[i] <;> rw [hc] at hy <;> simp only at hy <;> try cases hy
          rename_i k' z
          split at hy
          · rename_i hw
            obtain ⟨rfl, hw⟩ := hw
            refine ⟨z, by simp [hi', hc], ?_⟩
            simp only [Lit.wf, Bool.and_eq_true, decide_eq_true_eq] at hw
            exact hw
          · cases hy)
      refine ⟨t, ?_⟩
      rw [← ht, List.drop_zero]
      exact (List.take_of_length_le (by omega)).symm
    · cases h
/-- A slice of arrays of bytes that comes in. -/
theorem okWideV_vecs {H : Type} {r : Reach} {base : Nat} {enc : TypeId × Value → H} {P : Program} {W : World} {held : Bool} {sp : Nat → Bool} {t e q : TypeId} {N : Nat} {v : Value} {d : DataW H} {p : List MemPlace} (ht : P.underlying t = some (.slice e)) (he : P.underlying e = some (.array N q)) (hq : P.underlying q = some (.int .u8)) (ce : P.cellsOf e = N) (cq : P.cellsOf q = 1) (hN : 0 < N)
    (hv : Value.okWide P W r base t v) (h : DataW.Trod enc P W 0 sp held t v d p) : ∃ (s : SV) (ys : List (Nat → UInt8)), v = s.v ∧ Reads (Evec N) (hp W) s ys ∧ ys.length ≤ 9223372036854775807 := by
  obtain ⟨m, hm⟩ := h
  obtain ⟨a1, n1, c1, rfl⟩ := okWideV_slice ht hv
  have hcl : (Value.slice a1 n1 c1).cells.toList = [Value.slice a1 n1 c1] := rfl
  rw [hcl] at hm
  rcases Deep.open_slice ht hm with ⟨h1, h2⟩ | ⟨a, len, cap, m', n', D, Pl, h1, _, h3, h4, h5, _, h7⟩
  · injection h1 with h1
    exact ⟨⟨none, 0, 0⟩, [], h1, ⟨rfl, Nat.le_refl _, by simp [maxLen], .inl rfl⟩, by simp⟩
  · injection h1 with h1
    have hlen : len ≤ m' := by rw [h5]; split <;> omega
    obtain ⟨T, hT⟩ := Deep.choose_lt (n := len) (α := Nat → UInt8) (p := fun i t => W.cells? 0 (a.add (i * N)) N = some (flat [.arr N (enf u8v t)])) (fun i hi => by
      obtain ⟨cs', g1, g2⟩ := h7 i (by omega)
      obtain ⟨t, rfl⟩ := trod_u8s he hq cq ce g2
      rw [ce] at g1
      exact ⟨t, g1⟩)
    have hR : Reads (Evec N) (hp W) ⟨some a, len, cap⟩ ((List.range len).map T) := by
      refine reads_of (by simp) hN ?_ h3 h4
      intro j u hu
      have hjl : j < len * N := by
        have := (List.getElem?_eq_some_iff.1 hu).1
        rw [encs_length] at this
        simpa [Evec] using this
      have hjd : j / N < len := by rw [Nat.div_lt_iff_lt_mul hN]; exact hjl
      have hjm : j % N < N := Nat.mod_lt _ hN
      have e1 : j / N * (Evec N).sz + j % N = j := by
        have := Nat.div_add_mod j N
        show j / N * N + j % N = j
        rw [Nat.mul_comm]; exact this
      have h8 := encs_get (Evec N) ((List.range len).map T) (j / N) (j % N) (T (j / N)) (by simp [hjd]) hjm
      rw [e1, hu] at h8
      obtain ⟨_, _, g3⟩ := World.cells?_some (hT (j / N) hjd)
      have h9 := (g3 (j % N) hjm).trans h8.symm
      rw [Deep.add_add] at h9
      rw [show j / N * N + j % N = j from e1] at h9
      exact h9
    exact ⟨⟨some a, len, cap⟩, _, h1, hR, hR.len_le⟩
end Go.Sx
