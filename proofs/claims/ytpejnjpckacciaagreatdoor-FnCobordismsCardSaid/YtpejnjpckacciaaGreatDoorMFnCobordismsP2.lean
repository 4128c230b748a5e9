/- Plain laws. -/
import Derived.Test.YtpejnjpckacciaaGreatDoorMFnCobordismsP1
import Derived.ProofKit
import Derived.OpenShut
import Derived.ShutString
import Derived.ChangeOld
import Derived.Carry
import Derived.SizedLaws
import Derived.ChangeSlices
import Derived.Deep.Matrix
set_option linter.unusedVariables false
namespace Go.Proofs.YtpejnjpckacciaaGreatDoor.G
open Go Go.Sx Go.Proofs Go.Shelf
theorem lgs_split : ∀ {l r : Str} {a b : Nat}, lgs (l ++ r) = some (a, b) → ∃ a1 b1 a2 b2, lgs l = some (a1, b1) ∧ lgs r = some (a2, b2) ∧ a = a1 + a2 ∧ b = b1 + b2
 | [], r, a, b, h => ⟨0, 0, a, b, rfl, h, by omega, by omega⟩
 | c :: l, r, a, b, h => by
  rw [List.cons_append, lgs] at h
  split at h
  ·rename_i x y p q e1 e2
   injection h with h; injection h with h1 h2
   obtain ⟨a1, b1, a2, b2, g1, g2, g3, g4⟩ := lgs_split e2
   exact ⟨x + a1, y + b1, a2, b2, lgs_cons e1 g1, g2, by omega, by omega⟩
  cases h
theorem lgs_at {l : Str} {a b i : Nat} (h : lgs l = some (a, b)) (hi : i < l.length) : ∃ a1 b1 x y, lgs (l.take i) = some (a1, b1) ∧ lg (gt l (i : Int)) = some (x, y) ∧ a1 + x ≤ a ∧ b1 + y ≤ b ∧ l.take (i + 1) = l.take i ++ [gt l (i : Int)] := by
 have hg : l[i]? = some (gt l (i : Int)) := by have := gt_spec (ys := l) (i := (i : Int)) ⟨by omega, by omega⟩; simpa using this
 have ht : l.take (i + 1) = l.take i ++ [gt l (i : Int)] := by rw [List.take_add_one, hg]; rfl
 have hd : l = l.take i ++ gt l (i : Int) :: l.drop (i + 1) := by
  have e := (List.getElem?_eq_some_iff.1 hg).2
  conv => lhs; rw [← List.take_append_drop i l, List.drop_eq_getElem_cons hi, e]
 rw [hd] at h
 obtain ⟨a1, b1, a2, b2, g1, g2, g3, g4⟩ := lgs_split h
 unfold lgs at g2
 split at g2
 ·rename_i x y p q e1 e2
  injection g2 with g2; injection g2 with h1 h2
  exact ⟨a1, b1, x, y, g1, e1, by omega, by omega, ht⟩
 cases g2
def lay1 (s : Web × List Nat) (l : Str) : Web × List Nat := ((l.foldl (letter s.2) (s.1, [], 0)).1, (l.foldl (letter s.2) (s.1, [], 0)).2.1)
structure WL (ins : Nat) (s : Web × List Nat) : Prop where
  wi : WI s.1
  insl : ins ≤ s.1.n
  gi : GI s.1 ins s.2
  atl : ∀ x ∈ s.2, x < s.1.n
theorem WL.li {ins : Nat} {s : Web × List Nat} (h : WL ins s) : LI ins s.2 (s.1, [], 0) := ⟨h.wi, h.insl, by simpa using h.gi, h.atl, fun x hx => nomatch hx⟩
theorem WL.layer {ins : Nat} {s : Web × List Nat} (h : WL ins s) {l : Str} {b : Nat} (hl : lgs l = some (s.2.length, b)) :
  WL ins (lay1 s l) ∧ s.1.n ≤ (lay1 s l).1.n ∧ (lay1 s l).1.n ≤ s.1.n + l.length ∧ (lay1 s l).2.length = b ∧ (lay1 s l).1.el.sum = s.1.el.sum + (l.map eul).sum := by
 obtain ⟨f1, f2, f3, f4, f5, f6⟩ := LI.fold (l := l) h.li hl (by simp)
 have f4 : (l.foldl (letter s.2) (s.1, [], 0)).2.2 = s.2.length := by rw [f4]; simp
 refine ⟨⟨f1.wi, f1.insl, ?_, f1.nx⟩, f2, f3, by rw [show (lay1 s l).2 = (l.foldl (letter s.2) (s.1, [], 0)).2.1 from rfl, f5]; simp, f6⟩
 have := f1.gi
 rw [f4, List.drop_length, List.nil_append] at this
 exact this
theorem layer_state {ins : Nat} {s : Web × List Nat} (h : WL ins s) {l : Str} {b : Nat} (hl : lgs l = some (s.2.length, b)) {i : Nat} (hi : i ≤ l.length) : ∃ a1 b1, lgs (l.take i) = some (a1, b1) ∧ a1 ≤ s.2.length ∧ b1 ≤ b ∧ LI ins s.2 ((l.take i).foldl (letter s.2) (s.1, [], 0)) ∧ ((l.take i).foldl (letter s.2) (s.1, [], 0)).1.n ≤ s.1.n + i ∧ ((l.take i).foldl (letter s.2) (s.1, [], 0)).2.2 = a1 ∧ ((l.take i).foldl (letter s.2) (s.1, [], 0)).2.1.length = b1 := by
 have h0 := hl
 rw [← List.take_append_drop i l] at h0
 obtain ⟨a1, b1, a2, b2, g1, g2, g3, g4⟩ := lgs_split h0
 obtain ⟨f1, f2, f3, f4, f5, f6⟩ := LI.fold (l := l.take i) h.li g1 (by show 0 + a1 ≤ s.2.length; omega)
 rw [List.length_take, Nat.min_eq_left hi] at f3
 exact ⟨a1, b1, g1, by omega, by omega, f1, f3, by rw [f4]; simp, by rw [f5]; simp⟩
section
variable {ins : Nat} {s : Web × List Nat} (h : WL ins s) {l : Str} {b : Nat} (hl : lgs l = some (s.2.length, b)) (hn : s.1.n ≤ 9000) (hll : l.length ≤ 500) (hb : b ≤ 500) (ha : s.2.length ≤ 500)
include h hl hn hll hb ha
theorem impl_layer : impl_tracer_layer.f (lz s.1.n s.1.g) s.1.mp (il s.2) l = some (lz (lay1 s l).1.n (lay1 s l).1.g, (lay1 s l).1.mp, il (lay1 s l).2) := by
 unfold impl_tracer_layer.f
 have hS := loop1_upto (f := impl_tracer_layer.b1 l (il s.2)) (fun i => let r := (l.take i).foldl (letter s.2) (s.1, [], 0); (lz r.1.n r.1.g, r.1.mp, il r.2.1, ((r.2.2 : Nat) : Int), (i : Int))) l.length
  (let r := l.foldl (letter s.2) (s.1, [], 0); (lz r.1.n r.1.g, r.1.mp, il r.2.1, ((r.2.2 : Nat) : Int), (l.length : Int))) (by omega) (fun i hi => by
  obtain ⟨a1, b1, x, y, g1, g2, g3, g4, g5⟩ := lgs_at hl hi
  obtain ⟨a1', b1', g1', _, _, f1, f3, f4, f5⟩ := layer_state h hl (i := i) (by omega)
  rw [g1] at g1'; injection g1' with g1'; injection g1' with e1 e2; subst e1 e2
  dsimp only
  rw [g5, List.foldl_append, List.foldl_cons, List.foldl_nil]
  generalize (l.take i).foldl (letter s.2) (s.1, [], 0) = r at f1 f3 f4 f5 ⊢
  obtain ⟨w, nx, k⟩ := r
  dsimp only at f1 f3 f4 f5 ⊢
  exact impl_letter (nx := nx) f1.wi (by omega) g2 (by omega) (by omega) f1.atl (by omega) hi (by omega) rfl) (by
  dsimp only
  unfold impl_tracer_layer.b1
  dsimp only
  rw [dlt_nat, decide_eq_false (by omega), List.take_length]; rfl)
 have hS' : loop1 (impl_tracer_layer.b1 l (il s.2)) (lz s.1.n s.1.g, s.1.mp, [], 0, 0) = _ := hS
 rw [hS']; rfl
theorem spec_layer : spec_l04Step.f (lz s.1.n s.1.f) s.1.el (il s.2) l = some (lz (lay1 s l).1.n (lay1 s l).1.f, (lay1 s l).1.el, il (lay1 s l).2) := by
 unfold spec_l04Step.f
 have hS := loop1_upto (f := spec_l04Step.b2 l) (fun i => let r := (l.take i).foldl (letter s.2) (s.1, [], 0); (lz r.1.n r.1.f, r.1.el, il s.2, il r.2.1, ((r.2.2 : Nat) : Int), (i : Int))) l.length
  (let r := l.foldl (letter s.2) (s.1, [], 0); (lz r.1.n r.1.f, r.1.el, il s.2, il r.2.1, ((r.2.2 : Nat) : Int), (l.length : Int))) (by omega) (fun i hi => by
  obtain ⟨a1, b1, x, y, g1, g2, g3, g4, g5⟩ := lgs_at hl hi
  obtain ⟨a1', b1', g1', _, _, f1, f3, f4, f5⟩ := layer_state h hl (i := i) (by omega)
  rw [g1] at g1'; injection g1' with g1'; injection g1' with e1 e2; subst e1 e2
  dsimp only
  rw [g5, List.foldl_append, List.foldl_cons, List.foldl_nil]
  generalize (l.take i).foldl (letter s.2) (s.1, [], 0) = r at f1 f3 f4 f5 ⊢
  obtain ⟨w, nx, k⟩ := r
  dsimp only at f1 f3 f4 f5 ⊢
  exact spec_letter (nx := nx) f1.wi (by omega) g2 (by omega) (by omega) f1.atl (by omega) hi (by omega) rfl) (by
  dsimp only
  unfold spec_l04Step.b2
  dsimp only
  rw [dlt_nat, decide_eq_false (by omega), List.take_length]; rfl)
 have hS' : loop1 (spec_l04Step.b2 l) (lz s.1.n s.1.f, s.1.el, il s.2, [], 0, 0) = _ := hS
 rw [hS']; rfl
end
def start (ins : Nat) : Web := ⟨ins, id, id, List.replicate ins 0, []⟩
theorem gt_rep (n i : Nat) : gt (List.replicate n (0 : Int)) (i : Int) = 0 := by
 simp only [gt, List.getD, Int.toNat_natCast, List.getElem?_replicate]
 split <;> rfl
theorem WL.start (ins : Nat) : WL ins (start ins, List.range ins) where
 wi := {
  le := fun i => Nat.le_refl _
  gid := fun i _ => rfl
  fid := fun i _ => rfl
  flt := fun i hi => hi
  ff := fun i => rfl
  same := same_start
  ell := by show (List.replicate ins (0 : Int)).length = ins; simp
  mpe := fun i _ => by
   show mlook [] (i : Int) = gt (List.replicate ins (0 : Int)) (i : Int)
   rw [gt_rep]; rfl
  mpn := fun i _ => rfl
  elb := fun e he => by have := List.eq_of_mem_replicate he; omega }
 insl := Nat.le_refl _
 gi r := by
  have e : sumIf (fun i => gt (List.replicate ins (0 : Int)) (i : Int)) (fun i => i == r) (List.range ins) = 0 := by
   have h0 : ∀ l : List Nat, sumIf (fun _ => 0) (fun i => i == r) l = 0 := by
    intro l
    induction l with
    | nil => rfl
    | cons x l ih =>
     unfold sumIf at ih ⊢
     simp only [List.map_cons, List.sum_cons, ih]
     split <;> rfl
   exact (sumIf_congr (G := fun _ => 0) (Q := fun i => i == r) (fun i _ => gt_rep ins i) (fun _ _ => rfl)).trans (h0 _)
  have hc : (List.range ins).countP (fun i => i == r) ≤ 1 := by
   have := List.nodup_iff_count.1 (List.nodup_range (n := ins)) r
   exact this
  have hT : T (Go.Proofs.YtpejnjpckacciaaGreatDoor.G.start ins) ins (List.range ins) r = 0 + ((List.range ins).countP (fun i => i == r) : Int) + ((List.range ins).countP (fun i => i == r) : Int) := by
   unfold T tot
   show sumIf (fun i => gt (List.replicate ins (0 : Int)) (i : Int)) (fun i => i == r) (List.range ins) + _ + _ = _
   rw [e]
   rfl
  rw [hT]
  omega
 atl := fun x hx => List.mem_range.1 hx
theorem okL_some {p : Option Nat} {l : Str} {r : List Str} (h : okL p (l :: r) = true) : ∃ a b, lgs l = some (a, b) ∧ a ≤ 6 ∧ b ≤ 6 ∧ l.length ≤ 12 ∧ l ≠ [] ∧ (p = none ∨ p = some a) ∧ okL (some b) r = true := by
 rw [okL_cons, Bool.and_eq_true] at h
 obtain ⟨h1, h2⟩ := h
 split at h1
 ·cases h1
 rename_i a b e
 simp only [Bool.and_eq_true, decide_eq_true_eq, bne_iff_ne, Bool.or_eq_true, beq_iff_eq] at h1
 have hb := lgs_bound e
 have ho : outsOf l = b := by unfold outsOf; rw [e]; rfl
 rw [ho] at h2
 exact ⟨a, b, e, h1.1.1.2, h1.1.2, by omega, h1.1.1.1, h1.2, h2⟩
theorem WL.fold {ins : Nat} : ∀ {L : List Str} {s : Web × List Nat}, WL ins s → okL (some s.2.length) L = true →
  WL ins (L.foldl lay1 s) ∧ s.1.n ≤ (L.foldl lay1 s).1.n ∧ (L.foldl lay1 s).1.n ≤ s.1.n + 12 * L.length ∧ (L.foldl lay1 s).2.length = (match L with | [] => s.2.length | _ => outsOf (L.getLastD [])) ∧ (L.foldl lay1 s).1.el.sum = s.1.el.sum + (L.map fun l => (l.map eul).sum).sum
 | [], s, h, _ => ⟨h, Nat.le_refl _, Nat.le_refl _, rfl, by simp⟩
 | l :: L, s, h, hk => by
  obtain ⟨a, b, e, ha, hb, hl, hne, hp, hr⟩ := okL_some hk
  have hp : a = s.2.length := by rcases hp with hp | hp; cases hp; injection hp with hp; exact hp.symm
  subst hp
  obtain ⟨g1, g2, g3, g4, g5⟩ := h.layer e
  obtain ⟨f1, f2, f3, f4, f5⟩ := WL.fold (L := L) g1 (by rw [g4]; exact hr)
  rw [List.foldl_cons]
  refine ⟨f1, by omega, by rw [List.length_cons]; omega, ?_, ?_⟩
  ·rw [f4]
   cases L with
   | nil =>
    show (lay1 s l).2.length = outsOf l
    rw [g4]; unfold outsOf; rw [e]; rfl
   | cons x y => rfl
  rw [f5, g5, List.map_cons, List.sum_cons]; omega
theorem fold_at {ins : Nat} {L : List Str} {s : Web × List Nat} (h : WL ins s) (hk : okL (some s.2.length) L = true) (hs : s.2.length ≤ 6) {i : Nat} (hi : i < L.length) :
  WL ins ((L.take i).foldl lay1 s) ∧ ((L.take i).foldl lay1 s).1.n ≤ s.1.n + 12 * i ∧ ((L.take i).foldl lay1 s).2.length ≤ 6 ∧ ∃ b, b ≤ 6 ∧ lgs (gt L (i : Int)) = some (((L.take i).foldl lay1 s).2.length, b) ∧ (gt L (i : Int)).length ≤ 12 ∧ L.take (i + 1) = L.take i ++ [gt L (i : Int)] := by
 induction L generalizing s i with
 | nil => exact absurd hi (Nat.not_lt_zero i)
 | cons l L ih =>
  obtain ⟨a, b, e, ha, hb, hl, hne, hp, hr⟩ := okL_some hk
  have hp : a = s.2.length := by rcases hp with hp | hp; cases hp; injection hp with hp; exact hp.symm
  subst hp
  cases i with
  | zero =>
   have e0 : gt (l :: L) ((0 : Nat) : Int) = l := rfl
   rw [e0]
   exact ⟨h, by simp, hs, b, hb, e, hl, rfl⟩
  | succ i =>
   obtain ⟨g1, g2, g3, g4, g5⟩ := h.layer e
   have hi' : i < L.length := by rw [List.length_cons] at hi; omega
   obtain ⟨f1, f2, f3, b', f4, f5, f6, f7⟩ := ih (s := lay1 s l) g1 (by rw [g4]; exact hr) (by omega) hi'
   have e1 : gt (l :: L) ((i + 1 : Nat) : Int) = gt L (i : Int) := by simp [gt, List.getD]
   rw [e1, List.take_succ_cons, List.foldl_cons]
   refine ⟨f1, by omega, f3, b', f4, f5, f6, ?_⟩
   rw [List.take_succ_cons, f7]; rfl
def web (L : List Str) : Web × List Nat := L.foldl lay1 (start (insW L), List.range (insW L))
theorem ok_first {L : List Str} (h : okL none L = true) : okL (some (List.range (insW L)).length) L = true ∧ insW L ≤ 6 := by
 cases L with
 | nil => exact ⟨rfl, by simp [insW, insOf, lgs]⟩
 | cons l r =>
  obtain ⟨a, b, e, ha, hb, hl, hne, hp, hr⟩ := okL_some h
  have hi : insW (l :: r) = a := by show insOf l = a; unfold insOf; rw [e]; rfl
  rw [hi, List.length_range, okL_cons, Bool.and_eq_true] at *
  refine ⟨⟨?_, h.2⟩, ha⟩
  have h1 := h.1
  rw [e] at h1 ⊢
  simp only [Bool.and_eq_true, decide_eq_true_eq, bne_iff_ne, Bool.or_eq_true, beq_iff_eq] at h1 ⊢
  exact ⟨h1.1, .inr trivial⟩
section
variable {L : List Str} (h : okL none L = true) (hn : L.length ≤ 30)
include h hn
theorem web_ok : WL (insW L) (web L) ∧ insW L ≤ (web L).1.n ∧ (web L).1.n ≤ 366 ∧ (web L).2.length = outsW L ∧ (web L).1.el.sum = (L.map fun l => (l.map eul).sum).sum ∧ insW L ≤ 6 ∧ outsW L ≤ 6 := by
 obtain ⟨h1, h2⟩ := ok_first h
 obtain ⟨f1, f2, f3, f4, f5⟩ := WL.fold (WL.start (insW L)) h1
 have f2 : insW L ≤ (web L).1.n := f2
 have f3 : (web L).1.n ≤ insW L + 12 * L.length := f3
 have ho : outsW L ≤ 6 := by
  cases hL : L with
  | nil => simp [outsW, outsOf, lgs]
  | cons a r =>
   have hm : L.getLastD [] ∈ L := by
    rw [hL, List.getLastD_eq_getLast?, List.getLast?_eq_some_getLast (by simp)]
    exact List.getLast_mem _
   obtain ⟨x, y, e, _, _, hy, _⟩ := okL_mem h _ hm
   rw [← hL]
   show outsOf (L.getLastD []) ≤ 6
   unfold outsOf; rw [e]; exact hy
 refine ⟨f1, f2, by omega, ?_, ?_, h2, ho⟩
 ·have f4 : (web L).2.length = _ := f4
  rw [f4]
  cases L with
  | nil => rfl
  | cons a r => rfl
 have f5 : (web L).1.el.sum = (List.replicate (insW L) (0 : Int)).sum + _ := f5
 rw [f5]
 simp
omit hn in
theorem impl_b0 : loop1 (impl_parts.b0 (insW L : Int)) ([], [], 0) = some (lz (insW L) id, il (List.range (insW L)), (insW L : Int)) := by
 have h2 := (ok_first h).2
 have hl := loop1_upto (f := impl_parts.b0 (insW L : Int)) (fun i => (lz i id, il (List.range i), (i : Int))) (insW L) (lz (insW L) id, il (List.range (insW L)), (insW L : Int)) (by omega) (fun i hi => by
  unfold impl_parts.b0 impl_pool_add.f
  dsimp only
  rw [dlt_nat, decide_eq_true hi, cond_true, lz_length, small_in (by simp; omega)]
  have e : lz i id ++ [(i : Int)] = lz (i + 1) id := (lz_succ i id).symm
  rw [Option.bind_some]
  dsimp only
  rw [e, lz_length, w64_pred (by omega), small_in (by simp [il_length]; omega), w64_succ (by omega), List.range_succ, il_append]
  rfl) (by
  unfold impl_parts.b0
  dsimp only
  rw [dlt_nat, decide_eq_false (by omega)]; rfl)
 exact hl
theorem impl_b1 : loop1 (impl_parts.b1 L) (lz (insW L) id, [], il (List.range (insW L)), 0) = some (lz (web L).1.n (web L).1.g, (web L).1.mp, il (web L).2, (L.length : Int)) := by
 obtain ⟨h1, h2⟩ := ok_first h
 have hl := loop1_upto (f := impl_parts.b1 L) (fun i => let r := (L.take i).foldl lay1 (start (insW L), List.range (insW L)); (lz r.1.n r.1.g, r.1.mp, il r.2, (i : Int))) L.length (lz (web L).1.n (web L).1.g, (web L).1.mp, il (web L).2, (L.length : Int)) (by omega) (fun i hi => by
  obtain ⟨f1, f2, f3, b', f4, f5, f6, f7⟩ := fold_at (WL.start (insW L)) h1 (by simp; omega) hi
  dsimp only
  unfold impl_parts.b1
  dsimp only
  have f2 : ((L.take i).foldl lay1 (start (insW L), List.range (insW L))).1.n ≤ insW L + 12 * i := f2
  rw [f7, List.foldl_append, List.foldl_cons, List.foldl_nil]
  generalize (L.take i).foldl lay1 (start (insW L), List.range (insW L)) = r at f1 f2 f3 f5 ⊢
  rw [dlt_nat, decide_eq_true hi, cond_true, chk_in ⟨by omega, by omega⟩, impl_layer f1 f5 (by omega) (by omega) (by omega) (by omega), Option.bind_some, w64_succ (by omega)]) (by
  dsimp only
  unfold impl_parts.b1
  dsimp only
  rw [dlt_nat, decide_eq_false (by omega), List.take_length]; rfl)
 exact hl
omit hn in
theorem spec_b0 : loop1 (spec_l04Parts.b0 (insW L : Int)) ([], [], [], [], 0) = some (lz (insW L) id, List.replicate (insW L) 0, il (List.range (insW L)), il (List.range (insW L)), (insW L : Int)) := by
 have h2 := (ok_first h).2
 have hl := loop1_upto (f := spec_l04Parts.b0 (insW L : Int)) (fun i => (lz i id, List.replicate i 0, il (List.range i), il (List.range i), (i : Int))) (insW L) (lz (insW L) id, List.replicate (insW L) 0, il (List.range (insW L)), il (List.range (insW L)), (insW L : Int)) (by omega) (fun i hi => by
  unfold spec_l04Parts.b0 spec_l04Thing.f
  dsimp only
  rw [dlt_nat, decide_eq_true hi, cond_true, lz_length, small_in (by simp; omega), small_in (by simp; omega)]
  have e : lz i id ++ [(i : Int)] = lz (i + 1) id := (lz_succ i id).symm
  rw [Option.bind_some]
  dsimp only
  rw [e, lz_length, w64_pred (by omega), small_in (by simp [il_length]; omega), small_in (by simp [il_length]; omega), w64_succ (by omega), List.range_succ, il_append, List.replicate_succ']
  rfl) (by
  unfold spec_l04Parts.b0
  dsimp only
  rw [dlt_nat, decide_eq_false (by omega)]; rfl)
 exact hl
theorem spec_b1 : loop1 (spec_l04Parts.b1 L) (lz (insW L) id, List.replicate (insW L) 0, il (List.range (insW L)), 0) = some (lz (web L).1.n (web L).1.f, (web L).1.el, il (web L).2, (L.length : Int)) := by
 obtain ⟨h1, h2⟩ := ok_first h
 have hl := loop1_upto (f := spec_l04Parts.b1 L) (fun i => let r := (L.take i).foldl lay1 (start (insW L), List.range (insW L)); (lz r.1.n r.1.f, r.1.el, il r.2, (i : Int))) L.length (lz (web L).1.n (web L).1.f, (web L).1.el, il (web L).2, (L.length : Int)) (by omega) (fun i hi => by
  obtain ⟨f1, f2, f3, b', f4, f5, f6, f7⟩ := fold_at (WL.start (insW L)) h1 (by simp; omega) hi
  dsimp only
  unfold spec_l04Parts.b1
  dsimp only
  have f2 : ((L.take i).foldl lay1 (start (insW L), List.range (insW L))).1.n ≤ insW L + 12 * i := f2
  rw [f7, List.foldl_append, List.foldl_cons, List.foldl_nil]
  generalize (L.take i).foldl lay1 (start (insW L), List.range (insW L)) = r at f1 f2 f3 f5 ⊢
  rw [dlt_nat, decide_eq_true hi, cond_true, chk_in ⟨by omega, by omega⟩, spec_layer f1 f5 (by omega) (by omega) (by omega) (by omega), Option.bind_some, w64_succ (by omega)]) (by
  dsimp only
  unfold spec_l04Parts.b1
  dsimp only
  rw [dlt_nat, decide_eq_false (by omega), List.take_length]; rfl)
 exact hl
end
end Go.Proofs.YtpejnjpckacciaaGreatDoor.G
set_option linter.unusedVariables false
namespace Go.Proofs.YtpejnjpckacciaaGreatDoor.G
open Go Go.Sx Go.Proofs Go.Shelf
theorem kfind_at : ∀ {l : List Nat} {j : Nat} (hj : j < l.length), l.Nodup → kfind (il l) ((l[j] : Nat) : Int) = some j
 | a :: l, 0, _, _ => by simp [il, kfind]
 | a :: l, j + 1, hj, hn => by
  have hj' : j < l.length := by rw [List.length_cons] at hj; omega
  have ih := kfind_at hj' (List.nodup_cons.1 hn).2
  have hne : ¬ (a : Int) = ((l[j] : Nat) : Int) := by
   intro e
   have : a = l[j] := by omega
   exact (List.nodup_cons.1 hn).1 (this ▸ List.getElem_mem hj')
  show kfind ((a : Int) :: il l) (((a :: l)[j + 1] : Nat) : Int) = _
  rw [List.getElem_cons_succ, kfind, if_neg hne, ih]
  rfl
theorem kfind_out : ∀ {l : List Nat} {x : Nat}, x ∉ l → kfind (il l) (x : Int) = none
 | [], _, _ => rfl
 | a :: l, x, h => by
  have hne : ¬ (a : Int) = (x : Int) := fun e => h (by simp; omega)
  show kfind ((a : Int) :: il l) _ = _
  rw [kfind, if_neg hne, kfind_out (fun hx => h (by simp [hx]))]
  rfl
theorem map_set {α : Type} {l : List Nat} (hn : l.Nodup) (F : Nat → α) {j : Nat} (hj : j < l.length) (v : α) : (l.map F).set j v = l.map fun x => if x = l[j] then v else F x := by
 apply List.ext_getElem?
 intro q
 rw [List.getElem?_set, List.getElem?_map, List.getElem?_map]
 by_cases hq : j = q
 ·subst hq
  simp [hj]
 by_cases hql : q < l.length
 ·have hne : ¬ l[q] = l[j] := fun e => hq ((List.getElem_inj hn).1 e.symm)
  simp [hq, hql, hne]
 simp [hq, hql]
theorem map_gt {α : Type} [Inhabited α] {l : List Nat} (F : Nat → α) {j : Nat} (hj : j < l.length) : gt (l.map F) (j : Int) = F l[j] := by simp [gt, List.getD, hj]
def rts (g : Nat → Nat) (n : Nat) : List Nat := (List.range n).filter fun i => decide (rt g i = i)
theorem rts_succ (g : Nat → Nat) (n : Nat) : rts g (n + 1) = if rt g n = n then rts g n ++ [n] else rts g n := by
 unfold rts
 rw [List.range_succ, List.filter_append]
 by_cases h : rt g n = n
 ·rw [if_pos h]; simp [h]
 rw [if_neg h]; simp [h]
theorem rts_nodup (g : Nat → Nat) (n : Nat) : (rts g n).Nodup := List.nodup_range.sublist List.filter_sublist
theorem rts_mem {g : Nat → Nat} {n x : Nat} : x ∈ rts g n ↔ x < n ∧ rt g x = x := by simp [rts]
theorem rts_len (g : Nat → Nat) (n : Nat) : (rts g n).length ≤ n := by have := List.length_filter_le (fun i => decide (rt g i = i)) (List.range n); simpa [rts] using this
def S (w : Web) (m : Nat → Nat) (i r : Nat) : Int := sumIf (fun q => gt w.el (q : Int)) (fun q => m q == r) (List.range i)
theorem S_succ (w : Web) (m : Nat → Nat) (i r : Nat) : S w m (i + 1) r = S w m i r + if m i = r then gt w.el (i : Int) else 0 := by
 unfold S
 rw [List.range_succ, sumIf_append]
 congr 1
 unfold sumIf
 by_cases h : m i = r
 ·simp [h]
 simp [h]
theorem S_bound {w : Web} (hw : WI w) (m : Nat → Nat) (r : Nat) : ∀ i, i ≤ w.n → -(i : Int) ≤ S w m i r ∧ S w m i r ≤ i
 | 0, _ => by simp [S, sumIf]
 | i + 1, hi => by
  have ih := S_bound hw m r i (by omega)
  rw [S_succ]
  have hm : gt w.el (i : Int) ∈ w.el := by
   have : i < w.el.length := by rw [hw.ell]; omega
   simp [gt, List.getD, this]
  have hb := hw.elb _ hm
  split <;> omega
theorem S_zero {w : Web} (m : Nat → Nat) {i r : Nat} (h : ∀ q, q < i → m q ≠ r) : S w m i r = 0 := sumIf_none fun q hq => by
 rw [beq_eq_false_iff_ne]; exact h q (List.mem_range.1 hq)
section
variable {w : Web} (hw : WI w) (hn : w.n ≤ 100000)
include hw hn
theorem part_old {N i : Nat} (hN : N ≤ w.n) (hi : i < w.n) (hr : rt w.g i < N) : ∃ j, ∃ hj : j < (rts w.g N).length, (rts w.g N)[j] = rt w.g i ∧ impl_part.f (lz w.n w.g) (il (rts w.g N)) (i : Int) = some (j, none) := by
 have hm : rt w.g i ∈ rts w.g N := rts_mem.2 ⟨hr, rt_rt w.g i⟩
 obtain ⟨j, hj, he⟩ := List.mem_iff_getElem.1 hm
 refine ⟨j, hj, he, ?_⟩
 unfold impl_part.f
 rw [find_eq' (fun i _ => hw.le i) (by omega) hi, Option.bind_some, ← he, kfind_at hj (rts_nodup _ _)]
theorem part_new {i : Nat} (hi : i < w.n) (hr : rt w.g i = i) : impl_part.f (lz w.n w.g) (il (rts w.g i)) (i : Int) = some ((rts w.g i).length, some (i : Int)) := by
 unfold impl_part.f
 rw [find_eq' (fun i _ => hw.le i) (by omega) hi, Option.bind_some, hr, kfind_out (fun h => by have := (rts_mem.1 h).1; omega)]
 dsimp only
 rw [il_length]
theorem impl_b2 : loop1 (impl_parts.b2 (lz w.n w.g) w.mp) ([], [], [], 0) = some (il (rts w.g w.n), (rts w.g w.n).map (S w (rt w.g) w.n), List.replicate (rts w.g w.n).length (0, [], []), (w.n : Int)) := by
 have hl := loop1_upto (f := impl_parts.b2 (lz w.n w.g) w.mp) (fun i => (il (rts w.g i), (rts w.g i).map (S w (rt w.g) i), (List.replicate (rts w.g i).length (0, [], []) : List PC), (i : Int))) w.n (il (rts w.g w.n), (rts w.g w.n).map (S w (rt w.g) w.n), List.replicate (rts w.g w.n).length (0, [], []), (w.n : Int)) (by omega) (fun i hi => by
  unfold impl_parts.b2
  dsimp only
  rw [lz_length, dlt_nat, decide_eq_true hi, cond_true, w64_succ (by omega)]
  have hle := rt_le w.g i
  have hmp := hw.mpe i hi
  have hm : gt w.el (i : Int) ∈ w.el := by
   have : i < w.el.length := by rw [hw.ell]; exact hi
   simp [gt, List.getD, this]
  have hb := hw.elb _ hm
  by_cases hr : rt w.g i = i
  ·rw [part_new hw hn hi hr, Option.bind_some]
   dsimp only
   rw [grd_in (by simp), rts_succ, if_pos hr]
   have hs : sget ((rts w.g i).map (S w (rt w.g) i)) (rts w.g i).length = 0 := by unfold sget; rw [if_neg (by simp)]
   rw [hs, hmp, w64_in (by omega), Int.zero_add]
   have h1 : onK (il (rts w.g i)) (some (i : Int)) = il (rts w.g i ++ [i]) := by rw [il_append]; rfl
   have h2 : sput ((rts w.g i).map (S w (rt w.g) i)) (rts w.g i).length (gt w.el (i : Int)) = (rts w.g i ++ [i]).map (S w (rt w.g) (i + 1)) := by
    unfold sput
    rw [if_neg (by simp), List.map_append]
    congr 1
    ·refine List.map_congr_left fun r hrm => ?_
     have := (rts_mem.1 hrm).1
     rw [S_succ, if_neg (by omega), Int.add_zero]
    have hz : S w (rt w.g) i i = 0 := S_zero _ fun q hq => by have := rt_le w.g q; omega
    simp [S_succ, hr, hz]
   have h3 : onC (List.replicate (rts w.g i).length (0, [], [])) (some (i : Int)) = List.replicate (rts w.g i ++ [i]).length ((0, [], []) : PC) := by
    rw [List.length_append]
    show _ ++ [_] = _
    rw [← List.replicate_succ']; rfl
   rw [h1, h2, h3]
  ·obtain ⟨j, hj, he, hp⟩ := part_old hw hn (N := i) (by omega) hi (by omega)
   rw [hp, Option.bind_some]
   dsimp only
   rw [grd_in (by simp; omega), rts_succ, if_neg hr]
   have hs : sget ((rts w.g i).map (S w (rt w.g) i)) j = S w (rt w.g) i (rt w.g i) := by
    unfold sget
    rw [if_pos (by simpa using hj), map_gt _ hj, he]
   have hsb := S_bound hw (rt w.g) (rt w.g i) i (by omega)
   rw [hs, hmp, w64_in (by omega)]
   have h2 : sput ((rts w.g i).map (S w (rt w.g) i)) j (S w (rt w.g) i (rt w.g i) + gt w.el (i : Int)) = (rts w.g i).map (S w (rt w.g) (i + 1)) := by
    unfold sput
    rw [if_pos (by simpa using hj), map_set (rts_nodup _ _) _ hj]
    refine List.map_congr_left fun r hrm => ?_
    rw [S_succ, he]
    by_cases h : r = rt w.g i
    ·rw [if_pos h, if_pos h.symm, h]
    rw [if_neg h, if_neg (fun e => h e.symm), Int.add_zero]
   rw [h2]
   rfl) (by
  unfold impl_parts.b2
  dsimp only
  rw [lz_length, dlt_nat, decide_eq_false (by omega)]; rfl)
 exact hl
def Ir (m : Nat → Nat) (i r : Nat) : List Nat := (List.range i).filter fun q => m q == r
def Or' (m : Nat → Nat) (at_ : List Nat) (i r : Nat) : List Nat := (List.range i).filter fun j => m (at_.getD j 0) == r
omit hw hn in
theorem Ir_succ (m : Nat → Nat) (i r : Nat) : Ir m (i + 1) r = if m i = r then Ir m i r ++ [i] else Ir m i r := by
 unfold Ir
 rw [List.range_succ, List.filter_append]
 by_cases h : m i = r <;> simp [h]
omit hw hn in
theorem Or_succ (m : Nat → Nat) (at_ : List Nat) (i r : Nat) : Or' m at_ (i + 1) r = if m (at_.getD i 0) = r then Or' m at_ i r ++ [i] else Or' m at_ i r := by
 unfold Or'
 rw [List.range_succ, List.filter_append]
 by_cases h : m (at_.getD i 0) = r
 ·rw [if_pos h, List.filter_cons_of_pos (by rw [h]; exact beq_self_eq_true r)]; rfl
 rw [if_neg h, List.filter_cons_of_neg (by rw [beq_eq_false_iff_ne.2 h]; decide)]; simp
omit hw hn in
theorem Ir_len (m : Nat → Nat) (i r : Nat) : (Ir m i r).length ≤ i := by have := List.length_filter_le (fun q => m q == r) (List.range i); simpa [Ir] using this
omit hw hn in
theorem Or_len (m : Nat → Nat) (at_ : List Nat) (i r : Nat) : (Or' m at_ i r).length ≤ i := by have := List.length_filter_le (fun j => m (at_.getD j 0) == r) (List.range i); simpa [Or'] using this
theorem impl_b3 {ins : Nat} (hins : ins ≤ w.n) (sums : List Int) : loop1 (impl_parts.b3 (ins : Int) (lz w.n w.g)) (il (rts w.g w.n), sums, List.replicate (rts w.g w.n).length (0, [], []), 0) = some (il (rts w.g w.n), sums, (rts w.g w.n).map (fun r => (0, il (Ir (rt w.g) ins r), [])), (ins : Int)) := by
 have e0 : (List.replicate (rts w.g w.n).length (0, [], []) : List PC) = (rts w.g w.n).map (fun r => ((0, il (Ir (rt w.g) 0 r), []) : PC)) := by
  rw [show (fun r => ((0, il (Ir (rt w.g) 0 r), []) : PC)) = fun _ => (0, [], []) from rfl, List.map_const']
 rw [e0]
 have hl := loop1_upto (f := impl_parts.b3 (ins : Int) (lz w.n w.g)) (fun i => (il (rts w.g w.n), sums, (rts w.g w.n).map (fun r => ((0, il (Ir (rt w.g) i r), []) : PC)), (i : Int))) ins (il (rts w.g w.n), sums, (rts w.g w.n).map (fun r => (0, il (Ir (rt w.g) ins r), [])), (ins : Int)) (by omega) (fun i hi => by
  unfold impl_parts.b3
  dsimp only
  rw [dlt_nat, decide_eq_true hi, cond_true, w64_succ (by omega)]
  have hle := rt_le w.g i
  obtain ⟨j, hj, he, hp⟩ := part_old hw hn (N := w.n) (Nat.le_refl _) (i := i) (by omega) (by omega)
  rw [hp, Option.bind_some]
  dsimp only
  have hil := Ir_len (rt w.g) i (rt w.g i)
  have ec : onC ((rts w.g w.n).map (fun r => ((0, il (Ir (rt w.g) i r), []) : PC))) none = (rts w.g w.n).map (fun r => ((0, il (Ir (rt w.g) i r), []) : PC)) := rfl
  rw [ec, map_gt _ hj, he]
  dsimp only
  rw [grd_in (by simpa using hj), small_in (by simp [il_length]; omega)]
  have h2 : ((rts w.g w.n).map (fun r => ((0, il (Ir (rt w.g) i r), []) : PC))).set j (0, il (Ir (rt w.g) i (rt w.g i)) ++ [(i : Int)], []) = (rts w.g w.n).map (fun r => ((0, il (Ir (rt w.g) (i + 1) r), []) : PC)) := by
   rw [map_set (rts_nodup _ _) _ hj, he]
   refine List.map_congr_left fun r hrm => ?_
   rw [Ir_succ]
   by_cases h : r = rt w.g i
   ·rw [if_pos h, if_pos h.symm, h, il_append]; rfl
   rw [if_neg h, if_neg (fun e => h e.symm)]
  rw [h2]
  rfl) (by
  unfold impl_parts.b3
  dsimp only
  rw [dlt_nat, decide_eq_false (by omega)]; rfl)
 exact hl
theorem impl_b4 {ins : Nat} {at_ : List Nat} (hat : ∀ x ∈ at_, x < w.n) (hal : at_.length ≤ 1000) (sums : List Int) : loop1 (impl_parts.b4 (il at_) (lz w.n w.g)) (il (rts w.g w.n), sums, (rts w.g w.n).map (fun r => (0, il (Ir (rt w.g) ins r), [])), 0) = some (il (rts w.g w.n), sums, (rts w.g w.n).map (fun r => (0, il (Ir (rt w.g) ins r), il (Or' (rt w.g) at_ at_.length r))), (at_.length : Int)) := by
 have hl := loop1_upto (f := impl_parts.b4 (il at_) (lz w.n w.g)) (fun i => (il (rts w.g w.n), sums, (rts w.g w.n).map (fun r => ((0, il (Ir (rt w.g) ins r), il (Or' (rt w.g) at_ i r)) : PC)), (i : Int))) at_.length (il (rts w.g w.n), sums, (rts w.g w.n).map (fun r => (0, il (Ir (rt w.g) ins r), il (Or' (rt w.g) at_ at_.length r))), (at_.length : Int)) (by omega) (fun i hi => by
  unfold impl_parts.b4
  dsimp only
  rw [il_length, dlt_nat, decide_eq_true hi, cond_true, w64_succ (by omega), chk_in ⟨by omega, by omega⟩, il_gt hi]
  have hx := hat at_[i] (List.getElem_mem hi)
  have hg : at_.getD i 0 = at_[i] := by rw [List.getD_eq_getElem?_getD, List.getElem?_eq_getElem hi]; rfl
  have hle := rt_le w.g at_[i]
  obtain ⟨j, hj, he, hp⟩ := part_old hw hn (N := w.n) (Nat.le_refl _) (i := at_[i]) hx (by omega)
  rw [hp, Option.bind_some]
  dsimp only
  have hil := Or_len (rt w.g) at_ i (rt w.g at_[i])
  have ec : onC ((rts w.g w.n).map (fun r => ((0, il (Ir (rt w.g) ins r), il (Or' (rt w.g) at_ i r)) : PC))) none = (rts w.g w.n).map (fun r => ((0, il (Ir (rt w.g) ins r), il (Or' (rt w.g) at_ i r)) : PC)) := rfl
  rw [ec, map_gt _ hj, he]
  dsimp only
  rw [grd_in (by simpa using hj), small_in (by simp [il_length]; omega)]
  have h2 : ((rts w.g w.n).map (fun r => ((0, il (Ir (rt w.g) ins r), il (Or' (rt w.g) at_ i r)) : PC))).set j (0, il (Ir (rt w.g) ins (rt w.g at_[i])), il (Or' (rt w.g) at_ i (rt w.g at_[i])) ++ [(i : Int)]) = (rts w.g w.n).map (fun r => ((0, il (Ir (rt w.g) ins r), il (Or' (rt w.g) at_ (i + 1) r)) : PC)) := by
   rw [map_set (rts_nodup _ _) _ hj, he]
   refine List.map_congr_left fun r hrm => ?_
   rw [Or_succ, hg]
   by_cases h : r = rt w.g at_[i]
   ·rw [if_pos h, if_pos h.symm, h, il_append]; rfl
   rw [if_neg h, if_neg (fun e => h e.symm)]
  rw [h2]
  rfl) (by
  unfold impl_parts.b4
  dsimp only
  rw [il_length, dlt_nat, decide_eq_false (by omega)]; rfl)
 have e0 : (rts w.g w.n).map (fun r => ((0, il (Ir (rt w.g) ins r), il (Or' (rt w.g) at_ 0 r)) : PC)) = (rts w.g w.n).map (fun r => ((0, il (Ir (rt w.g) ins r), []) : PC)) := rfl
 rw [← e0]
 exact hl
end
def partOf (w : Web) (ins : Nat) (at_ : List Nat) (m : Nat → Nat) (r : Nat) : PC :=
  (genP (S w m w.n r) (0, il (Ir m ins r), il (Or' m at_ at_.length r)), il (Ir m ins r), il (Or' m at_ at_.length r))
theorem finC_eq (l : List Nat) (A : Nat → Int) (B C : Nat → List Int) : finC (l.map A) (l.map fun r => ((0, B r, C r) : PC)) = l.map fun r => (genP (A r) (0, B r, C r), B r, C r) := by
 unfold finC
 rw [List.length_map]
 apply List.ext_getElem?
 intro i
 rw [List.getElem?_map, List.getElem?_map]
 by_cases h : i < l.length
 ·rw [List.getElem?_range h, List.getElem?_eq_getElem h]
  simp only [Option.map_some]
  unfold cF
  rw [map_gt _ h, map_gt _ h]
 rw [List.getElem?_eq_none (by simpa using h), List.getElem?_eq_none (by omega)]; rfl
end Go.Proofs.YtpejnjpckacciaaGreatDoor.G
set_option linter.unusedVariables false
namespace Go.Proofs.YtpejnjpckacciaaGreatDoor.G
open Go Go.Sx Go.Proofs Go.Shelf
theorem before_eq (a b : PC) : spec_l04Before.f a.1 a.2.1 a.2.2 b.1 b.2.1 b.2.2 = some (decide (ordP a b < 0)) := by
 have e : decide (ordP a b < 0) = decide ((rkP a.1 a.2.1 a.2.2).1 < (rkP b.1 b.2.1 b.2.2).1 ∨ (rkP a.1 a.2.1 a.2.2).1 = (rkP b.1 b.2.1 b.2.2).1 ∧ (rkP a.1 a.2.1 a.2.2).2 < (rkP b.1 b.2.1 b.2.2).2) := by
  rw [decide_eq_decide]; exact ordQ_neg a b
 rw [e]
 clear e
 obtain ⟨g, x, y⟩ := a
 obtain ⟨g', x', y'⟩ := b
 dsimp only
 unfold spec_l04Before.f rkP
 cases x with
 | cons a x =>
  cases x' with
  | cons b x' => simp [Sx.chk, gt, List.getD]
  | nil => cases y' <;> simp
 | nil =>
  cases x' with
  | cons b x' => cases y <;> simp
  | nil =>
   cases y with
   | cons a y =>
    cases y' with
    | cons b y' => simp [Sx.chk, gt, List.getD]
    | nil => simp
   | nil =>
    cases y' with
    | cons b y' => simp
    | nil => simp
theorem gt_nth {l : List PC} {i : Nat} (h : i < l.length) : gt l (i : Int) = l[i] := by simp [gt, List.getD, h]
theorem put_eq {l : List PC} (own : PC) (hl : l.length ≤ 100000) : ∃ a, a ≤ l.length ∧ spec_l04Put.f l own.1 own.2.1 own.2.2 = some (l.take a ++ own :: l.drop a) ∧ (∀ j (h : j < l.length), a ≤ j → ordP own l[j] < 0) ∧ (∀ j (h : j < l.length), a = j + 1 → ¬ ordP own l[j] < 0) := by
 obtain ⟨o, ho, a, rfl, ha, h1, h2⟩ := loop1_run (f := spec_l04Put.b0 l own.1 own.2.1 own.2.2) (s := (l.length : Int))
  (fun s => ∃ a : Nat, s = (a : Int) ∧ a ≤ l.length ∧ ∀ j (h : j < l.length), a ≤ j → ordP own l[j] < 0) (fun s => s.toNat)
  (fun s => ∃ a : Nat, s = (a : Int) ∧ a ≤ l.length ∧ (∀ j (h : j < l.length), a ≤ j → ordP own l[j] < 0) ∧ (∀ j (h : j < l.length), a = j + 1 → ¬ ordP own l[j] < 0)) (by
  rintro s ⟨a, rfl, ha, hj⟩
  unfold spec_l04Put.b0
  cases a with
  | zero =>
   right
   refine ⟨((0 : Nat) : Int), rfl, 0, rfl, ha, hj, fun j h e => by omega⟩
  | succ a =>
   have e1 : decide (((a + 1 : Nat) : Int) > 0) = true := decide_eq_true (by omega)
   rw [e1, cond_true, w64_pred (by omega), chk_in ⟨by omega, by omega⟩, gt_nth (by omega), before_eq, Option.bind_some]
   by_cases h : ordP own l[a] < 0
   ·left
    rw [decide_eq_true h]
    refine ⟨_, rfl, ⟨a, rfl, by omega, fun j hjl haj => ?_⟩, by omega⟩
    by_cases e : j = a
    ·subst e; exact h
    exact hj j hjl (by omega)
   right
   rw [decide_eq_false h]
   refine ⟨_, rfl, a + 1, rfl, ha, hj, fun j hjl e => ?_⟩
   obtain rfl : a = j := by omega
   exact h) ⟨l.length, rfl, Nat.le_refl _, fun j h e => by omega⟩ (by omega)
 refine ⟨a, ha, ?_, h1, h2⟩
 unfold spec_l04Put.f
 rw [ho, Option.bind_some, grd_in (by simp; omega), small_in (by simp; omega), grd_in (by simp; omega), small_in (by simp; omega), small_in (by simp; omega)]
 simp only [Int.toNat_natCast, List.nil_append, List.drop_zero, Nat.sub_zero, drop_take]
 rfl
theorem leQ_of_neg {a b : PC} (h : ordP a b < 0) : leQ a b = true := decide_eq_true (by omega)
theorem leQ_of_not {a b : PC} (h : ¬ ordP a b < 0) : leQ b a = true := by
 refine decide_eq_true ?_
 have h1 := ordQ_neg a b
 have h2 := ordQ_le b a
 omega
theorem put_ok {l : List PC} (own : PC) (hl : l.length ≤ 100000) (hs : l.Pairwise fun a b => leQ a b = true) : ∃ r, spec_l04Put.f l own.1 own.2.1 own.2.2 = some r ∧ r.Perm (l ++ [own]) ∧ r.Pairwise fun a b => leQ a b = true := by
 obtain ⟨a, ha, he, h1, h2⟩ := put_eq own hl
 refine ⟨_, he, ?_, ?_⟩
 ·have e : l ++ [own] = l.take a ++ (l.drop a ++ [own]) := by rw [← List.append_assoc, List.take_append_drop]
  rw [e]
  refine List.Perm.append_left _ ?_
  exact (List.perm_append_comm (l₁ := [own]) (l₂ := l.drop a))
 rw [List.pairwise_append]
 have hd : ∀ y ∈ l.drop a, leQ own y = true := by
  intro y hy
  obtain ⟨j, hj, e⟩ := List.mem_iff_getElem.1 hy
  rw [List.getElem_drop] at e
  rw [List.length_drop] at hj
  have := h1 (a + j) (by omega) (by omega)
  rw [e] at this
  exact leQ_of_neg this
 have ht : ∀ x ∈ l.take a, leQ x own = true := by
  intro x hx
  obtain ⟨j, hj, e⟩ := List.mem_iff_getElem.1 hx
  rw [List.length_take] at hj
  rw [List.getElem_take] at e
  obtain ⟨b, rfl⟩ : ∃ b, a = b + 1 := ⟨a - 1, by omega⟩
  have h3 := leQ_of_not (h2 b (by omega) rfl)
  by_cases hjb : j = b
  ·subst hjb; rw [← e]; exact h3
  have h4 := List.pairwise_iff_getElem.1 hs j b (by omega) (by omega) (by omega)
  rw [e] at h4
  exact leQ_trans _ _ _ h4 h3
 refine ⟨hs.sublist (List.take_sublist _ _), List.pairwise_cons.2 ⟨hd, hs.sublist (List.drop_sublist _ _)⟩, ?_⟩
 intro x hx y hy
 rcases List.mem_cons.1 hy with rfl | hy
 ·exact ht x hx
 exact leQ_trans _ _ _ (ht x hx) (hd y hy)
def lds (f : Nat → Nat) (n i : Nat) : List Nat := (List.range i).filter fun x => (List.range n).any fun q => f q == x
theorem lds_succ (f : Nat → Nat) (n i : Nat) : lds f n (i + 1) = if (List.range n).any (fun q => f q == i) then lds f n i ++ [i] else lds f n i := by
 unfold lds
 rw [List.range_succ, List.filter_append]
 by_cases h : (List.range n).any (fun q => f q == i) = true
 ·rw [if_pos h, List.filter_cons_of_pos (p := fun x => (List.range n).any fun q => f q == x) h]; rfl
 rw [if_neg h, List.filter_cons_of_neg (p := fun x => (List.range n).any fun q => f q == x) h]; simp
section
variable {w : Web} (hw : WI w) (hn : w.n ≤ 10000) {ins : Nat} (hins : ins ≤ w.n) {at_ : List Nat} (hat : ∀ x ∈ at_, x < w.n) (hal : at_.length ≤ 1000)
include hw hn
theorem spec_b2 (x : Nat) : loop1 (spec_l04Parts.b2 (lz w.n w.f) (x : Int) w.el) (0, false, 0) = some (S w w.f w.n x, (List.range w.n).any (fun q => w.f q == x), (w.n : Int)) := by
 have hl := loop1_upto (f := spec_l04Parts.b2 (lz w.n w.f) (x : Int) w.el) (fun i => (S w w.f i x, (List.range i).any (fun q => w.f q == x), (i : Int))) w.n (S w w.f w.n x, (List.range w.n).any (fun q => w.f q == x), (w.n : Int)) (by omega) (fun i hi => by
  unfold spec_l04Parts.b2
  dsimp only
  have hle := hw.ell
  rw [lz_length, dlt_nat, decide_eq_true hi, cond_true, w64_succ (by omega), chk_in ⟨by omega, by omega⟩, lz_gt _ hi, beq_nat]
  have hm : gt w.el (i : Int) ∈ w.el := by
   have : i < w.el.length := by rw [hw.ell]; exact hi
   simp [gt, List.getD, this]
  have hb := hw.elb _ hm
  have hsb := S_bound hw w.f x i (by omega)
  rw [S_succ, List.range_succ, List.any_append]
  by_cases h : w.f i = x
  ·rw [decide_eq_true h, cond_true, chk_in ⟨by omega, by omega⟩, if_pos h, w64_in (by omega)]
   have : [i].any (fun q => w.f q == x) = true := by simp [h]
   rw [this, Bool.or_true]; rfl
  ·rw [decide_eq_false h, cond_false, if_neg h, Int.add_zero]
   have : [i].any (fun q => w.f q == x) = false := by simp [h]
   rw [this, Bool.or_false]; rfl) (by
  unfold spec_l04Parts.b2
  dsimp only
  rw [lz_length, dlt_nat, decide_eq_false (by omega)]; rfl)
 exact hl
omit hw in
include hins in
theorem spec_b3 (x : Nat) : loop1 (spec_l04Parts.b3 (il (List.range ins)) (lz w.n w.f) (x : Int)) ([], 0) = some (il (Ir w.f ins x), (ins : Int)) := by
 have hl := loop1_upto (f := spec_l04Parts.b3 (il (List.range ins)) (lz w.n w.f) (x : Int)) (fun i => (il (Ir w.f i x), (i : Int))) ins (il (Ir w.f ins x), (ins : Int)) (by omega) (fun i hi => by
  unfold spec_l04Parts.b3
  dsimp only
  have hil := Ir_len w.f i x
  have hg : gt (il (List.range ins)) (i : Int) = (i : Int) := by rw [il_gt (by simpa using hi)]; simp
  rw [il_length, List.length_range, dlt_nat, decide_eq_true hi, cond_true, chk_in ⟨by omega, by omega⟩, hg, lz_length, chk_in ⟨by omega, by omega⟩, lz_gt _ (by omega), beq_nat, w64_succ (by omega), Ir_succ]
  by_cases h : w.f i = x
  ·rw [decide_eq_true h, cond_true, small_in (by simp [il_length]; omega), if_pos h, il_append]; rfl
  ·rw [decide_eq_false h, cond_false, if_neg h]; rfl) (by
  unfold spec_l04Parts.b3
  dsimp only
  rw [il_length, List.length_range, dlt_nat, decide_eq_false (by omega)]; rfl)
 exact hl
omit hw hn in
include hat hal in
theorem spec_b4 (x : Nat) : loop1 (spec_l04Parts.b4 (il at_) (lz w.n w.f) (x : Int)) ([], 0) = some (il (Or' w.f at_ at_.length x), (at_.length : Int)) := by
 have hl := loop1_upto (f := spec_l04Parts.b4 (il at_) (lz w.n w.f) (x : Int)) (fun i => (il (Or' w.f at_ i x), (i : Int))) at_.length (il (Or' w.f at_ at_.length x), (at_.length : Int)) (by omega) (fun i hi => by
  unfold spec_l04Parts.b4
  dsimp only
  have hil := Or_len w.f at_ i x
  have hx := hat at_[i] (List.getElem_mem hi)
  have hg : at_.getD i 0 = at_[i] := by rw [List.getD_eq_getElem?_getD, List.getElem?_eq_getElem hi]; rfl
  rw [il_length, dlt_nat, decide_eq_true hi, cond_true, chk_in ⟨by omega, by omega⟩, il_gt hi, lz_length, chk_in ⟨by omega, by omega⟩, lz_gt _ hx, beq_nat, w64_succ (by omega), Or_succ, hg]
  by_cases h : w.f at_[i] = x
  ·rw [decide_eq_true h, cond_true, small_in (by simp [il_length]; omega), if_pos h, il_append]; rfl
  ·rw [decide_eq_false h, cond_false, if_neg h]; rfl) (by
  unfold spec_l04Parts.b4
  dsimp only
  rw [il_length, dlt_nat, decide_eq_false (by omega)]; rfl)
 exact hl
include hins hat hal in
theorem spec_b5 : ∃ r, loop1 (spec_l04Parts.b5 (lz w.n w.f) w.el (il (List.range ins)) (il at_)) ([], 0) = some (r, (w.n : Int)) ∧ r.Perm ((lds w.f w.n w.n).map (partOf w ins at_ w.f)) ∧ r.Pairwise fun a b => leQ a b = true := by
 obtain ⟨o, ho, hq⟩ := loop1_run (f := spec_l04Parts.b5 (lz w.n w.f) w.el (il (List.range ins)) (il at_)) (s := (([] : List PC), (0 : Int)))
  (fun s => ∃ i : Nat, s.2 = (i : Int) ∧ i ≤ w.n ∧ s.1.length ≤ i ∧ s.1.Perm ((lds w.f w.n i).map (partOf w ins at_ w.f)) ∧ s.1.Pairwise fun a b => leQ a b = true) (fun s => w.n - s.2.toNat)
  (fun s => s.2 = (w.n : Int) ∧ s.1.Perm ((lds w.f w.n w.n).map (partOf w ins at_ w.f)) ∧ s.1.Pairwise fun a b => leQ a b = true) (by
  rintro ⟨x5, x6⟩ ⟨i, rfl, hi, hlen, hp, hs⟩
  dsimp only at hlen hp hs
  unfold spec_l04Parts.b5
  dsimp only
  rw [lz_length, dlt_nat]
  by_cases hlt : i < w.n
  ·left
   rw [decide_eq_true hlt, cond_true, spec_b2 hw hn, Option.bind_some]
   dsimp only
   rw [spec_b3 hn hins, Option.bind_some]
   dsimp only
   rw [spec_b4 hat hal, Option.bind_some]
   dsimp only
   rw [w64_succ (by omega)]
   cases ha : (List.range w.n).any (fun q => w.f q == i) with
   | true =>
    obtain ⟨r, hr, hrp, hrs⟩ := put_ok (partOf w ins at_ w.f i) (l := x5) (by omega) hs
    have hr' : spec_l04Put.f x5 (w64 (Int.tdiv (w64 ((w64 (2 - (w64 (((il (Ir w.f ins i)).length : Int) + ((il (Or' w.f at_ at_.length i)).length : Int))))) - (S w w.f w.n i))) 2)) (il (Ir w.f ins i)) (il (Or' w.f at_ at_.length i)) = some r := hr
    rw [cond_true, hr', Option.bind_some, Option.bind_some]
    refine ⟨_, rfl, ⟨i + 1, rfl, by omega, ?_, ?_, hrs⟩, by show w.n - ((i + 1 : Nat) : Int).toNat < w.n - (i : Int).toNat; omega⟩
    ·have := hrp.length_eq
     rw [List.length_append] at this
     show r.length ≤ i + 1
     simp at this
     omega
    rw [lds_succ, if_pos ha, List.map_append]
    exact hrp.trans (hp.append_right _)
   | false =>
    rw [cond_false, Option.bind_some]
    refine ⟨_, rfl, ⟨i + 1, rfl, by omega, by show x5.length ≤ i + 1; omega, ?_, hs⟩, by show w.n - ((i + 1 : Nat) : Int).toNat < w.n - (i : Int).toNat; omega⟩
    rw [lds_succ, if_neg (by rw [ha]; decide)]
    exact hp
  right
  rw [decide_eq_false hlt]
  obtain rfl : i = w.n := by omega
  exact ⟨_, rfl, rfl, hp, hs⟩) ⟨0, rfl, Nat.zero_le _, Nat.le_refl _, List.Perm.refl _, List.Pairwise.nil⟩ (by show w.n - (0 : Int).toNat < _; omega)
 obtain ⟨r, x⟩ := o
 obtain ⟨h1, h2, h3⟩ := hq
 dsimp only at h1 h2 h3
 subst h1
 exact ⟨r, ho, h2, h3⟩
end
end Go.Proofs.YtpejnjpckacciaaGreatDoor.G
set_option linter.unusedVariables false
namespace Go.Proofs.YtpejnjpckacciaaGreatDoor.G
open Go Go.Sx Go.Proofs Go.Shelf
theorem il_head {l : List Nat} {x : Int} {t : List Int} (h : il l = x :: t) : ∃ y ∈ l, (y : Int) = x := by
 cases l with
 | nil => simp [il] at h
 | cons a l =>
  have h : (a : Int) :: il l = x :: t := h
  injection h with h1 h2
  exact ⟨a, by simp, h1⟩
theorem parts_ties (w : Web) (ins : Nat) (at_ : List Nat) (m : Nat → Nat) (r1 r2 : Nat) (h : ordP (partOf w ins at_ m r1) (partOf w ins at_ m r2) = 0) : partOf w ins at_ m r1 = partOf w ins at_ m r2 := by
 have hz := (ordQ_zero _ _).1 h
 have key : r1 = r2 → partOf w ins at_ m r1 = partOf w ins at_ m r2 := fun e => by rw [e]
 unfold partOf at hz ⊢
 dsimp only at hz ⊢
 cases h1 : il (Ir m ins r1) with
 | cons x t =>
  cases h2 : il (Ir m ins r2) with
  | cons y u =>
   rw [h1, h2] at hz
   have hxy : x = y := hz.2
   obtain ⟨a, ha, e1⟩ := il_head h1
   obtain ⟨b, hb, e2⟩ := il_head h2
   have hab : a = b := by omega
   subst hab
   have q1 : m a = r1 := by simpa [Ir] using (List.mem_filter.1 ha).2
   have q2 : m a = r2 := by simpa [Ir] using (List.mem_filter.1 hb).2
   have := key (q1.symm.trans q2)
   unfold partOf at this
   rw [← h1, ← h2]
   exact this
  | nil =>
   rw [h1, h2] at hz
   have hz1 := hz.1
   cases h3 : il (Or' m at_ at_.length r2) with
   | cons _ _ => rw [h3] at hz1; exact absurd hz1 (by simp [rkP])
   | nil => rw [h3] at hz1; exact absurd hz1 (by simp [rkP])
 | nil =>
  cases h2 : il (Ir m ins r2) with
  | cons y u =>
   rw [h1, h2] at hz
   have hz1 := hz.1
   cases h3 : il (Or' m at_ at_.length r1) with
   | cons _ _ => rw [h3] at hz1; exact absurd hz1 (by simp [rkP])
   | nil => rw [h3] at hz1; exact absurd hz1 (by simp [rkP])
  | nil =>
   cases h3 : il (Or' m at_ at_.length r1) with
   | cons x t =>
    cases h4 : il (Or' m at_ at_.length r2) with
    | cons y u =>
     rw [h1, h2, h3, h4] at hz
     have hxy : x = y := hz.2
     obtain ⟨a, ha, e1⟩ := il_head h3
     obtain ⟨b, hb, e2⟩ := il_head h4
     have hab : a = b := by omega
     subst hab
     have q1 : m (at_.getD a 0) = r1 := by have := (List.mem_filter.1 ha).2; exact eq_of_beq this
     have q2 : m (at_.getD a 0) = r2 := by have := (List.mem_filter.1 hb).2; exact eq_of_beq this
     have := key (q1.symm.trans q2)
     unfold partOf at this
     rw [h1, h2, h3, h4] at this
     exact this
    | nil => rw [h1, h2, h3, h4] at hz; exact absurd hz.1 (by simp [rkP])
   | nil =>
    cases h4 : il (Or' m at_ at_.length r2) with
    | cons y u => rw [h1, h2, h3, h4] at hz; exact absurd hz.1 (by simp [rkP])
    | nil =>
     rw [h1, h2, h3, h4] at hz
     have hg := hz.2
     simp only [rkP] at hg
     rw [hg]
theorem lds_perm {w : Web} (hw : WI w) : ((rts w.g w.n).map w.f).Perm (lds w.f w.n w.n) := by
 refine (List.perm_ext_iff_of_nodup ?_ (List.nodup_range.sublist List.filter_sublist)).2 fun x => ?_
 ·refine List.pairwise_map.2 ((rts_nodup w.g w.n).imp_of_mem fun ha hb hne e => hne ?_)
  have := (hw.same _ _).2 e
  rw [(rts_mem.1 ha).2, (rts_mem.1 hb).2] at this
  exact this
 rw [List.mem_map]
 rw [List.mem_filter, List.mem_range, List.any_eq_true]
 constructor
 ·rintro ⟨r, hr, rfl⟩
  have hrn := (rts_mem.1 hr).1
  exact ⟨hw.flt r hrn, r, List.mem_range.2 hrn, by simp⟩
 rintro ⟨_, i, hi, e⟩
 have hi := List.mem_range.1 hi
 have e := eq_of_beq e
 have hle := rt_le w.g i
 refine ⟨rt w.g i, rts_mem.2 ⟨by omega, rt_rt w.g i⟩, ?_⟩
 rw [← e]
 exact (hw.same _ _).1 (rt_rt w.g i)
theorem part_same {w : Web} (hw : WI w) (ins : Nat) (at_ : List Nat) {r : Nat} (hr : rt w.g r = r) : partOf w ins at_ (rt w.g) r = partOf w ins at_ w.f (w.f r) := by
 have hb : ∀ x, (rt w.g x == r) = (w.f x == w.f r) := by
  intro x
  rw [Bool.eq_iff_iff, beq_iff_eq, beq_iff_eq]
  conv => lhs; rw [← hr]
  rw [hr]
  have := hw.same x r
  rw [hr] at this
  exact this
 unfold partOf S Ir Or'
 simp only [hb]
theorem fin_perm {w : Web} (hw : WI w) (ins : Nat) (at_ : List Nat) : ((rts w.g w.n).map (partOf w ins at_ (rt w.g))).Perm ((lds w.f w.n w.n).map (partOf w ins at_ w.f)) := by
 have e : (rts w.g w.n).map (partOf w ins at_ (rt w.g)) = ((rts w.g w.n).map w.f).map (partOf w ins at_ w.f) := by
  rw [List.map_map]
  refine List.map_congr_left fun r hr => ?_
  exact part_same hw ins at_ (rts_mem.1 hr).2
 rw [e]
 exact (lds_perm hw).map _
theorem perm_sum {α : Type} {l l' : List α} (h : l.Perm l') (F : α → Int) : (l.map F).sum = (l'.map F).sum := by
 induction h with
 | nil => rfl
 | cons x _ ih => simp [ih]
 | swap x y l => simp; omega
 | trans _ _ h1 h2 => exact h1.trans h2
theorem sum_add {α : Type} (F G : α → Int) : ∀ l : List α, (l.map fun x => F x + G x).sum = (l.map F).sum + (l.map G).sum
 | [] => rfl
 | a :: l => by simp [sum_add F G l]; omega
theorem sum_one {D : List Nat} (hD : D.Nodup) {a : Nat} (ha : a ∈ D) (v : Int) : (D.map fun x => if a = x then v else 0).sum = v := by
 induction D with
 | nil => cases ha
 | cons b D ih =>
  obtain ⟨hb, hD⟩ := List.nodup_cons.1 hD
  rw [List.map_cons, List.sum_cons]
  by_cases h : a = b
  ·subst h
   rw [if_pos rfl]
   have : (D.map fun x => if a = x then v else 0).sum = 0 := by
    have hz : ∀ D' : List Nat, a ∉ D' → (D'.map fun x => if a = x then v else 0).sum = 0 := by
     intro D'
     induction D' with
     | nil => intro _; rfl
     | cons c D' ih2 =>
      intro hc
      rw [List.map_cons, List.sum_cons, if_neg (fun e => hc (by simp [e])), ih2 (fun h => hc (by simp [h]))]
      rfl
    exact hz D hb
   rw [this]; omega
  rw [if_neg h, ih hD (by rcases List.mem_cons.1 ha with h' | h'; exact absurd h' h; exact h')]
  omega
theorem sum_classes {D : List Nat} (hD : D.Nodup) (f : Nat → Nat) (F : Nat → Int) : ∀ {l : List Nat}, (∀ i ∈ l, f i ∈ D) → (D.map fun x => sumIf F (fun i => f i == x) l).sum = (l.map F).sum
 | [], _ => by
  have : ∀ D : List Nat, (D.map fun x => sumIf F (fun i => f i == x) []).sum = 0 := by
   intro D
   induction D with
   | nil => rfl
   | cons a D ih => rw [List.map_cons, List.sum_cons, ih]; rfl
  rw [this]; rfl
 | a :: l, h => by
  have ih := sum_classes hD f F (l := l) (fun i hi => h i (by simp [hi]))
  have e : (fun x => sumIf F (fun i => f i == x) (a :: l)) = fun x => (if f a = x then F a else 0) + sumIf F (fun i => f i == x) l := by
   funext x
   unfold sumIf
   rw [List.map_cons, List.sum_cons]
   congr 1
   by_cases hx : f a = x <;> simp [hx]
  rw [e, sum_add, ih, sum_one hD (h a (by simp)), List.map_cons, List.sum_cons]
theorem count_sumIf (P : Nat → Bool) : ∀ l : List Nat, (l.countP P : Int) = sumIf (fun _ => 1) P l
 | [] => rfl
 | a :: l => by
  have ih := count_sumIf P l
  have e : sumIf (fun _ => 1) P (a :: l) = (if P a then 1 else 0) + sumIf (fun _ => 1) P l := by unfold sumIf; rw [List.map_cons, List.sum_cons]
  rw [List.countP_cons, e, ← ih]
  cases P a <;> simp <;> omega
theorem Ir_count (m : Nat → Nat) (ins r : Nat) : (Ir m ins r).length = (List.range ins).countP (fun i => m i == r) := by rw [List.countP_eq_length_filter]; rfl
theorem range_map (at_ : List Nat) : (List.range at_.length).map (fun j => at_.getD j 0) = at_ := by
 apply List.ext_getElem?
 intro i
 rw [List.getElem?_map]
 by_cases h : i < at_.length
 ·rw [List.getElem?_range h, Option.map_some, List.getD_eq_getElem?_getD, List.getElem?_eq_getElem h]; rfl
 rw [List.getElem?_eq_none (by simpa using h), List.getElem?_eq_none (by omega)]; rfl
theorem Or_count (m : Nat → Nat) (at_ : List Nat) (r : Nat) : (Or' m at_ at_.length r).length = at_.countP (fun i => m i == r) := by
 have h : at_.countP (fun i => m i == r) = ((List.range at_.length).map (fun j => at_.getD j 0)).countP (fun i => m i == r) := by rw [range_map]
 rw [h, List.countP_map, List.countP_eq_length_filter]
 rfl
theorem part_genus {w : Web} (hw : WI w) (hn : w.n ≤ 10000) {ins : Nat} {at_ : List Nat} (hins : ins ≤ 100) (hal : at_.length ≤ 100) (hg : GI w ins at_) (r : Nat) :
  0 ≤ (partOf w ins at_ w.f r).1 ∧ (partOf w ins at_ w.f r).1 ≤ 10000 ∧ 2 - 2 * (partOf w ins at_ w.f r).1 - (((partOf w ins at_ w.f r).2.1.length : Int) + ((partOf w ins at_ w.f r).2.2.length : Int)) = S w w.f w.n r ∧ (partOf w ins at_ w.f r).2.1.length ≤ 100 ∧ (partOf w ins at_ w.f r).2.2.length ≤ 100 := by
 have h1 := hg r
 have hT : T w ins at_ r = S w w.f w.n r + ((Ir w.f ins r).length : Int) + ((Or' w.f at_ at_.length r).length : Int) := by rw [Ir_count, Or_count]; rfl
 rw [hT] at h1
 have hs := S_bound hw w.f r w.n (Nat.le_refl _)
 have hi := Ir_len w.f ins r
 have ho := Or_len w.f at_ at_.length r
 unfold partOf genP
 dsimp only
 rw [il_length, il_length]
 generalize (Ir w.f ins r).length = a at h1 hi ⊢
 generalize (Or' w.f at_ at_.length r).length = b at h1 ho ⊢
 generalize S w w.f w.n r = s at h1 hs ⊢
 rw [w64_in (x := (a : Int) + (b : Int)) (by omega), w64_in (x := 2 - ((a : Int) + (b : Int))) (by omega), w64_in (x := 2 - ((a : Int) + (b : Int)) - s) (by omega)]
 have hd : Int.tdiv (2 - ((a : Int) + (b : Int)) - s) 2 = (2 - ((a : Int) + (b : Int)) - s) / 2 := Int.tdiv_eq_ediv_of_nonneg (by omega)
 rw [hd, w64_in (by omega)]
 omega
theorem eul_layers : ∀ L : List Str, ((Lib.join L [47]).map eul).sum = (L.map fun l => (l.map eul).sum).sum
 | [] => rfl
 | [x] => by rw [Lib.join_one]; simp
 | x :: y :: r => by
  have ih := eul_layers (y :: r)
  have h0 : eul 47 = 0 := rfl
  rw [join_cons2]
  simp only [List.map_append, List.sum_append, List.map_cons, List.sum_cons] at ih ⊢
  rw [ih, h0]; omega
theorem cnt_all {n : Nat} (hn : n < 4611686018427387904) : loop1 (cntB n) 0 = some n :=
 loop1_upto (fun k => k) n n hn (fun i hi => by unfold cntB; rw [decide_eq_true hi]; rfl) (by unfold cntB; rw [decide_eq_false (Nat.lt_irrefl _)]; rfl)
def eulW (w : Str) : Int := (w.map eul).sum
structure PartsOk (x : Str) (ps : List PC) : Prop where
  len : ps.length ≤ 1000
  genus : ∀ p ∈ ps, 0 ≤ p.1 ∧ p.1 ≤ 10000 ∧ p.2.1.length ≤ 100 ∧ p.2.2.length ≤ 100
  ins : (ps.map fun p => (p.2.1.length : Int)).sum = insW (lays x)
  outs : (ps.map fun p => (p.2.2.length : Int)).sum = outsW (lays x)
  euler : (ps.map fun p => 2 - 2 * p.1 - ((p.2.1.length : Int) + (p.2.2.length : Int))).sum = eulW x
theorem parts_same {x : Str} (h1 : x.length < 1000000000000000000) (hc : x.count 47 ≤ 20) (hx : okW x = true) : ∃ ps, impl_parts.f x = some ps ∧ spec_l04Parts.f x = some ps ∧ PartsOk x ps := by
 have hok : okL none (lays x) = true := hx
 have hll : (lays x).length ≤ 30 := by have := lays_len x; omega
 obtain ⟨g1, g2, g3, g4, g5, g6, g7⟩ := web_ok hok hll
 have hw := g1.wi
 have hcl : x.count 47 ≤ x.length := List.count_le_length
 obtain ⟨r, hr, hrp, hrs⟩ := spec_b5 hw (by omega) g2 g1.atl (by omega)
 have hspec : spec_l04Parts.f x = some r := by
  unfold spec_l04Parts.f
  rw [spec_layers h1 hc, hx, cond_true, Option.bind_some]
  dsimp only
  rw [spec_ends h1 hc hx, Option.bind_some]
  dsimp only
  rw [spec_b0 hok, Option.bind_some]
  dsimp only
  rw [spec_b1 hok hll, Option.bind_some]
  dsimp only
  rw [hr, Option.bind_some]
 have hfin : finC ((rts (web (lays x)).1.g (web (lays x)).1.n).map (S (web (lays x)).1 (rt (web (lays x)).1.g) (web (lays x)).1.n)) ((rts (web (lays x)).1.g (web (lays x)).1.n).map (fun r => (0, il (Ir (rt (web (lays x)).1.g) (insW (lays x)) r), il (Or' (rt (web (lays x)).1.g) (web (lays x)).2 (web (lays x)).2.length r)))) = (rts (web (lays x)).1.g (web (lays x)).1.n).map (partOf (web (lays x)).1 (insW (lays x)) (web (lays x)).2 (rt (web (lays x)).1.g)) := finC_eq _ _ _ _
 have hties : tiesP ((rts (web (lays x)).1.g (web (lays x)).1.n).map (partOf (web (lays x)).1 (insW (lays x)) (web (lays x)).2 (rt (web (lays x)).1.g))) = true := by
  unfold tiesP
  rw [List.all_eq_true]
  intro a ha
  rw [List.all_eq_true]
  intro b hb
  obtain ⟨r1, _, rfl⟩ := List.mem_map.1 ha
  obtain ⟨r2, _, rfl⟩ := List.mem_map.1 hb
  rw [Bool.or_eq_true, decide_eq_true_iff, bne_iff_ne]
  by_cases h : ordP (partOf (web (lays x)).1 (insW (lays x)) (web (lays x)).2 (rt (web (lays x)).1.g) r1) (partOf (web (lays x)).1 (insW (lays x)) (web (lays x)).2 (rt (web (lays x)).1.g) r2) = 0
  ·exact .inr (parts_ties _ _ _ _ _ _ h)
  exact .inl h
 have hfp := fin_perm hw (insW (lays x)) (web (lays x)).2
 have hsrt : srtP ((rts (web (lays x)).1.g (web (lays x)).1.n).map (partOf (web (lays x)).1 (insW (lays x)) (web (lays x)).2 (rt (web (lays x)).1.g))) = r := by
  refine List.Perm.eq_of_pairwise (le := fun a b => leQ a b = true) ?_ (List.pairwise_mergeSort leQ_trans leQ_total _) hrs ((srtP_perm _).trans (hfp.trans hrp.symm))
  intro a b ha hb hab hba
  have ha' := (srtP_perm _).mem_iff.1 ha
  have hb' := (hfp.trans hrp.symm).mem_iff.2 hb
  have ht := List.all_eq_true.1 (List.all_eq_true.1 hties a ha') b hb'
  rw [Bool.or_eq_true, decide_eq_true_iff] at ht
  rcases ht with h | h
  ·exfalso
   rw [bne_iff_ne] at h
   unfold leQ at hab hba
   rw [decide_eq_true_iff] at hab hba
   have x1 := ordQ_le a b
   have x2 := ordQ_le b a
   have x3 := ordQ_zero a b
   omega
  exact h
 have hrl := rts_len (web (lays x)).1.g (web (lays x)).1.n
 have himpl : impl_parts.f x = some r := by
  unfold impl_parts.f
  rw [impl_ends h1 hc, Option.bind_some]
  dsimp only
  rw [impl_b0 hok, Option.bind_some]
  dsimp only
  rw [layers_eq (by omega) (by omega), Option.bind_some, impl_b1 hok hll, Option.bind_some]
  dsimp only
  rw [impl_b2 hw (by omega), Option.bind_some]
  dsimp only
  rw [impl_b3 hw (by omega) g2, Option.bind_some]
  dsimp only
  rw [impl_b4 hw (by omega) g1.atl (by omega), Option.bind_some]
  dsimp only
  rw [hfin, hties, grd_in (by simp), grd_in (by simp; omega), grd_in rfl, hsrt]
  rw [cnt_all (by rw [List.length_map]; omega), Option.bind_some]
 have hD : (lds (web (lays x)).1.f (web (lays x)).1.n (web (lays x)).1.n).Nodup := List.nodup_range.sublist List.filter_sublist
 have hDm : ∀ i, i < (web (lays x)).1.n → (web (lays x)).1.f i ∈ lds (web (lays x)).1.f (web (lays x)).1.n (web (lays x)).1.n := fun i hi => by
  unfold lds
  rw [List.mem_filter, List.mem_range, List.any_eq_true]
  exact ⟨hw.flt i hi, i, List.mem_range.2 hi, by simp⟩
 have hgen := part_genus hw (by omega) (ins := insW (lays x)) (at_ := (web (lays x)).2) (by omega) (by omega) g1.gi
 refine ⟨r, himpl, hspec, ?_, ?_, ?_, ?_, ?_⟩
 ·rw [hrp.length_eq, List.length_map]
  have := List.length_filter_le (fun x_1 => (List.range (web (lays x)).1.n).any fun q => (web (lays x)).1.f q == x_1) (List.range (web (lays x)).1.n)
  rw [List.length_range] at this
  unfold lds
  omega
 ·intro p hp
  obtain ⟨y, _, rfl⟩ := List.mem_map.1 (hrp.mem_iff.1 hp)
  have := hgen y
  exact ⟨this.1, this.2.1, this.2.2.2.1, this.2.2.2.2⟩
 ·rw [perm_sum hrp, List.map_map]
  have e : ((fun p : PC => (p.2.1.length : Int)) ∘ partOf (web (lays x)).1 (insW (lays x)) (web (lays x)).2 (web (lays x)).1.f) = fun y => sumIf (fun _ => 1) (fun i => (web (lays x)).1.f i == y) (List.range (insW (lays x))) := by
   funext y
   rw [← count_sumIf, ← Ir_count]
   show ((il (Ir (web (lays x)).1.f (insW (lays x)) y)).length : Int) = _
   rw [il_length]
  rw [e, sum_classes hD _ _ (fun i hi => hDm i (by have := List.mem_range.1 hi; omega))]
  simp [List.map_const']
 ·rw [perm_sum hrp, List.map_map]
  have e : ((fun p : PC => (p.2.2.length : Int)) ∘ partOf (web (lays x)).1 (insW (lays x)) (web (lays x)).2 (web (lays x)).1.f) = fun y => sumIf (fun _ => 1) (fun i => (web (lays x)).1.f i == y) (web (lays x)).2 := by
   funext y
   rw [← count_sumIf, ← Or_count]
   show ((il (Or' (web (lays x)).1.f (web (lays x)).2 (web (lays x)).2.length y)).length : Int) = _
   rw [il_length]
  rw [e, sum_classes hD _ _ (fun i hi => hDm i (g1.atl i hi))]
  rw [← g4]
  simp [List.map_const']
 rw [perm_sum hrp, List.map_map]
 have e : ((fun p : PC => 2 - 2 * p.1 - ((p.2.1.length : Int) + (p.2.2.length : Int))) ∘ partOf (web (lays x)).1 (insW (lays x)) (web (lays x)).2 (web (lays x)).1.f) = fun y => sumIf (fun i => gt (web (lays x)).1.el (i : Int)) (fun i => (web (lays x)).1.f i == y) (List.range (web (lays x)).1.n) := by
  funext y
  exact (hgen y).2.2.1
 rw [e, sum_classes hD _ _ (fun i hi => hDm i (List.mem_range.1 hi))]
 have e2 : (List.range (web (lays x)).1.n).map (fun i : Nat => gt (web (lays x)).1.el (i : Int)) = (web (lays x)).1.el := by
  rw [← hw.ell]
  apply List.ext_getElem?
  intro i
  rw [List.getElem?_map]
  by_cases h : i < (web (lays x)).1.el.length
  ·rw [List.getElem?_range h, Option.map_some, List.getElem?_eq_getElem h]
   simp [gt, List.getD, h]
  rw [List.getElem?_eq_none (by simpa using h), List.getElem?_eq_none (by omega)]; rfl
 rw [e2, g5]
 unfold eulW
 rw [← eul_layers, join_lays]
end Go.Proofs.YtpejnjpckacciaaGreatDoor.G
set_option linter.unusedVariables false
namespace Go.Proofs.YtpejnjpckacciaaGreatDoor.G
open Go Go.Sx Go.Proofs Go.Shelf
theorem sum_bound {α : Type} {F : α → Int} {C : Nat} : ∀ {l : List α}, (∀ x ∈ l, -(C : Int) ≤ F x ∧ F x ≤ C) → -((C * l.length : Nat) : Int) ≤ (l.map F).sum ∧ (l.map F).sum ≤ ((C * l.length : Nat) : Int)
 | [], _ => by simp
 | a :: l, h => by
  have ih := sum_bound (F := F) (C := C) (l := l) (fun x hx => h x (by simp [hx]))
  have ha := h a (by simp)
  rw [List.map_cons, List.sum_cons, List.length_cons, Nat.mul_succ]
  omega
theorem parts9_refl (a : List PC) (h : a.length ≤ 1000) (hi : ∀ p ∈ a, p.2.1.length ≤ 100 ∧ p.2.2.length ≤ 100) : laws_parts9.f a a = some true := by
 unfold laws_parts9.f
 have e0 : ((a.length : Int) != (a.length : Int)) = false := by simp
 rw [e0, cond_false]
 have hl := loop_any (ρ := Bool) (f := laws_parts9.b0 a a) (fun i => (i : Int)) a.length (fun _ => false) false (a.length : Int) (by omega) (fun i hi' => by
  unfold laws_parts9.b0
  have hm : gt a (i : Int) ∈ a := by rw [gt_lt hi']; exact List.getElem_mem hi'
  have hb := hi _ hm
  rw [dlt_nat, decide_eq_true hi', cond_true, chk_in ⟨by omega, by omega⟩, chk_in ⟨by omega, by omega⟩, w64_succ (by omega)]
  have e : ((gt a (i : Int)).1 != (gt a (i : Int)).1) = false := by simp
  rw [e, cond_false, likeInts_refl _ (by omega), Option.bind_some, likeInts_refl _ (by omega)]
  rfl) (by
  unfold laws_parts9.b0
  rw [dlt_nat, decide_eq_false (by omega)]; rfl)
 have hl' : loop (ρ := Bool) (laws_parts9.b0 a a) 0 = _ := hl
 rw [hl']
 have e1 : (List.range a.length).any (fun _ => false) = false := by simp
 rw [e1]; rfl
theorem parts_loop {ps : List PC} (hl : ps.length ≤ 1000) (hg : ∀ p ∈ ps, 0 ≤ p.1 ∧ p.1 ≤ 10000 ∧ p.2.1.length ≤ 100 ∧ p.2.2.length ≤ 100) : loop (ρ := Bool) (laws_FnCobordisms.b0 ps) (0, 0, 0, 0) = some (.brk ((ps.map fun p => (p.2.1.length : Int)).sum, (ps.map fun p => (p.2.2.length : Int)).sum, (ps.map fun p => 2 - 2 * p.1 - ((p.2.1.length : Int) + (p.2.2.length : Int))).sum, (ps.length : Int))) := by
 have hlo := loop_any (ρ := Bool) (f := laws_FnCobordisms.b0 ps) (fun i => (((ps.take i).map fun p => (p.2.1.length : Int)).sum, ((ps.take i).map fun p => (p.2.2.length : Int)).sum, ((ps.take i).map fun p => 2 - 2 * p.1 - ((p.2.1.length : Int) + (p.2.2.length : Int))).sum, (i : Int))) ps.length (fun _ => false) false ((ps.map fun p => (p.2.1.length : Int)).sum, (ps.map fun p => (p.2.2.length : Int)).sum, (ps.map fun p => 2 - 2 * p.1 - ((p.2.1.length : Int) + (p.2.2.length : Int))).sum, (ps.length : Int)) (by omega) (fun i hi => by
  unfold laws_FnCobordisms.b0
  dsimp only
  have hm : gt ps (i : Int) ∈ ps := by rw [gt_lt hi]; exact List.getElem_mem hi
  have hb := hg _ hm
  have ht : ps.take (i + 1) = ps.take i ++ [gt ps (i : Int)] := by rw [List.take_add_one, List.getElem?_eq_getElem hi, gt_lt hi]; rfl
  have htm : ∀ p ∈ ps.take i, 0 ≤ p.1 ∧ p.1 ≤ 10000 ∧ p.2.1.length ≤ 100 ∧ p.2.2.length ≤ 100 := fun p hp => hg p (List.mem_of_mem_take hp)
  have s1 := sum_bound (F := fun p : PC => (p.2.1.length : Int)) (C := 100) (l := ps.take i) (fun p hp => by have := htm p hp; omega)
  have s2 := sum_bound (F := fun p : PC => (p.2.2.length : Int)) (C := 100) (l := ps.take i) (fun p hp => by have := htm p hp; omega)
  have s3 := sum_bound (F := fun p : PC => 2 - 2 * p.1 - ((p.2.1.length : Int) + (p.2.2.length : Int))) (C := 30000) (l := ps.take i) (fun p hp => by have := htm p hp; omega)
  rw [List.length_take, Nat.min_eq_left (Nat.le_of_lt hi)] at s1 s2 s3
  rw [dlt_nat, decide_eq_true hi, cond_true, chk_in ⟨by omega, by omega⟩, w64_succ (by omega), ht]
  simp only [List.map_append, List.sum_append, List.map_cons, List.map_nil, List.sum_cons, List.sum_nil]
  generalize gt ps (i : Int) = p at hb ⊢
  generalize ((ps.take i).map fun p => (p.2.1.length : Int)).sum = a1 at s1 ⊢
  generalize ((ps.take i).map fun p => (p.2.2.length : Int)).sum = a2 at s2 ⊢
  generalize ((ps.take i).map fun p => 2 - 2 * p.1 - ((p.2.1.length : Int) + (p.2.2.length : Int))).sum = a3 at s3 ⊢
  rw [decide_eq_false (by omega), cond_false, cond_false, w64_in (x := a1 + _) (by omega), w64_in (x := a2 + _) (by omega), w64_in (x := a3 + 2) (by omega), w64_in (x := 2 * p.1) (by omega), w64_in (x := a3 + 2 - 2 * p.1) (by omega), w64_in (x := (p.2.1.length : Int) + (p.2.2.length : Int)) (by omega), w64_in (by omega)]
  congr 2
  refine Prod.ext ?_ (Prod.ext ?_ (Prod.ext ?_ rfl))
  ·dsimp only; omega
  ·dsimp only; omega
  ·dsimp only; omega) (by
  unfold laws_FnCobordisms.b0
  dsimp only
  rw [dlt_nat, decide_eq_false (by omega), List.take_length]; rfl)
 have hlo' : loop (ρ := Bool) (laws_FnCobordisms.b0 ps) (0, 0, 0, 0) = _ := hlo
 rw [hlo']
 have e1 : (List.range ps.length).any (fun _ => false) = false := by simp
 rw [e1]; rfl
theorem bne_same {α : Type} [BEq α] [LawfulBEq α] (a : α) : (a != a) = false := by simp
theorem comp_part {v w : Str} (hv : Drawn v) (hw : Drawn w) : ((bif ((compR v w).2 == 0) then (G.impl_EulerOf.f v).bind (fun p => match p with | (r_41, r_42) => (G.impl_EulerOf.f w).bind (fun p => match p with | (r_43, r_44) => (G.impl_EulerOf.f (compR v w).1).bind (fun p => match p with | (r_45, r_46) => (bif ((((r_42 != 0) || (r_44 != 0)) || (r_46 != 0)) || ((w64 (r_41 + r_43)) != r_45)) then some (.inr (false)) else some (.inl ()))))) else some (.inl ())) : Option (Unit ⊕ Bool)) = some (.inl ()) := by
 have v1 := hv.1
 have v2 := hv.2
 have w1 := hw.1
 have w2 := hw.2
 by_cases h0 : (compR v w).2 = 0
 ·rw [h0]
  obtain ⟨k1, k2, k3, k4, k5⟩ := comp_euler (v := v) (w := w) (by omega) (by omega) (by omega) (by omega) h0
  have l1 := ok_len k1 (by omega)
  have l2 := ok_len k2 (by omega)
  have l3 := ok_len k3 k4
  have b1 := eul_sum_bound v
  have b2 := eul_sum_bound w
  have e0 : ((0 : Int) == 0) = true := rfl
  rw [e0, cond_true, eulerOf_impl (w := v) (by omega) (by omega), Option.bind_some]
  have r1 : eulR v = ((v.map eul).sum, 0) := by unfold eulR; rw [k1]; rfl
  have r2 : eulR w = ((w.map eul).sum, 0) := by unfold eulR; rw [k2]; rfl
  have r3 : eulR (compR v w).1 = (((compR v w).1.map eul).sum, 0) := by unfold eulR; rw [k3]; rfl
  rw [r1]
  dsimp only
  rw [eulerOf_impl (w := w) (by omega) (by omega), Option.bind_some, r2]
  dsimp only
  rw [eulerOf_impl (w := (compR v w).1) (by omega) k4, Option.bind_some, r3]
  dsimp only
  rw [w64_in (by omega), k5]
  simp only [bne_same, Bool.or_false, cond_false]
 have : ((compR v w).2 == 0) = false := beq_eq_false_iff_ne.2 h0
 rw [this]; rfl
theorem bes_part {v w : Str} (hv : Drawn v) (hw : Drawn w) : ((bif ((besR v w).2 == 0) then (G.impl_LegsOf.f v).bind (fun p => match p with | (r_47, r_48, r_49) => (G.impl_LegsOf.f w).bind (fun p => match p with | (r_50, r_51, r_52) => (G.impl_LegsOf.f (besR v w).1).bind (fun p => match p with | (r_53, r_54, r_55) => (bif (((((r_49 != 0) || (r_52 != 0)) || (r_55 != 0)) || ((w64 (r_47 + r_50)) != r_53)) || ((w64 (r_48 + r_51)) != r_54)) then some (.inr (false)) else some (.inl ()))))) else some (.inl ())) : Option (Unit ⊕ Bool)) = some (.inl ()) := by
 have v1 := hv.1
 have v2 := hv.2
 have w1 := hw.1
 have w2 := hw.2
 by_cases h0 : (besR v w).2 = 0
 ·rw [h0]
  obtain ⟨k1, k2, k3, k4, k5, k6, k7⟩ := (bes_both (v := v) (w := w) (by omega) (by omega) (by omega) (by omega)).2.2 h0
  have e0 : ((0 : Int) == 0) = true := rfl
  rw [e0, cond_true, legsOf_impl (w := v) (by omega) (by omega), Option.bind_some]
  have r1 : legsR v = ((insW (lays v) : Int), (outsW (lays v) : Int), 0) := by unfold legsR; rw [k1]; rfl
  have r2 : legsR w = ((insW (lays w) : Int), (outsW (lays w) : Int), 0) := by unfold legsR; rw [k2]; rfl
  have r3 : legsR (besR v w).1 = ((insW (lays (besR v w).1) : Int), (outsW (lays (besR v w).1) : Int), 0) := by unfold legsR; rw [k3]; rfl
  rw [r1]
  dsimp only
  rw [legsOf_impl (w := w) (by omega) (by omega), Option.bind_some, r2]
  dsimp only
  rw [legsOf_impl (w := (besR v w).1) (by omega) k4, Option.bind_some, r3]
  dsimp only
  have a1 := lays_len v
  have a2 := lays_len w
  have c1 := (ok_first (show okL none (lays v) = true from k1)).2
  have c2 := (ok_first (show okL none (lays w) = true from k2)).2
  have c3 := (web_ok (show okL none (lays v) = true from k1) (by omega)).2.2.2.2.2.2
  have c4 := (web_ok (show okL none (lays w) = true from k2) (by omega)).2.2.2.2.2.2
  rw [w64_in (by omega), w64_in (by omega), k6, k7]
  have d1 : ((insW (lays v) : Int) + (insW (lays w) : Int)) = ((insW (lays v) + insW (lays w) : Nat) : Int) := by omega
  have d2 : ((outsW (lays v) : Int) + (outsW (lays w) : Int)) = ((outsW (lays v) + outsW (lays w) : Nat) : Int) := by omega
  rw [d1, d2]
  simp only [bne_same, Bool.or_false, cond_false]
 have : ((besR v w).2 == 0) = false := beq_eq_false_iff_ne.2 h0
 rw [this]; rfl
theorem law_FnCobordisms (code : List UInt8) : laws_FnCobordisms.f code = some true := by
 unfold laws_FnCobordisms.f laws_big.f
 rw [Option.bind_some]
 by_cases hbig : code.length ≤ 4096
 ·rw [decide_eq_false (by omega), cond_false]
  obtain ⟨x, ex, hx⟩ := drawParts hbig
  have x1 : x.length < 1000000000000000000 := by have := hx.2; omega
  have x2 : x.count 47 ≤ 20 := by have := hx.1; omega
  obtain ⟨v, w, e2, hv, hw⟩ := drawTwo hbig
  have v1 : v.length < 1000000000000000000 := by have := hv.2; omega
  have v2 : v.count 47 ≤ 8 := by have := hv.1; omega
  have w1 : w.length < 1000000000000000000 := by have := hw.2; omega
  have w2 : w.count 47 ≤ 8 := by have := hw.1; omega
  have ec : spec_DrawComposeWords.f code = some (v, w) := by unfold spec_DrawComposeWords.f; rw [e2]; rfl
  have eb : spec_DrawBesideWords.f code = some (v, w) := by unfold spec_DrawBesideWords.f; rw [e2]; rfl
  have hcp := comp_part hv hw
  have hbp := bes_part hv hw
  have ci := comp_impl v1 v2 w1 w2
  have cs := comp_spec v1 v2 w1 w2
  obtain ⟨bi, bs, _⟩ := bes_both v1 v2 w1 w2
  generalize compR v w = cr at hcp ci cs
  obtain ⟨cr1, cr2⟩ := cr
  generalize besR v w = br at hbp bi bs
  obtain ⟨br1, br2⟩ := br
  dsimp only at hcp hbp
  have ei : spec_IsWord.f x = some (okW x) := by unfold spec_IsWord.f; rw [spec_is x1 x2]; rfl
  rw [ex, Option.bind_some]
  cases hok : okW x with
  | false =>
   have p1 : impl_PartsOf.f x = some ([], 1) := by unfold impl_PartsOf.f; rw [isword_eq x1 x2, hok]; rfl
   have p2 : spec_PartsOf.f x = some ([], 1) := by unfold spec_PartsOf.f; rw [spec_is x1 x2, hok]; rfl
   have l0 : legsR x = (0, 0, 1) := by unfold legsR; rw [hok]; rfl
   have u0 : eulR x = (0, 1) := by unfold eulR; rw [hok]; rfl
   have f0 : flipR x = ([], 1) := by unfold flipR; rw [hok]; rfl
   have c0 : cntR x = ([], 1) := by unfold cntR; rw [hok]; rfl
   rw [p1, Option.bind_some]
   dsimp only
   rw [p2, Option.bind_some]
   dsimp only
   have t9 : laws_parts9.f [] [] = some true := parts9_refl [] (by simp) (fun p hp => nomatch hp)
   rw [bne_same, cond_false, t9, Option.bind_some, Option.bind_some]
   simp only [Bool.not_true, cond_false]
   rw [isword_eq x1 x2, Option.bind_some, ei, Option.bind_some, bne_same, Option.bind_some, cond_false, legsOf_impl x1 x2, Option.bind_some, l0]
   dsimp only
   rw [legsOf_spec x1 x2, Option.bind_some, l0]
   dsimp only
   simp only [bne_same, Bool.or_false, cond_false]
   rw [eulerOf_impl x1 x2, Option.bind_some, u0]
   dsimp only
   rw [eulerOf_spec x1 x2, Option.bind_some, u0]
   dsimp only
   simp only [bne_same, Bool.or_false, cond_false]
   rw [flip_impl x1 x2, Option.bind_some, f0]
   dsimp only
   rw [flip_spec x1 x2, Option.bind_some, f0]
   dsimp only
   simp only [bne_same, Bool.or_false, cond_false]
   rw [countPieces_impl x1 x2, Option.bind_some, c0]
   dsimp only
   rw [countPieces_spec x1 x2, Option.bind_some, c0]
   dsimp only
   rw [bne_same, cond_false, likeInts_refl [] (by simp), Option.bind_some, Option.bind_some]
   simp only [Bool.not_true, cond_false]
   rw [ec, Option.bind_some]
   dsimp only
   rw [ci, Option.bind_some]
   dsimp only
   rw [cs, Option.bind_some]
   dsimp only
   simp only [bne_same, Bool.or_false, cond_false]
   rw [eb, Option.bind_some]
   dsimp only
   rw [bi, Option.bind_some]
   dsimp only
   rw [bs, Option.bind_some]
   dsimp only
   simp only [bne_same, Bool.or_false, cond_false]
   rw [hcp, Option.bind_some]
   simp only [jn]
   rw [hbp, Option.bind_some]
   rfl
  | true =>
   obtain ⟨ps, q1, q2, hps⟩ := parts_same x1 x2 hok
   have p1 : impl_PartsOf.f x = some (ps, 0) := by unfold impl_PartsOf.f; rw [isword_eq x1 x2, hok, Option.bind_some]; show (impl_parts.f x).bind _ = _; rw [q1]; rfl
   have p2 : spec_PartsOf.f x = some (ps, 0) := by unfold spec_PartsOf.f; rw [spec_is x1 x2, hok, Option.bind_some]; show (spec_l04Parts.f x).bind _ = _; rw [q2]; rfl
   have l0 : legsR x = ((insW (lays x) : Int), (outsW (lays x) : Int), 0) := by unfold legsR; rw [hok]; rfl
   have u0 : eulR x = (eulW x, 0) := by unfold eulR; rw [hok]; rfl
   have f0 : flipR x = (flipW x, 0) := by unfold flipR; rw [hok]; rfl
   have c0 : cntR x = (cnts x, 0) := by unfold cntR; rw [hok]; rfl
   obtain ⟨z1, z2, z3, z4⟩ := flip_word hok
   have zl := ok_len z1 (by omega)
   have f1 : flipR (flipW x) = (x, 0) := by unfold flipR; rw [z1, z4]; rfl
   have hlx := ok_len hok x2
   rw [p1, Option.bind_some]
   dsimp only
   rw [p2, Option.bind_some]
   dsimp only
   have t9 : laws_parts9.f ps ps = some true := parts9_refl ps hps.len (fun p hp => ⟨(hps.genus p hp).2.2.1, (hps.genus p hp).2.2.2⟩)
   rw [bne_same, cond_false, t9, Option.bind_some, Option.bind_some]
   simp only [Bool.not_true, cond_false]
   rw [isword_eq x1 x2, Option.bind_some, ei, Option.bind_some, bne_same, Option.bind_some, cond_false, legsOf_impl x1 x2, Option.bind_some, l0]
   dsimp only
   rw [legsOf_spec x1 x2, Option.bind_some, l0]
   dsimp only
   simp only [bne_same, Bool.or_false, cond_false]
   rw [eulerOf_impl x1 x2, Option.bind_some, u0]
   dsimp only
   rw [eulerOf_spec x1 x2, Option.bind_some, u0]
   dsimp only
   simp only [bne_same, Bool.or_false, cond_false]
   rw [flip_impl x1 x2, Option.bind_some, f0]
   dsimp only
   rw [flip_spec x1 x2, Option.bind_some, f0]
   dsimp only
   simp only [bne_same, Bool.or_false, cond_false]
   rw [countPieces_impl x1 x2, Option.bind_some, c0]
   dsimp only
   rw [countPieces_spec x1 x2, Option.bind_some, c0]
   dsimp only
   rw [bne_same, cond_false, likeInts_refl (cnts x) (by simp [cnts, signs]), Option.bind_some, Option.bind_some]
   simp only [Bool.not_true, cond_false]
   rw [ec, Option.bind_some]
   dsimp only
   rw [ci, Option.bind_some]
   dsimp only
   rw [cs, Option.bind_some]
   dsimp only
   simp only [bne_same, Bool.or_false, cond_false]
   rw [eb, Option.bind_some]
   dsimp only
   rw [bi, Option.bind_some]
   dsimp only
   rw [bs, Option.bind_some]
   dsimp only
   simp only [bne_same, Bool.or_false, cond_false]
   rw [hcp, Option.bind_some]
   simp only [jn]
   rw [hbp, Option.bind_some]
   dsimp only [jn]
   rw [parts_loop hps.len hps.genus, Option.bind_some]
   dsimp only [ln]
   rw [flip_impl (w := flipW x) (by omega) (by omega), Option.bind_some, f1]
   dsimp only
   rw [hps.ins, hps.outs, hps.euler]
   simp only [beq_self_eq_true, cond_true]
   have cl : (cnts x).length = 6 := rfl
   have k1 : x.count 117 ≤ 273 := Nat.le_trans List.count_le_length hlx
   have k2 : x.count 101 ≤ 273 := Nat.le_trans List.count_le_length hlx
   have k3 : x.count 109 ≤ 273 := Nat.le_trans List.count_le_length hlx
   have k4 : x.count 115 ≤ 273 := Nat.le_trans List.count_le_length hlx
   have g4 : gt (cnts x) 4 = ((x.count 117 : Nat) : Int) := rfl
   have g5 : gt (cnts x) 5 = ((x.count 101 : Nat) : Int) := rfl
   have g2 : gt (cnts x) 2 = ((x.count 109 : Nat) : Int) := rfl
   have g3 : gt (cnts x) 3 = ((x.count 115 : Nat) : Int) := rfl
   rw [cl, chk_in (by omega), chk_in (by omega), chk_in (by omega), chk_in (by omega), g4, g5, g2, g3]
   rw [w64_in (x := ((x.count 117 : Nat) : Int) + ((x.count 101 : Nat) : Int)) (by omega), w64_in (x := ((x.count 117 : Nat) : Int) + ((x.count 101 : Nat) : Int) - ((x.count 109 : Nat) : Int)) (by omega), w64_in (by omega), cnts_eul]
   have : ((x.map eul).sum == eulW x) = true := by unfold eulW; simp
   rw [this]
 rw [decide_eq_true (by omega)]; rfl
end Go.Proofs.YtpejnjpckacciaaGreatDoor.G
namespace Go.Sx
open Go.RowKit
def pieces (l : List Value) : Nat → List Nat → List Value
  | _, [] => []
  | o, m :: r => (l.drop o).take m ++ pieces l (o + m) r
theorem okWideV_slice {P : Program} {W : World} {r : Reach} {base : Nat} {t e : TypeId} {v : Value} (ht : P.underlying t = some (.slice e)) (h : Value.okWide P W r base t v) : ∃ a n c, v = .slice a n c := by
 unfold Value.okWide at h
 rw [ht] at h
 simp only at h
 unfold Cell.okWide at h
 rw [ht] at h
 simp only at h
 unfold Cell.ok at h
 rw [ht] at h
 cases v <;> simp at h
 exact ⟨_, _, _, rfl⟩
theorem reads_of {β : Type} {E : FE β} {W : World} {a : Addr} {n cap : Nat} {ys : List β} (hn : n = ys.length) (hpos : 0 < E.sz) (hc : ∀ (j : Nat) (u : Value), (encs E ys)[j]? = some u → W.cell? (a.add j) = some u) (h1 : n ≤ cap) (h2 : cap ≤ maxLen) : Reads E (hp W) ⟨some a, n, cap⟩ ys := by
 subst hn
 refine ⟨rfl, h1, h2, ?_⟩
 cases ys with
 | nil => exact .inl rfl
 | cons y ys =>
  right
  have hl : 0 < (encs E (y :: ys)).length := by rw [encs_length, List.length_cons, Nat.add_mul]; omega
  have h0 := hc 0 _ (List.getElem?_eq_getElem hl)
  obtain ⟨b, o, sp'⟩ := a
  have e0 : (⟨b, o, sp'⟩ : Addr).add 0 = ⟨b, o, sp'⟩ := by simp [Addr.add]
  rw [e0] at h0
  unfold World.cell? at h0
  split at h0
  ·rename_i cs T fr hb
   have hsp : sp' = none := by
    cases sp' with
    | none => rfl
    | some x => simp at h0
   subst hsp
   refine ⟨b, o, cs, T, fr, rfl, hb, ?_⟩
   intro j u hu
   have := hc j u hu
   rwa [add_none, cell_at hb] at this
  cases h0
theorem u8v_of {z : Int} (h : IntKind.u8.has z) : u8v (UInt8.ofInt z) = .int .u8 z := by
 have hw' : 0 ≤ z ∧ z ≤ 255 := by
  simp only [IntKind.has, IntKind.min, IntKind.max, IntKind.signed, IntKind.bits] at h
  simpa using h
 rw [← conv_i64_u8]
 congr 1
 rw [IntKind.wrap_u8]; omega
theorem encs_bytes (ys : List UInt8) : encs Eu ys = ys.map u8v := by
 induction ys with
 | nil => rfl
 | cons y ys ih => simp only [encs, List.flatMap_cons, List.map_cons] at ih ⊢; rw [ih]; rfl
theorem okWideV_bytes {H : Type} {r : Reach} {base : Nat} {enc : TypeId × Value → H} {P : Program} {W : World} {sp : Nat → Bool} {held : Bool} {t e : TypeId} {v : Value} {d : DataW H} {p : List MemPlace} (ht : P.underlying t = some (.slice e)) (he : P.underlying e = some (.int .u8)) (hc : P.cellsOf e = 1)
  (hv : Value.okWide P W r base t v) (h : DataW.Trod enc P W 0 sp held t v d p) : ∃ (s : SV) (ys : List UInt8), v = s.v ∧ Reads Eu (hp W) s ys := by
 obtain ⟨m, hm⟩ := h
 obtain ⟨a1, n1, c1, rfl⟩ := okWideV_slice ht hv
 have hcl : (Value.slice a1 n1 c1).cells.toList = [Value.slice a1 n1 c1] := rfl
 rw [hcl] at hm
 rcases ChangeShapes.open_ints ht he hc hm with ⟨h1, h2⟩ | ⟨a, len, cap, zs, h1, _, h3, h4, h5, h6, h7, h8⟩
 ·injection h1 with h1
  exact ⟨⟨none, 0, 0⟩, [], h1, ⟨rfl, Nat.le_refl _, by simp [maxLen], .inl rfl⟩⟩
 injection h1 with h1
 have hlen : len ≤ zs.length := by rw [h5]; split <;> omega
 refine ⟨⟨some a, len, cap⟩, (zs.take len).map UInt8.ofInt, h1, reads_of (by simp; omega) (by decide) ?_ h3 h4⟩
 intro j u hu
 rw [encs_bytes, List.map_map, List.getElem?_map, List.getElem?_take] at hu
 split at hu
 ·rename_i hj
  have hz := h7 j (by omega)
  have hg : zs[j]? = some (zs[j]'(by omega)) := List.getElem?_eq_getElem _
  have hw : IntKind.u8.has (zs[j]'(by omega)) := by
   have := h8 _ (List.getElem_mem (l := zs) (n := j) (by omega))
   simp only [Lit.wf, Bool.and_eq_true, decide_eq_true_eq] at this
   exact this
  rw [hg] at hu
  simp only [Option.map_some, Function.comp_apply, u8v_of hw] at hu
  rw [hz, ← hu]
  simp [List.getD, hg]
 simp at hu
end Go.Sx
