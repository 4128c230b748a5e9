/- Sx5: stores, slices made and appended to, literals, strings, function values. -/
import Derived.Test.YtgljkechjkllgaaSx4
import Derived.Laws.MakeOwn
import Derived.Laws.Concat
namespace Go.Sx
open Go.RowKit

section
variable {P : Program} {w0 : World} {n : Nat} {I : Hp} {Γ : Gm} {L : List Asn} {cs : List Code} {α : Type} {m : Option α} {D : α → Post} {ops : Array Oper} {os : List Oper}
variable {d : Nat} {ty : TypeId} {pos : String} {af : Array Edge} {g : Option (Nat × Bool)}

/-! ### values of arrays -/
theorem TL.ixv1 {T e : TypeId} {x ix : Operand} {len : Nat} {f : Nat → Value} {kd : IntKind} (i : Int) (hb : 0 ≤ i ∧ i < len) (hT : P.underlying T = some (.array len e)) (ha : ∀ w, (isAgg e).run P w = .ok false w) (hz : ∀ w, (sizeOf e).run P w = .ok 1 w)
    {v : Value} (hv : f i.toNat = v) (hg : gd ops Γ ⟨some d, .index T x ix, ty, pos, af, g⟩ = some true) (hn : Nat.blt d n = true) (hx : ev Γ x = some (sval [.arr len f])) (hi : ev Γ ix = some (.int kd i))
    (k : TL P w0 n I ((d, v) :: Γ) L ops os cs m D) : TL P w0 n I Γ L ops (⟨some d, .index T x ix, ty, pos, af, g⟩ :: os) cs m D := by
  subst hv
  refine .val hg rfl (by simpa using hn) (fun a w hF _ => run_v ?_) k
  rw [hF.eval hx, hF.eval hi]
  have hlt : i.toNat < len := by omega
  simp [Instr.index, sval, flat, Seg.cells, Sem.run_bind, run_underlying hT, asIntOf, hb, hz w, part, ha w, hlt]

theorem TL.ixvN {T e : TypeId} {x ix : Operand} {len M N : Nat} {f : Nat → Value} {kd : IntKind} (i : Int) (hb : 0 ≤ i ∧ i < len) (hT : P.underlying T = some (.array len e)) (ha : ∀ w, (isAgg e).run P w = .ok true w) (hz : ∀ w, (sizeOf e).run P w = .ok M w)
    (hN : N = len * M) {v : Value} (hv : sval [.arr M (Sx.sub f (i.toNat * M))] = v) (hg : gd ops Γ ⟨some d, .index T x ix, ty, pos, af, g⟩ = some true) (hn : Nat.blt d n = true) (hx : ev Γ x = some (sval [.arr N f])) (hi : ev Γ ix = some (.int kd i))
    (k : TL P w0 n I ((d, v) :: Γ) L ops os cs m D) : TL P w0 n I Γ L ops (⟨some d, .index T x ix, ty, pos, af, g⟩ :: os) cs m D := by
  subst hv
  refine .val hg rfl (by simpa using hn) (fun a w hF _ => run_v ?_) k
  rw [hF.eval hx, hF.eval hi]
  have hle : i.toNat * M + M ≤ N := by
    have h1 : i.toNat + 1 ≤ len := by omega
    have h2 := Nat.mul_le_mul_right M h1
    rw [Nat.add_mul] at h2; omega
  have hp := flat_part (segs := [.arr N f]) (j := 0) rfl (k := i.toNat * M) (m := M) hle
  have hs : soff [Seg.arr N f] 0 = 0 := rfl
  rw [hs, Nat.zero_add] at hp
  simp only [Instr.index, sval, Sem.run_bind, run_underlying hT, asIntOf, Sem.run_pure, Result.andThen_ok, hb, and_self, if_true, hz w, part, ha w]
  rw [← hp]
  congr 2
  apply Array.ext'
  simp

theorem TL.ixstr {T : TypeId} {x ix : Operand} {s : Str} {kd : IntKind} (i : Int) (hb : 0 ≤ i ∧ i < s.length) (hT : P.underlying T = some .string)
    (hg : gd ops Γ ⟨some d, .index T x ix, ty, pos, af, g⟩ = some true) (hn : Nat.blt d n = true) (hx : ev Γ x = some (strv s)) (hi : ev Γ ix = some (.int kd i))
    (k : TL P w0 n I ((d, u8v (gt s i)) :: Γ) L ops os cs m D) : TL P w0 n I Γ L ops (⟨some d, .index T x ix, ty, pos, af, g⟩ :: os) cs m D := by
  refine .val hg rfl (by simpa using hn) (fun a w hF _ => run_v ?_) k
  rw [hF.eval hx, hF.eval hi]
  have h1 : (ByteArray.mk s.toArray)[i.toNat]? = some (gt s i) := by
    have hlt : i.toNat < (ByteArray.mk s.toArray).size := by show i.toNat < s.toArray.size; simp; omega
    rw [getElem?_pos (ByteArray.mk s.toArray) i.toNat hlt]
    have := gt_spec hb
    have h2 : s.toArray[i.toNat]? = some (gt s i) := by simpa using this
    have h3 : (ByteArray.mk s.toArray)[i.toNat] = s.toArray[i.toNat]'hlt := rfl
    rw [h3]
    rw [← h2]; simp
  simp [Instr.index, strv, Sem.run_bind, run_underlying hT, asIntOf, hb.1, h1, u8v]

/-! ### stores -/
theorem setCell_heap {w : World} {b o : Nat} {cs : Array Value} {T : TypeId} {fr : Nat × Nat} {v : Value} (h : w.heap[b]? = some (.cells cs T fr)) : (w.setCell ⟨b, o, none⟩ v).heap[b]? = some (.cells (cs.setIfInBounds o v) T fr) := by
  simp [World.setCell, Array.getElem?_modify, h]
theorem setCell_rest {w : World} {b o k : Nat} {v : Value} (h : k ≠ b) : (w.setCell ⟨b, o, none⟩ v).heap[k]? = w.heap[k]? := Below.heap_setCell w ⟨b, o, none⟩ v k h
theorem setRow_rest {w : World} {b k : Nat} {c : Array Value} (h : k ≠ b) : (w.setRow b c).heap[k]? = w.heap[k]? := setRow_other w b k c h

theorem run_storeVar1 {T : TypeId} {w : World} {b o : Nat} {cs : Array Value} {T' : TypeId} {v : Value} (hz : (sizeOf T).run P w = .ok 1 w) (hc : v.cells = #[v]) (h1 : v.oneCell' = true) (h : w.heap[b]? = some (.cells cs T' (0, 0))) (ho : o < cs.size) :
    (storeVar T ⟨b, o, none⟩ v).run P w = .ok () (w.setCell ⟨b, o, none⟩ v) := by
  have hcell : w.cell? ⟨b, o, none⟩ = some cs[o] := by simp [cell_at h, ho]
  have hfro : w.frozen? ⟨b, o, none⟩ = false := by simp [World.frozen?, h]
  have hst : (store (⟨b, o, none⟩ : Addr) v).run P w = .ok () (w.setCell ⟨b, o, none⟩ v) := by
    rw [run_store P w _ v _ h1, hcell]; simp [hfro]
  have hadd : (⟨b, o, none⟩ : Addr).add 0 = ⟨b, o, none⟩ := add_none b o 0
  simp [storeVar, Sem.run_bind, hz, hc, storeCells, hadd, hst]

theorem run_storeVarN {T : TypeId} {w : World} {b o M : Nat} {cs : Array Value} {T' : TypeId} {vs : List Value} (hz : (sizeOf T).run P w = .ok M w) (hM : vs.length = M) (h1 : ∀ v ∈ vs, v.oneCell' = true) (h : w.heap[b]? = some (.cells cs T' (0, 0))) (ho : o + M ≤ cs.size) :
    (storeVar T ⟨b, o, none⟩ (.agg vs.toArray)).run P w = .ok () (w.setRow b (cs.toList.take o ++ vs ++ cs.toList.drop (o + M)).toArray) := by
  have := run_storeCells_at P b o T' vs 0 cs w h (by omega) h1
  rw [hM] at this
  simp only [Nat.add_zero] at this
  simp [storeVar, Sem.run_bind, hz, Value.cells, hM, this]

theorem St.store1 {w : World} {b o : Nat} {T : TypeId} {segs segs' : List Seg} {v : Value} (hS : St w0 I L w) (i : Nat) (hi : L[i]? = some (box b T segs)) (he : (flat segs).set o v = flat segs') : St w0 I (L.set i (box b T segs')) (w.setCell ⟨b, o, none⟩ v) := by
  refine hS.turn hi ?_ rfl rfl rfl (by simp [World.setCell])
  intro ρA hA hh
  simp only [box] at hA; subst hA
  have hb := hh _ (List.mem_singleton.2 rfl)
  refine ⟨[(b, .cells (flat segs').toArray T (0, 0))], rfl, rfl, ?_, ?_⟩
  · intro p hp'
    obtain rfl := List.mem_singleton.1 hp'
    rw [setCell_heap hb, ← he]
    simp
  · intro k hk
    exact setCell_rest (by simpa using hk)
theorem St.storeN {w : World} {b : Nat} {T : TypeId} {segs segs' : List Seg} {cells : List Value} (hS : St w0 I L w) (i : Nat) (hi : L[i]? = some (box b T segs)) (he : cells = flat segs') : St w0 I (L.set i (box b T segs')) (w.setRow b cells.toArray) := by
  subst he
  refine hS.turn hi ?_ rfl rfl rfl (by simp [World.setRow])
  intro ρA hA hh
  simp only [box] at hA; subst hA
  have hb := hh _ (List.mem_singleton.2 rfl)
  refine ⟨[(b, .cells (flat segs').toArray T (0, 0))], rfl, rfl, ?_, ?_⟩
  · intro p hp'
    obtain rfl := List.mem_singleton.1 hp'
    exact setRow_heap w b _ _ T _ hb
  · intro k hk
    exact setRow_rest (by simpa using hk)
theorem St.boxAt {w : World} {b : Nat} {T : TypeId} {segs : List Seg} (hS : St w0 I L w) (i : Nat) (hi : L[i]? = some (box b T segs)) : w.heap[b]? = some (.cells (flat segs).toArray T (0, 0)) := by
  obtain ⟨ρA, hA, hh⟩ := hS.get hi
  simp only [box] at hA; subst hA
  exact hh _ (List.mem_singleton.2 rfl)

theorem run_u {s : Sem Unit} {w w' : World} (h : s.run P w = .ok () w') : (do s; pure Next.skip : Sem Next).run P w = .ok .skip w' := by
  show (Sem.bind s _).run P w = _
  rw [show (Sem.bind s fun _ => (pure Next.skip : Sem Next)) = (s >>= fun _ => pure Next.skip) from rfl, Sem.run_bind, h]
  rfl

/-- A cell of its own is written. -/
theorem TL.st1 {T T' : TypeId} {x y : Operand} {b o : Nat} {u v : Value} {segs : List Seg} (i j : Nat) (hi : L[i]? = some (Sx.box b T' segs)) (hz : ∀ w, (sizeOf T).run P w = .ok 1 w)
    (hj : segs[j]? = some (.one u)) (ho : soff segs j = o) (hc : v.cells = #[v]) (h1 : v.oneCell' = true) (hg : gd ops Γ ⟨none, .store T x y, ty, pos, af, g⟩ = some true) (hx : ev Γ x = some (bp b o)) (hy : ev Γ y = some v)
    (k : TL P w0 n I Γ (L.set i (Sx.box b T' (segs.set j (.one v)))) ops os cs m D) : TL P w0 n I Γ L ops (⟨none, .store T x y, ty, pos, af, g⟩ :: os) cs m D := by
  refine .skipW hg rfl (fun a w hF hS => ?_) k
  have hb := hS.boxAt i hi
  refine ⟨_, ?_, hS.store1 i hi (flat_set_one hj v)⟩
  refine run_u ?_
  rw [hF.eval hx, hF.eval hy]
  simp only [Instr.storeAt, bp, Instr.sureAddr, Sem.run_bind, Sem.run_pure, Result.andThen_ok]
  rw [← ho]
  have h2 := flat_get_one hj
  exact run_storeVar1 (hz w) hc h1 hb (by rw [List.size_toArray]; exact (List.getElem?_eq_some_iff.1 h2).1)

/-- An element of an array is written. -/
theorem TL.stA {β : Type} {e : β → Value} {t : Nat → β} {T T' : TypeId} {x y : Operand} {b N : Nat} {z : β} {segs : List Seg} (i j q : Nat) (hi : L[i]? = some (Sx.box b T' segs)) (hz : ∀ w, (sizeOf T).run P w = .ok 1 w)
    (hj : segs[j]? = some (.arr N (enf e t))) (hq : q < N) {s o : Nat} (hs : soff segs j = s) (ho : o = s + q) (hc : (e z).cells = #[e z]) (h1 : (e z).oneCell' = true) (hg : gd ops Γ ⟨none, .store T x y, ty, pos, af, g⟩ = some true) (hx : ev Γ x = some (bp b o)) (hy : ev Γ y = some (e z))
    (k : TL P w0 n I Γ (L.set i (Sx.box b T' (segs.set j (.arr N (enf e (upd t q z)))))) ops os cs m D) : TL P w0 n I Γ L ops (⟨none, .store T x y, ty, pos, af, g⟩ :: os) cs m D := by
  subst hs
  refine .skipW hg rfl (fun a w hF hS => ?_) k
  have hb := hS.boxAt i hi
  refine ⟨_, ?_, hS.store1 i hi (flat_set_arr hj hq z)⟩
  refine run_u ?_
  rw [hF.eval hx, hF.eval hy]
  simp only [Instr.storeAt, bp, Instr.sureAddr, Sem.run_bind, Sem.run_pure, Result.andThen_ok]
  rw [ho]
  have h2 := flat_get_arr hj hq
  exact run_storeVar1 (hz w) hc h1 hb (by rw [List.size_toArray]; exact (List.getElem?_eq_some_iff.1 h2).1)

/-- A part of an array is written. -/
theorem TL.stS {β : Type} {e : β → Value} {t gg : Nat → β} {T T' : TypeId} {x y : Operand} {b N M : Nat} {segs : List Seg} (i j q : Nat) (hi : L[i]? = some (Sx.box b T' segs)) (hz : ∀ w, (sizeOf T).run P w = .ok M w) (he : ∀ x, (e x).oneCell' = true)
    (hj : segs[j]? = some (.arr N (enf e t))) (hq : q + M ≤ N) {s o : Nat} (hs : soff segs j = s) (ho : o = s + q) (hg : gd ops Γ ⟨none, .store T x y, ty, pos, af, g⟩ = some true) (hx : ev Γ x = some (bp b o)) (hy : ev Γ y = some (sval [.arr M (enf e gg)]))
    (k : TL P w0 n I Γ (L.set i (Sx.box b T' (segs.set j (.arr N (enf e (updN t q M gg)))))) ops os cs m D) : TL P w0 n I Γ L ops (⟨none, .store T x y, ty, pos, af, g⟩ :: os) cs m D := by
  subst hs
  refine .skipW hg rfl (fun a w hF hS => ?_) k
  have hb := hS.boxAt i hi
  have hM : (flat [Seg.arr M (enf e gg)]).length = M := by simp [flat, Seg.cells]
  refine ⟨_, ?_, hS.storeN i hi (flat_splice_arr hj hq)⟩
  refine run_u ?_
  rw [hF.eval hx, hF.eval hy]
  simp only [Instr.storeAt, bp, Instr.sureAddr, Sem.run_bind, Sem.run_pure, Result.andThen_ok]
  rw [ho]
  refine run_storeVarN (hz w) hM (oneCell_sub he M gg) hb ?_
  rw [List.size_toArray, flat_cut hj, List.length_append, soff_length, List.length_append, Seg.length_cells]
  simp only [Seg.len]; omega

/-- Several parts, or all, are written. -/
theorem TL.stM {T T' : TypeId} {x y : Operand} {b M : Nat} {segs news : List Seg} (i j c : Nat) (hi : L[i]? = some (Sx.box b T' segs)) (hz : ∀ w, (sizeOf T).run P w = .ok M w) (h1 : ones news)
    (hl : slen news = slen ((segs.drop j).take c)) (hM : slen news = M) {o : Nat} (ho : o = soff segs j) (hg : gd ops Γ ⟨none, .store T x y, ty, pos, af, g⟩ = some true) (hx : ev Γ x = some (bp b o)) (hy : ev Γ y = some (sval news))
    (k : TL P w0 n I Γ (L.set i (Sx.box b T' (segs.take j ++ news ++ segs.drop (j + c)))) ops os cs m D) : TL P w0 n I Γ L ops (⟨none, .store T x y, ty, pos, af, g⟩ :: os) cs m D := by
  subst hM
  refine .skipW hg rfl (fun a w hF hS => ?_) k
  have hb := hS.boxAt i hi
  refine ⟨_, ?_, hS.storeN i hi (flat_splice_mid segs news j c hl)⟩
  refine run_u ?_
  rw [hF.eval hx, hF.eval hy]
  simp only [Instr.storeAt, bp, Instr.sureAddr, Sem.run_bind, Sem.run_pure, Result.andThen_ok]
  rw [ho]
  refine run_storeVarN (hz w) (flat_length _) h1 hb ?_
  rw [List.size_toArray, flat_length, hl]; exact soff_le _ _ _

/-! ### slices of one's own -/
theorem encs_set {β : Type} (E : FE β) : ∀ (ys : List β) (i : Nat) (y : β), i < ys.length → encs E (ys.set i y) = (encs E ys).take (i * E.sz) ++ E.enc y ++ (encs E ys).drop (i * E.sz + E.sz)
  | [], i, y, h => by simp at h
  | z :: ys, 0, y, _ => by
    simp only [encs, List.set_cons_zero, List.flatMap_cons, Nat.zero_mul, List.take_zero, List.nil_append, Nat.zero_add]
    rw [← E.len z, List.drop_left]
  | z :: ys, i + 1, y, h => by
    have ih := encs_set E ys i y (by simpa using h)
    simp only [encs, List.set_cons_succ, List.flatMap_cons] at ih ⊢
    rw [ih, show (i + 1) * E.sz = (E.enc z).length + i * E.sz by rw [E.len, Nat.add_mul]; omega, List.take_length_add_append, Nat.add_assoc, List.drop_length_add_append]
    simp

/-- A scalar element is written. -/
theorem TL.stE {β : Type} {E : FE β} {T T' : TypeId} {x y : Operand} {s : SV} {ys : List β} (i q : Nat) (z : β) {v : Value} (hi : L[i]? = some (row E T' s ys)) (hz : ∀ w, (sizeOf T).run P w = .ok 1 w) (hE : E.sz = 1) (hv : E.enc z = [v]) (hc : v.cells = #[v])
    (hq : q < ys.length) {o : Nat} (ho : o = q * E.sz) (hg : gd ops Γ ⟨none, .store T x y, ty, pos, af, g⟩ = some true) (hx : ev Γ x = some (ep s o)) (hy : ev Γ y = some v)
    (k : TL P w0 n I Γ (L.set i (row E T' s (ys.set q z))) ops os cs m D) : TL P w0 n I Γ L ops (⟨none, .store T x y, ty, pos, af, g⟩ :: os) cs m D := by
  refine .skipW hg rfl (fun a w hF hS => ?_) k
  obtain ⟨ρA, hA, hh⟩ := hS.get hi
  have h1 : v.oneCell' = true := E.one z v (by rw [hv]; exact List.mem_singleton.2 rfl)
  rcases hA with ⟨rfl, rfl, rfl⟩ | ⟨b, p, cap, cur, rfl, rfl, h2, h3, h4, h5⟩
  · simp at hq
  · have hb := hh _ (List.mem_singleton.2 rfl)
    have hoq : o = q := by rw [ho, hE, Nat.mul_one]
    have hsz : p + o < cur.size := by rw [hE] at h4; omega
    refine ⟨w.setCell ⟨b, p + o, none⟩ v, ?_, ?_⟩
    · refine run_u ?_
      rw [hF.eval hx, hF.eval hy]
      simp only [Instr.storeAt, ep, add_none, Instr.sureAddr, Sem.run_bind, Sem.run_pure, Result.andThen_ok]
      exact run_storeVar1 (hz w) hc h1 hb hsz
    · refine hS.turn hi ?_ rfl rfl rfl (by simp [World.setCell])
      intro ρB hB hhB
      rcases hB with ⟨hB, _⟩ | ⟨b', p', cap', cur', hs', rfl, _, _, _, _⟩
      · cases hB
      · injection hs' with hs1 hs2 hs3
        injection hs1 with hs1
        injection hs1 with hs1 hs4
        subst hs1 hs3 hs4
        have hb' := hhB _ (List.mem_singleton.2 rfl)
        rw [hb] at hb'
        injection hb' with hb'
        injection hb' with hb'
        subst hb'
        refine ⟨[(b, .cells (cur.setIfInBounds (p + o) v) T' (0, 0))], .inr ⟨b, p, cap, _, by rw [List.length_set], rfl, by rw [List.length_set]; exact h2, h3, by simpa using h4, ?_⟩, rfl, ?_, ?_⟩
        · rw [List.length_set, encs_set E ys q z hq, ← h5, hv, Array.toList_setIfInBounds, List.drop_set, if_neg (by omega), Nat.add_sub_cancel_left, List.take_set, ho, hE, Nat.mul_one, Nat.mul_one]
          have hlen : q < (List.take ys.length (List.drop p cur.toList)).length := by rw [hE] at h4; simp; omega
          rw [List.set_eq_take_append_cons_drop, if_pos hlen]
          simp
        · intro r hr
          obtain rfl := List.mem_singleton.1 hr
          exact setCell_heap hb
        · intro k hk
          exact setCell_rest (by simpa using hk)
end
end Go.Sx
