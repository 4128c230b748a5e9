/- Sx7: slices made and appended to; literals; function values. -/
import Derived.Test.YtgljkechjkllgaaSx6
namespace Go.Sx
open Go.RowKit

theorem encs_rep {β : Type} (E : FE β) (z : β) (k : Nat) : encs E (List.replicate k z) = (List.replicate k (E.enc z)).flatten := by
  simp [encs, List.flatMap_replicate]
theorem range_cycle (z : List Value) (hz : z ≠ []) : ∀ k, (List.range (k * z.length)).map (fun i => z.toArray[i % z.length]!) = (List.replicate k z).flatten
  | 0 => by simp
  | k + 1 => by
    rw [Nat.add_mul, Nat.one_mul, List.range_add, List.map_append, range_cycle z hz k, List.replicate_succ', List.flatten_append]
    congr 1
    simp only [List.flatten_cons, List.flatten_nil, List.append_nil, List.map_map]
    apply List.ext_getElem?
    intro j
    simp only [List.getElem?_map]
    by_cases hj : j < z.length
    · rw [List.getElem?_range hj]
      have h1 : (k * z.length + j) % z.length = j := by rw [Nat.add_comm, Nat.add_mul_mod_self_right]; exact Nat.mod_eq_of_lt hj
      simp [h1, hj]
    · simp [hj]
theorem madeCells_eq (z : List Value) (hz : z ≠ []) (k : Nat) : (madeCells z.toArray (k * z.length)).toList = (List.replicate k z).flatten := by
  rw [← range_cycle z hz k]
  simp [madeCells]

section
variable {P : Program} {w0 : World} {n : Nat} {I : Hp} {Γ : Gm} {L : List Asn} {cs : List Code} {α : Type} {m : Option α} {D : α → Post} {ops : Array Oper} {os : List Oper}
variable {d : Nat} {ty : TypeId} {pos : String} {af : Array Edge} {g : Option (Nat × Bool)}

/-- make with one length. -/
theorem TL.mkslice {T e : TypeId} {i : TypeInfo} {zv : Value} {x y : Operand} {kd kd' : IntKind} {β : Type} (E : FE β) (z : β) (len : Int) (hT : P.underlying T = some (.slice e)) (hi : P.info? e = some i) (hzv : i.zero = some zv) (hzc : zv.cells = (E.enc z).toArray) (hsz : i.size = E.sz) (hpos : E.enc z ≠ []) (hby : i.bytes ≤ 64)
    (h0 : 0 ≤ len) (h1 : len.toNat ≤ 1099511627776)
    (hg : gd ops Γ ⟨some d, .makeSlice T x y, ty, pos, af, g⟩ = some true) (hn : Nat.blt d n = true) (hx : ev Γ x = some (.int kd len)) (hy : ev Γ y = some (.int kd' len))
    (k : ∀ s, TL P w0 n I ((d, SV.v s) :: Γ) (row E e s (List.replicate len.toNat z) :: L) ops os cs m D) : TL P w0 n I Γ L ops (⟨some d, .makeSlice T x y, ty, pos, af, g⟩ :: os) cs m D := by
  refine .valW (γ := SV) (vf := fun s => s.v) (Lf := fun s => row E e s (List.replicate len.toNat z) :: L) hg rfl (by simpa using hn) (fun a w hF hS => ⟨⟨some ⟨w.heap.size, 0, none⟩, len.toNat, len.toNat⟩, w.alloc (.cells (madeCells zv.cells (len.toNat * i.size)) e), ?_, ?_⟩) k
  · refine run_v ?_
    rw [hF.eval hx, hF.eval hy]
    have hb : (i.bytes : Int) * len ≤ 281474976710656 := by
      have h2 : len ≤ 1099511627776 := by omega
      have h3 : (i.bytes : Int) * len ≤ 64 * 1099511627776 := Int.mul_le_mul (by omega) h2 h0 (by omega)
      omega
    exact run_make w T e i zv hT hi hzv kd kd' len len h0 (Int.le_refl _) hb (by omega)
  · obtain ⟨ρ, hs, ho⟩ := (hS.alloc (.cells (madeCells zv.cells (len.toNat * i.size)) e)).own
    obtain ⟨ρ1, ρ2, rfl, rfl, h2⟩ := hs
    have h3 := hS.alloc (.cells (madeCells zv.cells (len.toNat * i.size)) e)
    refine ⟨h3.below, h3.i0, h3.iw, _, ⟨_, ρ2, rfl, .inr ⟨w.heap.size, 0, len.toNat, _, by rw [List.length_replicate], rfl, by simp, by simp only [maxLen]; omega, ?_, ?_⟩, h2⟩, ho⟩
    · rw [size_madeCells, hsz]; omega
    · have hlen : E.sz = (E.enc z).length := (E.len z).symm
      rw [hzc, hsz, List.length_replicate, encs_rep, hlen, ← madeCells_eq _ hpos, List.drop_zero, List.take_of_length_le]
      rw [Array.length_toList, size_madeCells]; omega

/-- A slice's literal. The parts' cells are told all in all. -/
theorem TL.bslice {T e : TypeId} {len : Nat} {parts : Array (Nat × Operand)} {β : Type} (E : FE β) (ys : List β) (cells : Array Value) (hT : P.underlying T = some (.slice e)) (hz : ∀ w, (sizeOf e).run P w = .ok E.sz w) {zv : Value} (hzv : ∀ w, (zeroValue e).run P w = .ok zv w)
    (hl : ys.length = len) (hsm : Nat.ble (len * E.sz) 1000 = true) (hpos : Nat.beq (len * E.sz) 0 = false)
    (vs : List (Nat × Value)) (hvs : parts.toList.map (fun p => (p.1, ev Γ p.2)) = vs.map (fun p => (p.1, some p.2)))
    (hfill : Instr.fill (fun i => some (i * E.sz, E.sz)) (Array.map (fun x => zv.cells[x % zv.cells.size]!) (Array.range (len * E.sz))) vs = some cells) (hc : cells.toList = encs E ys)
    (hg : gd ops Γ ⟨some d, .buildSlice T len parts, ty, pos, af, g⟩ = some true) (hn : Nat.blt d n = true)
    (k : ∀ s, TL P w0 n I ((d, SV.v s) :: Γ) (row E e s ys :: L) ops os cs m D) : TL P w0 n I Γ L ops (⟨some d, .buildSlice T len parts, ty, pos, af, g⟩ :: os) cs m D := by
  refine .valW (γ := SV) (vf := fun s => s.v) (Lf := fun s => row E e s ys :: L) hg rfl (by simpa using hn) (fun a w hF hS => ⟨⟨some ⟨w.heap.size, 0, none⟩, len, len⟩, w.alloc (.cells cells e), ?_, ?_⟩) k
  · refine run_v ?_
    have hp : (parts.map fun (p : Nat × Operand) => (p.1, a.eval p.2)).toList = vs := by
      rw [Array.toList_map]
      have key : ∀ (ps : List (Nat × Operand)) (us : List (Nat × Value)), ps.map (fun p => (p.1, ev Γ p.2)) = us.map (fun p => (p.1, some p.2)) → ps.map (fun p => (p.1, a.eval p.2)) = us := by
        intro ps
        induction ps with
        | nil => intro us h; cases us with
          | nil => rfl
          | cons u us => simp at h
        | cons p ps ih => intro us h; cases us with
          | nil => simp at h
          | cons u us =>
            simp only [List.map_cons, List.cons.injEq, Prod.mk.injEq] at h ⊢
            obtain ⟨⟨h1, h2⟩, h3⟩ := h
            exact ⟨Prod.ext h1 (hF.eval h2), ih us h3⟩
      exact key _ _ hvs
    have hne : ¬ len * E.sz = 0 := fun e => by rw [e] at hpos; simp at hpos
    have hle : ¬ len * E.sz > 2 ^ 24 := by have := Nat.le_of_ble_eq_true hsm; omega
    simp only [Instr.buildSlice, Sem.run_bind, run_underlying hT, Result.andThen_ok, hz w, hle, hne, if_false, hzv w, hp, hfill, Sem.run_pure]
    rfl
  · obtain ⟨ρ, hs, ho⟩ := (hS.alloc (.cells cells e)).own
    obtain ⟨ρ1, ρ2, rfl, rfl, h2⟩ := hs
    have h3 := hS.alloc (.cells cells e)
    have hsize : cells.size = len * E.sz := by rw [← Array.length_toList, hc, encs_length, hl]
    have hm := Nat.le_of_ble_eq_true hsm
    have hlen : len ≤ len * E.sz := by
      have : E.sz ≠ 0 := fun e => by rw [e] at hpos; simp at hpos
      exact Nat.le_mul_of_pos_right _ (by omega)
    refine ⟨h3.below, h3.i0, h3.iw, _, ⟨_, ρ2, rfl, .inr ⟨w.heap.size, 0, len, _, by rw [hl], rfl, by omega, by simp only [maxLen]; omega, by omega, ?_⟩, h2⟩, ho⟩
    rw [List.drop_zero, hl, ← hc, List.take_of_length_le]
    rw [Array.length_toList]; omega

/-- A literal without elements: a slice of length 0, not nil. -/
theorem TL.bslice0 {T e : TypeId} {β : Type} (E : FE β) (hT : P.underlying T = some (.slice e)) (hz : ∀ w, (sizeOf e).run P w = .ok E.sz w)
    (hg : gd ops Γ ⟨some d, .buildSlice T 0 #[], ty, pos, af, g⟩ = some true) (hn : Nat.blt d n = true)
    (k : ∀ s, TL P w0 n I ((d, SV.v s) :: Γ) (row E e s [] :: L) ops os cs m D) : TL P w0 n I Γ L ops (⟨some d, .buildSlice T 0 #[], ty, pos, af, g⟩ :: os) cs m D := by
  refine .valW (γ := SV) (vf := fun s => s.v) (Lf := fun s => row E e s [] :: L) hg rfl (by simpa using hn) (fun a w hF hS => ⟨⟨some ⟨w.heap.size, 0, none⟩, 0, 0⟩, w.alloc (.cells #[] e), ?_, ?_⟩) k
  · refine run_v ?_
    simp only [Instr.buildSlice, Sem.run_bind, run_underlying hT, Result.andThen_ok, hz w, Nat.zero_mul]
    simp [Instr.fill, newRow, newObj, Sem.run, SV.v, Array.range_zero']
  · obtain ⟨ρ, hs, ho⟩ := (hS.alloc (.cells #[] e)).own
    obtain ⟨ρ1, ρ2, rfl, rfl, h2⟩ := hs
    have h3 := hS.alloc (.cells #[] e)
    exact ⟨h3.below, h3.i0, h3.iw, _, ⟨_, ρ2, rfl, .inr ⟨w.heap.size, 0, 0, #[], rfl, rfl, Nat.le_refl _, by simp [maxLen], by simp, by simp [encs]⟩, h2⟩, ho⟩

theorem row_nil {β : Type} (E : FE β) (T : TypeId) : row E T ⟨none, 0, 0⟩ ([] : List β) [] := .inl ⟨rfl, rfl, rfl⟩
theorem St.nilrow {w : World} {β : Type} (E : FE β) (T : TypeId) (hS : St w0 I L w) : St w0 I (row E T ⟨none, 0, 0⟩ ([] : List β) :: L) w := by
  obtain ⟨ρ, hs, ho⟩ := hS.own
  exact ⟨hS.below, hS.i0, hS.iw, ρ, ⟨[], ρ, rfl, row_nil E T, hs⟩, ho⟩
/-- A nil slice is a piece, too. -/
theorem TL.nilrow {β : Type} (E : FE β) (T : TypeId) (k : TL P w0 n I Γ (row E T ⟨none, 0, 0⟩ ([] : List β) :: L) ops os cs m D) : TL P w0 n I Γ L ops os cs m D :=
  fun a w hF hS o ho => k a w hF (hS.nilrow E T) o ho
theorem TC.nilrow {β : Type} (E : FE β) (T : TypeId) (k : TC P w0 n I Γ (row E T ⟨none, 0, 0⟩ ([] : List β) :: L) cs m D) : TC P w0 n I Γ L cs m D :=
  fun a w hF hS o ho => k a w hF (hS.nilrow E T) o ho

/-- The world behind an append to a row of one's own: at the row's place stands the new one. -/
theorem run_append {w : World} {T e ty : TypeId} {i : TypeInfo} {zv : Value} {β : Type} {E : FE β} {s t : SV} {ys zs : List β} (j : Nat) (hS : St w0 I L w) (hj : L[j]? = some (row E e s ys)) (hr : Reads E (hp w) t zs)
    (hT : P.underlying T = some (.slice e)) (hi : P.info? e = some i) (hzv : i.zero = some zv) (hsz : i.size = E.sz) (hzs : zv.cells.size = E.sz) (hby : i.bytes ≤ 64) (hsm : ys.length + zs.length ≤ 1099511627776) :
    ∃ s' w', (Builtin.append_ #[T, T] ty #[s.v, t.v]).run P w = .ok (SV.v s') w' ∧ St w0 I (L.set j (row E e s' (ys ++ zs))) w' := by
  obtain ⟨t0, t1, t2, t3⟩ := hr
  obtain ⟨ρA, hA, hh⟩ := hS.get hj
  have hbytes : (ys.length + zs.length) * i.bytes ≤ 140737488355328 := by
    have h1 : (ys.length + zs.length) * i.bytes ≤ 1099511627776 * 64 := Nat.mul_le_mul hsm hby
    omega
  -- nothing is appended
  by_cases hzn : zs = []
  · subst hzn
    refine ⟨s, w, ?_, ?_⟩
    · have hn0 : t.n = 0 := by simpa using t0
      have hle : s.n ≤ s.c := by
        rcases hA with ⟨rfl, _⟩ | ⟨b, o, cap, cur, rfl, _, h1, _⟩
        · exact Nat.le_refl _
        · exact h1
      cases hta : t.a <;> cases hsa : s.a <;> simp [Builtin.append_, SV.v, hta, hsa, hn0, run_underlying hT, sizeOf, typeInfo, hi, Builtin.lenOf, hle, Builtin.firstCells, loadCells, loadCellsFrom, storeCells]
    · rw [List.append_nil]
      have hj2 : j < L.length := (List.getElem?_eq_some_iff.1 hj).1
      rw [← (List.getElem?_eq_some_iff.1 hj).2, List.set_getElem_self]
      exact hS
  obtain ⟨q, p, src, T', fr, hta, hw, hc⟩ := t3.resolve_left hzn
  have htv : t.v = .slice (some ⟨q, p, none⟩) zs.length t.c := by simp [SV.v, hta, t0]
  have hnews : ∀ (w2 : World), (hp w q = hp w2 q) → ∀ k u, (encs E zs)[k]? = some u → w2.cell? ((⟨q, p, none⟩ : Addr).add k) = some u := by
    intro w2 he k u hu
    rw [add_none, cell_at (by rw [show w2.heap[q]? = hp w2 q from rfl, ← he]; exact hw)]
    exact hc k u hu
  have hzl : 0 < zs.length := by cases zs with
    | nil => exact absurd rfl hzn
    | cons z zs => simp
  have hlen : (encs E zs).length = zs.length * i.size := by rw [encs_length, hsz]
  -- a new row
  have fresh : ∀ (olds : List Value) (cap : Nat), olds = encs E ys → ys.length + zs.length ≤ cap → cap ≤ maxLen →
      St w0 I (L.set j (row E e ⟨some ⟨w.heap.size, 0, none⟩, ys.length + zs.length, cap⟩ (ys ++ zs))) (w.drew.alloc (.cells (olds.toArray ++ (encs E zs).toArray ++ Builtin.zeroCells zv.cells (cap - (ys.length + zs.length))) e)) := by
    intro olds cap ho hcap hmax
    have h1 := (hS.drew).alloc (.cells (olds.toArray ++ (encs E zs).toArray ++ Builtin.zeroCells zv.cells (cap - (ys.length + zs.length))) e)
    obtain ⟨ρ, hs, hown⟩ := h1.own
    obtain ⟨ρ1, ρ2, rfl, rfl, h2⟩ := hs
    obtain ⟨σ1, σA, σ2, rfl, hAA, hset, _⟩ := h2.focus hj
    refine ⟨h1.below, h1.i0, h1.iw, σ1 ++ [(w.heap.size, .cells (olds.toArray ++ (encs E zs).toArray ++ Builtin.zeroCells zv.cells (cap - (ys.length + zs.length))) e)] ++ σ2, hset _ _ (.inr ⟨w.heap.size, 0, cap, _, by rw [List.length_append], rfl, by rw [List.length_append]; exact hcap, hmax, ?_, ?_⟩), ?_, ?_⟩
    · simp only [Array.size_append, List.size_toArray, size_zeroCells, hzs, ho, encs_length, Nat.zero_add]
      rw [← Nat.add_mul, ← Nat.add_mul]
      exact Nat.mul_le_mul_right _ (by omega)
    · rw [List.drop_zero, List.length_append, ho, encs_append]
      simp only [Array.toList_append, List.append_assoc]
      rw [← List.append_assoc, List.take_left']
      rw [List.length_append, encs_length, encs_length, Nat.add_mul]
    · have hnd := hown.nodup
      simp only [List.map_append, List.map_cons, List.singleton_append, List.nodup_cons, List.append_assoc] at hnd ⊢
      obtain ⟨hn1, hn2⟩ := hnd
      simp only [List.mem_append] at hn1
      rw [List.nodup_append] at hn2 ⊢
      obtain ⟨a1, a2, a3⟩ := hn2
      rw [List.nodup_append] at a2
      refine ⟨a1, List.nodup_cons.2 ⟨fun hm => hn1 (.inr (.inr hm)), a2.2.1⟩, ?_⟩
      intro x hx y hy
      rcases List.mem_cons.1 hy with rfl | hy
      · rintro rfl; exact hn1 (.inl hx)
      · exact a3 x hx y (List.mem_append.2 (.inr hy))
    · intro r hr
      simp only [List.mem_append, List.mem_singleton] at hr
      refine hown.here r ?_
      rcases hr with (hr | hr) | hr
      · exact List.mem_append.2 (.inr (List.mem_append.2 (.inl (List.mem_append.2 (.inl hr)))))
      · subst hr; exact List.mem_append.2 (.inl (List.mem_singleton.2 rfl))
      · exact List.mem_append.2 (.inr (List.mem_append.2 (.inr hr)))
  rcases hA with ⟨rfl, rfl, rfl⟩ | ⟨b, o, cap, cur, rfl, rfl, h1, h2, h3, h4⟩
  · -- onto nil
    refine ⟨_, _, ?_, fresh [] (grownCap w zs.length 0 e) (by simp [encs]) (by simpa using grownCap_ge w zs.length 0 e) (grownCap_le_maxLen w _ _ e (by simp only [maxLen]; simp at hsm; omega))⟩
    have := run_append_nil (P := P) w T ty e i zv hT hi hzv ⟨q, p, none⟩ zs.length t.c (encs E zs) hlen (hnews w rfl) hzl (by simp at hsm; omega) (by simp at hbytes; omega)
    rw [htv]
    simpa [SV.v] using this
  · have hb := hh _ (List.mem_singleton.2 rfl)
    by_cases hroom : ys.length + zs.length ≤ cap
    · -- in place
      refine ⟨⟨some ⟨b, o, none⟩, ys.length + zs.length, cap⟩, w.setRow b (cur.toList.take (o + ys.length * E.sz) ++ encs E zs ++ cur.toList.drop (o + ys.length * E.sz + (encs E zs).length)).toArray, ?_, ?_⟩
      · have hf := run_firstCells_some (P := P) w E.sz zs.length ⟨q, p, none⟩ zs.length t.c (encs E zs) (by rw [encs_length]) (hnews w rfl)
        have hfit : o + ys.length * E.sz + (encs E zs).length ≤ cur.size := by
          rw [encs_length, Nat.add_assoc, ← Nat.add_mul]
          exact Nat.le_trans (Nat.add_le_add_left (Nat.mul_le_mul_right _ hroom) _) h3
        have hst := run_storeCells_at P b (o + ys.length * E.sz) e (encs E zs) 0 cur w hb (by omega) (encs_one E zs)
        simp only [Nat.add_zero] at hst
        rw [htv]
        simp [Builtin.append_, SV.v, run_underlying hT, sizeOf, typeInfo, hi, Builtin.lenOf, hroom, hsz, hf, add_none, hst]
      · refine hS.turn hj ?_ rfl rfl rfl (by simp [World.setRow])
        intro ρB hB hhB
        rcases hB with ⟨hB, _⟩ | ⟨b', o', cap', cur', hs', rfl, _, _, _, _⟩
        · cases hB
        · injection hs' with hs1 hs2 hs3
          injection hs1 with hs1
          injection hs1 with hs1 hs4
          subst hs1 hs3 hs4
          have hb' := hhB _ (List.mem_singleton.2 rfl)
          rw [hb] at hb'
          injection hb' with hb'
          injection hb' with hb'
          subst hb'
          refine ⟨[(b, .cells (cur.toList.take (o + ys.length * E.sz) ++ encs E zs ++ cur.toList.drop (o + ys.length * E.sz + (encs E zs).length)).toArray e (0, 0))], .inr ⟨b, o, cap, _, by rw [List.length_append], rfl, by rw [List.length_append]; exact hroom, h2, ?_, ?_⟩, rfl, ?_, ?_⟩
          · have hfit : o + ys.length * E.sz + (encs E zs).length ≤ cur.size := by
              rw [encs_length, Nat.add_assoc, ← Nat.add_mul]
              exact Nat.le_trans (Nat.add_le_add_left (Nat.mul_le_mul_right _ hroom) _) h3
            simp only [List.size_toArray, List.length_append, List.length_take, List.length_drop, Array.length_toList]
            omega
          · have hol : o ≤ cur.toList.length := by rw [Array.length_toList]; omega
            have e1 : cur.toList.take (o + ys.length * E.sz) = cur.toList.take o ++ encs E ys := by
              rw [← h4, List.take_add]
            simp only [e1, List.append_assoc, List.length_append, encs_append]
            rw [List.drop_append_of_le_length (by rw [List.length_take]; omega), List.drop_of_length_le (by rw [List.length_take]; omega), List.nil_append, ← List.append_assoc, List.take_left']
            rw [List.length_append, encs_length, encs_length, Nat.add_mul]
          · intro r hr
            obtain rfl := List.mem_singleton.1 hr
            exact setRow_heap w b _ _ e _ hb
          · intro k hk
            exact setRow_rest (by simpa using hk)
    · -- grown
      have holds : ∀ k u, (encs E ys)[k]? = some u → w.cell? ((⟨b, o, none⟩ : Addr).add k) = some u := by
        intro k u hu
        rw [← h4, List.getElem?_take] at hu
        split at hu
        · rw [add_none, cell_at hb]
          simpa using hu
        · cases hu
      have := run_append_grow (P := P) w T ty e i zv hT hi hzv ⟨b, o, none⟩ ys.length cap (encs E ys) (by rw [encs_length, hsz]) holds ⟨q, p, none⟩ zs.length t.c (encs E zs) hlen (hnews w rfl) (by omega) (by omega) (growslice_fits (by omega) hbytes)
      refine ⟨_, _, ?_, fresh (encs E ys) (grownCap w (ys.length + zs.length) cap e) rfl (grownCap_ge w _ _ e) (grownCap_le_maxLen w _ _ e (by simp only [maxLen]; omega))⟩
      rw [htv]
      simpa [SV.v] using this

theorem TL.append {T e : TypeId} {i : TypeInfo} {zv : Value} {β : Type} {E : FE β} {x y : Operand} {s t : SV} {ys zs : List β} (j : Nat) (hj : L[j]? = some (row E e s ys)) (hr : Rd w0 I L E t zs)
    (hT : P.underlying T = some (.slice e)) (hi : P.info? e = some i) (hzv : i.zero = some zv) (hsz : i.size = E.sz) (hzs : zv.cells.size = E.sz) (hby : i.bytes ≤ 64) (hsm : ys.length + zs.length ≤ 1099511627776)
    (hg : gd ops Γ ⟨some d, .call { callee := .builtin .append, args := #[x, y], argTypes := #[T, T] }, ty, pos, af, g⟩ = some true) (hn : Nat.blt d n = true) (hx : ev Γ x = some s.v) (hy : ev Γ y = some t.v)
    (k : ∀ s', TL P w0 n I ((d, SV.v s') :: Γ) (L.set j (row E e s' (ys ++ zs))) ops os cs m D) : TL P w0 n I Γ L ops (⟨some d, .call { callee := .builtin .append, args := #[x, y], argTypes := #[T, T] }, ty, pos, af, g⟩ :: os) cs m D := by
  refine .valW (γ := SV) (vf := fun s => s.v) (Lf := fun s' => L.set j (row E e s' (ys ++ zs))) hg rfl (by simpa using hn) (fun a w hF hS => ?_) k
  obtain ⟨s', w', h1, h2⟩ := run_append (P := P) (ty := ty) j hS hj (hr w hS) hT hi hzv hsz hzs hby hsm
  refine ⟨s', w', ?_, h2⟩
  unfold execOp
  simp only [resolve, invoke, builtin, Sem.run_bind, Sem.run_pure, Result.andThen_ok, List.map_toArray, List.map_cons, List.map_nil, hF.eval hx, hF.eval hy, h1]
end
end Go.Sx
