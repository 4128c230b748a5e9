/- Sx3: the rules of operations on memory, and of calls. -/
import Derived.Test.YtgljkechjkllgaaSx2
namespace Go.Sx
open Go.RowKit

section
variable {P : Program} {w0 : World} {n : Nat} {I : Hp} {Γ : Gm} {L : List Asn} {cs : List Code} {α : Type} {m : Option α} {D : α → Exit → Act → World → Prop} {ops : Array Oper} {os : List Oper} {o : Oper}

/-- An operation that turns the world. -/
theorem TL.valW {d : Nat} {γ : Type} {vf : γ → Value} {Lf : γ → List Asn} (hg : gd ops Γ o = some true) (hd : o.dst = some d) (hn : d < n)
    (hrun : ∀ a w, Fr n Γ a → St w0 I L w → ∃ x w', (execOp a.eval o).run P w = .ok (.value (vf x)) w' ∧ St w0 I (Lf x) w')
    (k : ∀ x, TL P w0 n I ((d, vf x) :: Γ) (Lf x) ops os cs m D) : TL P w0 n I Γ L ops (o :: os) cs m D := by
  refine .core hg fun a w hF hS r hr => ?_
  unfold Oper.wp
  obtain ⟨x, w', hx, hS'⟩ := hrun a w hF hS
  rw [hx, Oper.upon_value, hd]
  exact k x _ _ (hF.put hn) hS' r hr

theorem TL.skipW {L' : List Asn} (hg : gd ops Γ o = some true) (hd : o.dst = none)
    (hrun : ∀ a w, Fr n Γ a → St w0 I L w → ∃ w', (execOp a.eval o).run P w = .ok .skip w' ∧ St w0 I L' w')
    (k : TL P w0 n I Γ L' ops os cs m D) : TL P w0 n I Γ L ops (o :: os) cs m D := by
  refine .core hg fun a w hF hS r hr => ?_
  unfold Oper.wp
  obtain ⟨w', hx, hS'⟩ := hrun a w hF hS
  rw [hx, Oper.upon_skip, hd]
  exact k _ _ hF hS' r hr

variable {d : Nat} {ty : TypeId} {pos : String} {af : Array Edge} {g : Option (Nat × Bool)}

theorem run_newVar (T : TypeId) (v : Value) (w : World) : (newVar T v).run P w = .ok ⟨w.heap.size, 0, none⟩ (w.alloc (.cells v.cells T)) := rfl

theorem TL.alloc {T : TypeId} {z : Value} (segs : List Seg) (hg : gd ops Γ ⟨some d, .alloc T, ty, pos, af, g⟩ = some true) (hn : Nat.blt d n = true)
    (hz : ∀ w, (zeroValue T).run P w = .ok z w) (hs : z.cells = (flat segs).toArray)
    (k : ∀ b, TL P w0 n I ((d, bp b 0) :: Γ) (box b T segs :: L) ops os cs m D) : TL P w0 n I Γ L ops (⟨some d, .alloc T, ty, pos, af, g⟩ :: os) cs m D := by
  refine .valW (γ := Nat) (vf := fun b => bp b 0) (Lf := fun b => box b T segs :: L) hg rfl (by simpa using hn) (fun a w hF hS => ⟨w.heap.size, w.alloc (.cells z.cells T), ?_, ?_⟩) k
  · refine run_v ?_
    simp only [Instr.alloc, Sem.run_bind, hz w, Result.andThen_ok, run_newVar]
    rfl
  · rw [hs]; exact hS.alloc _

theorem TL.box {T : TypeId} {x : Operand} {v : Value} (segs : List Seg) (hg : gd ops Γ ⟨some d, .box T x, ty, pos, af, g⟩ = some true) (hn : Nat.blt d n = true)
    (hx : ev Γ x = some v) (hs : v.cells = (flat segs).toArray)
    (k : ∀ b, TL P w0 n I ((d, bp b 0) :: Γ) (Sx.box b T segs :: L) ops os cs m D) : TL P w0 n I Γ L ops (⟨some d, .box T x, ty, pos, af, g⟩ :: os) cs m D := by
  refine .valW (γ := Nat) (vf := fun b => bp b 0) (Lf := fun b => Sx.box b T segs :: L) hg rfl (by simpa using hn) (fun a w hF hS => ⟨w.heap.size, w.alloc (.cells v.cells T), ?_, ?_⟩) k
  · refine run_v ?_
    rw [hF.eval hx]
    simp only [Instr.box, Sem.run_bind, Result.andThen_ok, run_newVar]
    rfl
  · rw [hs]; exact hS.alloc _

theorem add_none (b o k : Nat) : (⟨b, o, none⟩ : Addr).add k = ⟨b, o + k, none⟩ := by
  unfold Addr.add; split <;> simp_all

theorem TL.fa {S : TypeId} {x : Operand} {f : Nat} {b off s : Nat} {fs : Array Field} {fd : Field} (hS : P.underlying S = some (.struct fs)) (hf : fs[f]? = some fd) (hz : ∀ w, (sizeOf fd.type).run P w = .ok s w) (hs : Nat.beq s 0 = false)
    (r : Nat) (hr : off + fd.offset = r)
    (hg : gd ops Γ ⟨some d, .fieldAddr S x f, ty, pos, af, g⟩ = some true) (hn : Nat.blt d n = true) (hx : ev Γ x = some (bp b off))
    (k : TL P w0 n I ((d, bp b r) :: Γ) L ops os cs m D) : TL P w0 n I Γ L ops (⟨some d, .fieldAddr S x f, ty, pos, af, g⟩ :: os) cs m D := by
  subst hr
  refine .val hg rfl (by simpa using hn) (fun a w hF _ => run_v ?_) k
  rw [hF.eval hx]
  have hs0 : ¬ s = 0 := fun e => by subst e; simp at hs
  simp [Instr.fieldAt, bp, Sem.run_bind, run_underlying hS, hf, Instr.sureAddr, fieldPlace, hz w, hs0, add_none]

theorem TL.ixa {T : TypeId} {x ix : Operand} {b off s len : Nat} {e : TypeId} {kd : IntKind} (i : Int) (r : Nat) (hb : 0 ≤ i ∧ i < len) (hT : P.underlying T = some (.array len e)) (hz : ∀ w, (sizeOf e).run P w = .ok s w)
    (hg : gd ops Γ ⟨some d, .indexAddr T x ix, ty, pos, af, g⟩ = some true) (hn : Nat.blt d n = true) (hx : ev Γ x = some (bp b off)) (hi : ev Γ ix = some (.int kd i)) (hr : off + i.toNat * s = r)
    (k : TL P w0 n I ((d, bp b r) :: Γ) L ops os cs m D) : TL P w0 n I Γ L ops (⟨some d, .indexAddr T x ix, ty, pos, af, g⟩ :: os) cs m D := by
  subst hr
  refine .val hg rfl (by simpa using hn) (fun a w hF _ => run_v ?_) k
  rw [hF.eval hx, hF.eval hi]
  simp [Instr.indexAt, bp, Sem.run_bind, run_underlying hT, Instr.sureAddr, asIntOf, hb, hz w, add_none]

theorem TL.ixs {β : Type} {E : FE β} {T : TypeId} {x ix : Operand} {s : SV} {ys : List β} {sz : Nat} {e : TypeId} {kd : IntKind} (i : Int) (r : Nat) (hr : Rd w0 I L E s ys) (hb : 0 ≤ i ∧ i < ys.length) (hT : P.underlying T = some (.slice e)) (hz : ∀ w, (sizeOf e).run P w = .ok sz w)
    (hg : gd ops Γ ⟨some d, .indexAddr T x ix, ty, pos, af, g⟩ = some true) (hn : Nat.blt d n = true) (hx : ev Γ x = some s.v) (hi : ev Γ ix = some (.int kd i)) (hrr : i.toNat * sz = r)
    (k : TL P w0 n I ((d, ep s r) :: Γ) L ops os cs m D) : TL P w0 n I Γ L ops (⟨some d, .indexAddr T x ix, ty, pos, af, g⟩ :: os) cs m D := by
  subst hrr
  refine .val hg rfl (by simpa using hn) (fun a w hF hS => run_v ?_) k
  rw [hF.eval hx, hF.eval hi]
  obtain ⟨h0, h1, h2, h3⟩ := hr w hS
  rcases h3 with rfl | ⟨b, o, cs', T', fr, ha, _, _⟩
  · simp at hb; omega
  · have hb2 : 0 ≤ i ∧ i < (s.n : Int) := by rw [h0]; exact hb
    simp [Instr.indexAt, SV.v, ep, ha, Sem.run_bind, run_underlying hT, asIntOf, hb2, hz w]

theorem TL.fae {S : TypeId} {x : Operand} {f : Nat} {s : SV} {off sz : Nat} {fs : Array Field} {fd : Field} {β : Type} {E : FE β} {ys : List β} (hr : Rd w0 I L E s ys) (hne : 0 < ys.length) (hS : P.underlying S = some (.struct fs)) (hf : fs[f]? = some fd) (hz : ∀ w, (sizeOf fd.type).run P w = .ok sz w) (hs : Nat.beq sz 0 = false)
    (r : Nat) (hrr : off + fd.offset = r)
    (hg : gd ops Γ ⟨some d, .fieldAddr S x f, ty, pos, af, g⟩ = some true) (hn : Nat.blt d n = true) (hx : ev Γ x = some (ep s off))
    (k : TL P w0 n I ((d, ep s r) :: Γ) L ops os cs m D) : TL P w0 n I Γ L ops (⟨some d, .fieldAddr S x f, ty, pos, af, g⟩ :: os) cs m D := by
  subst hrr
  refine .val hg rfl (by simpa using hn) (fun a w hF hW => run_v ?_) k
  rw [hF.eval hx]
  have hs0 : ¬ sz = 0 := fun e => by subst e; simp at hs
  obtain ⟨h0, h1, h2, h3⟩ := hr w hW
  rcases h3 with rfl | ⟨b, o, cs', T', fr, ha, _, _⟩
  · simp at hne
  · simp [Instr.fieldAt, ep, ha, Sem.run_bind, run_underlying hS, hf, Instr.sureAddr, fieldPlace, hz w, hs0, add_none, Nat.add_assoc]

/-! ### loads -/
theorem cell_at {w : World} {b : Nat} {cs : Array Value} {T : TypeId} {fr : Nat × Nat} (h : w.heap[b]? = some (.cells cs T fr)) (o : Nat) : w.cell? ⟨b, o, none⟩ = cs[o]? := by simp [World.cell?, h]
theorem run_load_cell {w : World} {b o : Nat} {v : Value} (h : w.cell? ⟨b, o, none⟩ = some v) : (load ⟨b, o, none⟩).run P w = .ok v w := by
  simp only [load, Sem.run, h]
theorem run_loadVar1 {T : TypeId} {w : World} {b o : Nat} {v : Value} (ha : (isAgg T).run P w = .ok false w) (h : w.cell? ⟨b, o, none⟩ = some v) : (loadVar T ⟨b, o, none⟩).run P w = .ok v w := by
  rw [loadVar, Sem.run_bind, ha]; exact run_load_cell h
theorem run_loadVarN {T : TypeId} {w : World} {b o sz : Nat} {cs : Array Value} {T' : TypeId} {fr : Nat × Nat} (ha : (isAgg T).run P w = .ok true w) (hz : (sizeOf T).run P w = .ok sz w) (h : w.heap[b]? = some (.cells cs T' fr)) (hl : o + sz ≤ cs.size) :
    (loadVar T ⟨b, o, none⟩).run P w = .ok (.agg ((cs.toList.drop o).take sz).toArray) w := by
  have hlen : ((cs.toList.drop o).take sz).length = sz := by simp; omega
  have := run_loadCells_list (P := P) w ⟨b, o, none⟩ ((cs.toList.drop o).take sz) (fun j v hv => by
    rw [add_none, cell_at h]
    simp only [List.getElem?_take, List.getElem?_drop] at hv
    split at hv
    · simpa using hv
    · cases hv)
  rw [hlen] at this
  simp [loadVar, Sem.run_bind, ha, hz, this]

theorem TL.load1 {T : TypeId} {x : Operand} {b o : Nat} {v : Value} {segs : List Seg} (j : Nat) (hs : Src w0 I L b segs) (ha : ∀ w, (isAgg T).run P w = .ok false w)
    (hj : segs[j]? = some (.one v)) (ho : soff segs j = o) (hg : gd ops Γ ⟨some d, .load T x, ty, pos, af, g⟩ = some true) (hn : Nat.blt d n = true) (hx : ev Γ x = some (bp b o))
    (k : TL P w0 n I ((d, v) :: Γ) L ops os cs m D) : TL P w0 n I Γ L ops (⟨some d, .load T x, ty, pos, af, g⟩ :: os) cs m D := by
  refine .val hg rfl (by simpa using hn) (fun a w hF hS => run_v ?_) k
  rw [hF.eval hx]
  obtain ⟨T', fr, hw⟩ := hs w hS
  simp only [Instr.loadAt, bp, Instr.sureAddr, Sem.run_bind, Sem.run_pure, Result.andThen_ok]
  refine run_loadVar1 (ha w) ?_
  rw [cell_at hw, ← ho]
  simpa using flat_get_one hj

theorem TL.loadA {T : TypeId} {x : Operand} {b N : Nat} (i : Nat) {f : Nat → Value} {v : Value} {segs : List Seg} (j : Nat) (hs : Src w0 I L b segs) (ha : ∀ w, (isAgg T).run P w = .ok false w)
    (hj : segs[j]? = some (.arr N f)) (hi : i < N) (hv : f i = v) {st o : Nat} (hst : soff segs j = st) (ho : o = st + i) (hg : gd ops Γ ⟨some d, .load T x, ty, pos, af, g⟩ = some true) (hn : Nat.blt d n = true) (hx : ev Γ x = some (bp b o))
    (k : TL P w0 n I ((d, v) :: Γ) L ops os cs m D) : TL P w0 n I Γ L ops (⟨some d, .load T x, ty, pos, af, g⟩ :: os) cs m D := by
  subst hv hst
  refine .val hg rfl (by simpa using hn) (fun a w hF hS => run_v ?_) k
  rw [hF.eval hx]
  obtain ⟨T', fr, hw⟩ := hs w hS
  simp only [Instr.loadAt, bp, Instr.sureAddr, Sem.run_bind, Sem.run_pure, Result.andThen_ok]
  refine run_loadVar1 (ha w) ?_
  rw [cell_at hw, ho]
  simpa using flat_get_arr hj hi

theorem TL.loadS {T : TypeId} {x : Operand} {b N M : Nat} (i : Nat) {f : Nat → Value} {segs : List Seg} (j : Nat) (hs : Src w0 I L b segs) (ha : ∀ w, (isAgg T).run P w = .ok true w) (hz : ∀ w, (sizeOf T).run P w = .ok M w)
    (hj : segs[j]? = some (.arr N f)) (hi : i + M ≤ N) {v : Value} (hv : sval [.arr M (Sx.sub f i)] = v) {st o : Nat} (hst : soff segs j = st) (ho : o = st + i) (hg : gd ops Γ ⟨some d, .load T x, ty, pos, af, g⟩ = some true) (hn : Nat.blt d n = true) (hx : ev Γ x = some (bp b o))
    (k : TL P w0 n I ((d, v) :: Γ) L ops os cs m D) : TL P w0 n I Γ L ops (⟨some d, .load T x, ty, pos, af, g⟩ :: os) cs m D := by
  subst hv hst
  refine .val hg rfl (by simpa using hn) (fun a w hF hS => run_v ?_) k
  rw [hF.eval hx]
  obtain ⟨T', fr, hw⟩ := hs w hS
  simp only [Instr.loadAt, bp, Instr.sureAddr, Sem.run_bind, Sem.run_pure, Result.andThen_ok]
  have hl : o + M ≤ (flat segs).toArray.size := by
    have := flat_part hj hi
    have h2 : (((flat segs).drop (soff segs j + i)).take M).length = M := by rw [this]; simp [flat, Seg.cells]
    simp only [List.length_take, List.length_drop] at h2
    simp only [List.size_toArray, ho]
    by_cases hM : M = 0
    · subst hM
      have h3 : soff segs j + i ≤ (flat segs).length := by
        rw [flat_cut hj, List.length_append, soff_length, List.length_append, Seg.length_cells]
        simp only [Seg.len]; omega
      omega
    · omega
  rw [run_loadVarN (ha w) (hz w) hw hl, ho]
  simp only [sval]
  rw [flat_part hj hi]

theorem slen_append (a b : List Seg) : slen (a ++ b) = slen a + slen b := by rw [← flat_length, flat_append, List.length_append, flat_length, flat_length]
theorem soff_le (segs : List Seg) (j c : Nat) : soff segs j + slen ((segs.drop j).take c) ≤ slen segs := by
  have h1 : slen segs = soff segs j + slen (segs.drop j) := by unfold soff; rw [← slen_append, List.take_append_drop]
  have h2 : slen (segs.drop j) = slen ((segs.drop j).take c) + slen ((segs.drop j).drop c) := by rw [← slen_append, List.take_append_drop]
  omega

/-- A part of several segments, or the whole. -/
theorem TL.loadM {T : TypeId} {x : Operand} {b M : Nat} {segs : List Seg} (j c : Nat) (hs : Src w0 I L b segs) (ha : ∀ w, (isAgg T).run P w = .ok true w) (hz : ∀ w, (sizeOf T).run P w = .ok M w)
    {mid : List Seg} (hm : (segs.drop j).take c = mid) (hM : slen mid = M) {o : Nat} (ho : o = soff segs j) (hg : gd ops Γ ⟨some d, .load T x, ty, pos, af, g⟩ = some true) (hn : Nat.blt d n = true) (hx : ev Γ x = some (bp b o))
    (k : TL P w0 n I ((d, sval mid) :: Γ) L ops os cs m D) : TL P w0 n I Γ L ops (⟨some d, .load T x, ty, pos, af, g⟩ :: os) cs m D := by
  subst hm
  refine .val hg rfl (by simpa using hn) (fun a w hF hS => run_v ?_) k
  rw [hF.eval hx]
  obtain ⟨T', fr, hw⟩ := hs w hS
  simp only [Instr.loadAt, bp, Instr.sureAddr, Sem.run_bind, Sem.run_pure, Result.andThen_ok]
  have hl : o + M ≤ (flat segs).toArray.size := by rw [ho, List.size_toArray, flat_length, ← hM]; exact soff_le _ _ _
  rw [run_loadVarN (ha w) (hz w) hw hl, ho, ← hM]
  simp only [sval]
  rw [flat_mid]

/-- A cell of a slice's element. -/
theorem TL.loadE {β : Type} {E : FE β} {T : TypeId} {x : Operand} {s : SV} {ys : List β} (hr : Rd w0 I L E s ys) (ha : ∀ w, (isAgg T).run P w = .ok false w) (i j : Nat) {y : β} (hy : ys[i]? = some y) {v : Value} (hv : (E.enc y)[j]? = some v)
    {o : Nat} (ho : o = i * E.sz + j) (hg : gd ops Γ ⟨some d, .load T x, ty, pos, af, g⟩ = some true) (hn : Nat.blt d n = true) (hx : ev Γ x = some (ep s o))
    (k : TL P w0 n I ((d, v) :: Γ) L ops os cs m D) : TL P w0 n I Γ L ops (⟨some d, .load T x, ty, pos, af, g⟩ :: os) cs m D := by
  refine .val hg rfl (by simpa using hn) (fun a w hF hS => run_v ?_) k
  rw [hF.eval hx]
  obtain ⟨h0, h1, h2, h3⟩ := hr w hS
  rcases h3 with rfl | ⟨b, q, cs', T', fr, ha', hw, hc⟩
  · simp at hy
  · simp only [Instr.loadAt, ep, ha', add_none, Instr.sureAddr, Sem.run_bind, Sem.run_pure, Result.andThen_ok]
    refine run_loadVar1 (ha w) ?_
    rw [cell_at hw]
    refine hc o v ?_
    have hj : j < E.sz := by rw [← E.len y]; exact (List.getElem?_eq_some_iff.1 hv).1
    rw [ho, encs_get E ys i j y hy hj, hv]

/-- A slice's element that is an aggregate. -/
theorem TL.loadEA {β : Type} {E : FE β} {T : TypeId} {x : Operand} {s : SV} {ys : List β} (hr : Rd w0 I L E s ys) (ha : ∀ w, (isAgg T).run P w = .ok true w) (hz : ∀ w, (sizeOf T).run P w = .ok E.sz w) (i : Nat) {y : β} (hy : ys[i]? = some y) {v : Value} (hv : Value.agg (E.enc y).toArray = v)
    {o : Nat} (ho : o = i * E.sz) (hg : gd ops Γ ⟨some d, .load T x, ty, pos, af, g⟩ = some true) (hn : Nat.blt d n = true) (hx : ev Γ x = some (ep s o))
    (k : TL P w0 n I ((d, v) :: Γ) L ops os cs m D) : TL P w0 n I Γ L ops (⟨some d, .load T x, ty, pos, af, g⟩ :: os) cs m D := by
  subst hv
  refine .val hg rfl (by simpa using hn) (fun a w hF hS => run_v ?_) k
  rw [hF.eval hx]
  obtain ⟨h0, h1, h2, h3⟩ := hr w hS
  rcases h3 with rfl | ⟨b, q, cs', T', fr, ha', hw, hc⟩
  · simp at hy
  · simp only [Instr.loadAt, ep, ha', add_none, Instr.sureAddr, Sem.run_bind, Sem.run_pure, Result.andThen_ok]
    have hcell : ∀ j v, (E.enc y)[j]? = some v → w.cell? ((⟨b, q + o, none⟩ : Addr).add j) = some v := by
      intro j v hj
      rw [add_none, cell_at hw, Nat.add_assoc]
      refine hc (o + j) v ?_
      have hjs : j < E.sz := by rw [← E.len y]; exact (List.getElem?_eq_some_iff.1 hj).1
      rw [ho, encs_get E ys i j y hy hjs, hj]
    have := run_loadCells_list (P := P) w ⟨b, q + o, none⟩ (E.enc y) hcell
    rw [E.len] at this
    simp [loadVar, Sem.run_bind, ha w, hz w, this]

theorem TL.len {β : Type} {E : FE β} {T : TypeId} {x : Operand} {s : SV} {ys : List β} {e : TypeId} (hr : Rd w0 I L E s ys) (hT : P.underlying T = some (.slice e))
    (hg : gd ops Γ ⟨some d, .call { callee := .builtin .len, args := #[x], argTypes := #[T] }, ty, pos, af, g⟩ = some true) (hn : Nat.blt d n = true) (hx : ev Γ x = some s.v)
    (k : TL P w0 n I ((d, .int .i64 ys.length) :: Γ) L ops os cs m D) : TL P w0 n I Γ L ops (⟨some d, .call { callee := .builtin .len, args := #[x], argTypes := #[T] }, ty, pos, af, g⟩ :: os) cs m D := by
  refine .val hg rfl (by simpa using hn) (fun a w hF hS => ?_) k
  obtain ⟨h0, _⟩ := hr w hS
  unfold execOp
  simp only [resolve, invoke, builtin, Sem.run_bind, Sem.run_pure, Result.andThen_ok, List.map_toArray, List.map_cons, List.map_nil, hF.eval hx, SV.v]
  simp [Builtin.len_, run_underlying hT, h0, goInt]
end

def w64 (x : Int) : Int := IntKind.i64.wrap x
/-- An element. -/
def gt {β : Type} [Inhabited β] (ys : List β) (i : Int) : β := ys.getD i.toNat default
theorem gt_spec {β : Type} [Inhabited β] {ys : List β} {i : Int} (h : 0 ≤ i ∧ i < ys.length) : ys[i.toNat]? = some (gt ys i) := by
  have hlt : i.toNat < ys.length := by omega
  simp [gt, List.getD, hlt]
theorem info_of {P : Program} {t : TypeId} {i : TypeInfo} (h : P.types[t]? = some i) : P.info? t = some i := by
  have := (Array.getElem?_eq_some_iff.1 h).1
  rw [Tables.info?, if_pos this, h]

/-! ### choosing pieces -/
def ext : List Nat → List Asn → Option (List Asn)
  | [], _ => some []
  | j :: js, L => match L[j]? with
    | none => none
    | some A => match ext js (L.eraseIdx j) with
      | none => none
      | some L' => some (A :: L')

theorem Sat.ext : ∀ {js : List Nat} {L L' : List Asn} {ρ}, Sat L ρ → ext js L = some L' → ∃ ρ' rest, Sat L' ρ' ∧ (ρ' ++ rest).Perm ρ
  | [], L, L', ρ, h, he => by
    simp only [Sx.ext, Option.some.injEq] at he
    subst he
    exact ⟨[], ρ, rfl, .refl _⟩
  | j :: js, L, L', ρ, h, he => by
    simp only [Sx.ext] at he
    split at he
    · cases he
    · rename_i A hA
      split at he
      · cases he
      · rename_i L2 h2
        obtain rfl := Option.some.inj he
        obtain ⟨ρ1, ρA, ρ2, rfl, hAA, _, her⟩ := h.focus hA
        obtain ⟨ρ', rest, hs', hp⟩ := Sat.ext her h2
        refine ⟨ρA ++ ρ', rest, ⟨ρA, ρ', rfl, hAA, hs'⟩, ?_⟩
        rw [List.append_assoc]
        refine (hp.append_left ρA).trans ?_
        rw [← List.append_assoc]
        exact List.perm_append_comm.append_right ρ2

theorem St.ext {w0 I L L' w} (js : List Nat) (he : ext js L = some L') (h : St w0 I L w) : St w0 I L' w := by
  obtain ⟨ρ, hs, ho⟩ := h.own
  obtain ⟨ρ', rest, hs', hp⟩ := hs.ext he
  refine ⟨h.below, h.i0, h.iw, ρ', hs', ?_, fun p hm => ho.here p (hp.mem_iff.1 (List.mem_append_left _ hm))⟩
  have h1 := (hp.map (·.1)).nodup_iff.2 ho.nodup
  rw [List.map_append, List.nodup_append] at h1
  exact h1.1

/-! ### calls -/
def RetM (w0 : World) (I : Hp) (R : Value → List Asn → Prop) : Ending → World → Prop := fun e w' => ∃ v L, e = .returned v ∧ R v L ∧ St w0 I L w'
def Ret (w : World) (R : Value → List Asn → Prop) : Ending → World → Prop := RetM w (hp w) R

section
variable {P : Program} {w0 : World} {n : Nat} {I : Hp} {Γ : Gm} {L : List Asn} {cs : List Code} {α : Type} {m : Option α} {D : α → Exit → Act → World → Prop} {ops : Array Oper} {os : List Oper} {o : Oper}
variable {d : Nat} {ty : TypeId} {pos : String} {af : Array Edge} {g : Option (Nat × Bool)}

theorem run_call {f : FuncId} {args : Array Operand} {ts : Array TypeId} {vs : List Value} {dst : Option Nat} (hc : ∀ (args : Array Value) (w : World), (callFunc f args).run P w = .ok (.enter f args) w) {a : Act} (hF : Fr n Γ a) (hx : evs Γ args.toList = some vs) (w : World) :
    (execOp a.eval ⟨dst, .call { callee := .value (.func f), args := args, argTypes := ts }, ty, pos, af, g⟩).run P w = .ok (.enter f vs.toArray) w := by
  have h1 : args.map a.eval = vs.toArray := by
    apply Array.ext'
    simp [hF.evals hx]
  unfold execOp
  simp only [resolve, h1, Act.eval, Deferred.ofValue, Sem.run_bind, Sem.run_pure, Result.andThen_ok, invoke]
  simpa using hc vs.toArray w

/-- A call of a function that leaves what was there as it was. -/
theorem TL.call {β : Type} {f : FuncId} {args : Array Operand} {ts : Array TypeId} {vs : List Value} {mf : Option β} {kont : β → Option α} {R : β → Value → List Asn → Prop}
    (hcall : ∀ (args : Array Value) (w : World), (callFunc f args).run P w = .ok (.enter f args) w)
    (hg : gd ops Γ ⟨some d, .call { callee := .value (.func f), args := args, argTypes := ts }, ty, pos, af, g⟩ = some true) (hn : Nat.blt d n = true) (hx : evs Γ args.toList = some vs)
    (hc : ∀ w, St w0 I L w → ∀ r, mf = some r → Calls P f vs.toArray w (Ret w (R r)))
    (k : ∀ r v L', R r v L' → TL P w0 n I ((d, v) :: Γ) (L' ++ L) ops os cs (kont r) D) :
    TL P w0 n I Γ L ops (⟨some d, .call { callee := .value (.func f), args := args, argTypes := ts }, ty, pos, af, g⟩ :: os) cs (mf.bind kont) D := by
  intro a w hF hS r hr
  obtain ⟨r1, hr1, hr2⟩ := Option.bind_eq_some_iff.1 hr
  refine TL.core (m := some r) (D := D) hg (fun a w hF hS r' hr' => ?_) a w hF hS r rfl
  obtain rfl := Option.some.inj hr'
  unfold Oper.wp
  rw [run_call hcall hF hx, Oper.upon_enter]
  refine (hc w hS r1 hr1).mono ?_
  rintro e w' ⟨v, L', rfl, hR, hS'⟩
  exact k r1 v L' hR _ _ (hF.put (by simpa using hn)) (hS.call hS') _ hr2

theorem TL.call0 {β : Type} {f : FuncId} {args : Array Operand} {ts : Array TypeId} {vs : List Value} {mf : Option β} {kont : β → Option α} {R : β → Value → List Asn → Prop}
    (hcall : ∀ (args : Array Value) (w : World), (callFunc f args).run P w = .ok (.enter f args) w)
    (hg : gd ops Γ ⟨none, .call { callee := .value (.func f), args := args, argTypes := ts }, ty, pos, af, g⟩ = some true) (hx : evs Γ args.toList = some vs)
    (hc : ∀ w, St w0 I L w → ∀ r, mf = some r → Calls P f vs.toArray w (Ret w (R r)))
    (k : ∀ r v L', R r v L' → TL P w0 n I Γ (L' ++ L) ops os cs (kont r) D) :
    TL P w0 n I Γ L ops (⟨none, .call { callee := .value (.func f), args := args, argTypes := ts }, ty, pos, af, g⟩ :: os) cs (mf.bind kont) D := by
  intro a w hF hS r hr
  obtain ⟨r1, hr1, hr2⟩ := Option.bind_eq_some_iff.1 hr
  refine TL.core (m := some r) (D := D) hg (fun a w hF hS r' hr' => ?_) a w hF hS r rfl
  obtain rfl := Option.some.inj hr'
  unfold Oper.wp
  rw [run_call hcall hF hx, Oper.upon_enter]
  refine (hc w hS r1 hr1).mono ?_
  rintro e w' ⟨v, L', rfl, hR, hS'⟩
  exact k r1 v L' hR _ _ hF (hS.call hS') _ hr2

/-- A call of a function that writes to pieces that are handed to it. -/
theorem TL.callM {β : Type} {f : FuncId} {args : Array Operand} {ts : Array TypeId} {vs : List Value} {mf : Option β} {kont : β → Option α} {R : β → Value → List Asn → Prop}
    (hcall : ∀ (args : Array Value) (w : World), (callFunc f args).run P w = .ok (.enter f args) w)
    (hg : gd ops Γ ⟨some d, .call { callee := .value (.func f), args := args, argTypes := ts }, ty, pos, af, g⟩ = some true) (hn : Nat.blt d n = true) (hx : evs Γ args.toList = some vs)
    (hc : ∀ w, St w0 I L w → ∀ r, mf = some r → Calls P f vs.toArray w (RetM w0 I (R r)))
    (k : ∀ r v L', R r v L' → TL P w0 n I ((d, v) :: Γ) L' ops os cs (kont r) D) :
    TL P w0 n I Γ L ops (⟨some d, .call { callee := .value (.func f), args := args, argTypes := ts }, ty, pos, af, g⟩ :: os) cs (mf.bind kont) D := by
  intro a w hF hS r hr
  obtain ⟨r1, hr1, hr2⟩ := Option.bind_eq_some_iff.1 hr
  refine TL.core (m := some r) (D := D) hg (fun a w hF hS r' hr' => ?_) a w hF hS r rfl
  obtain rfl := Option.some.inj hr'
  unfold Oper.wp
  rw [run_call hcall hF hx, Oper.upon_enter]
  refine (hc w hS r1 hr1).mono ?_
  rintro e w' ⟨v, L', rfl, hR, hS'⟩
  exact k r1 v L' hR _ _ (hF.put (by simpa using hn)) hS' _ hr2

def ArgOk (args : Array Value) : Gm → Prop
  | [] => True
  | (t, v) :: r => args[t]? = some v ∧ ArgOk args r

theorem ArgOk.fr {args : Array Value} {Γ : Gm} (h : ArgOk args Γ) (hn : args.size ≤ n) : Fr n Γ { tmps := args ++ Array.replicate (n - args.size) undef, defers := [] } := by
  refine ⟨by simp; omega, rfl, ?_⟩
  induction Γ with
  | nil => intro t v ht; cases ht
  | cons p r ih =>
    obtain ⟨k, u⟩ := p
    intro t v ht
    simp only [lk] at ht
    cases hb : Nat.beq k t with
    | true =>
      rw [hb] at ht
      obtain rfl := Nat.eq_of_beq_eq_true hb
      obtain rfl := Option.some.inj ht
      have h1 := h.1
      have hlt := (Array.getElem?_eq_some_iff.1 h1).1
      rw [Array.getElem?_append_left hlt]; exact h1
    | false => rw [hb] at ht; exact ih h.2 t v ht

/-- A function's contract, out of its body. -/
theorem calls_TM {f : FuncId} {fn : Func} {c : Code} {args : Array Value} {R : α → Value → List Asn → Prop} (hf : P.funcs[f]? = some fn) (hb : fn.body = some c) (hnt : fn.ntmps = n) (hn : args.size ≤ n) (ha : ArgOk args Γ)
    (h : TC P w0 n I Γ L [c] m fun o => bodyPost P fn (RetM w0 I (R o))) : ∀ w, St w0 I L w → ∀ r, m = some r → Calls P f args w (RetM w0 I (R r)) := by
  intro w hS r hr
  refine calls_of_wp hf hb ?_
  rw [hnt]
  exact h _ w (ha.fr hn) hS r hr
theorem calls_T {f : FuncId} {fn : Func} {c : Code} {args : Array Value} {w : World} {R : α → Value → List Asn → Prop} (hf : P.funcs[f]? = some fn) (hb : fn.body = some c) (hnt : fn.ntmps = n) (hn : args.size ≤ n) (ha : ArgOk args Γ)
    (h : TC P w n (hp w) Γ [] [c] m fun o => bodyPost P fn (RetM w (hp w) (R o))) : ∀ r, m = some r → Calls P f args w (Ret w (R r)) :=
  fun r hr => calls_TM hf hb hnt hn ha h w (.start w) r hr

theorem bodyPost_end {fn : Func} {R : Ending → World → Prop} {e : Exit} {a : Act} {w : World} {v : Value} (he : e = .normal ∨ e = .ret) (hd : a.defers = []) (hr : (results fn a.tmps).run P w = .ok v w) (hR : R (.returned v) w) : bodyPost P fn R e a w := by
  rcases he with rfl | rfl <;> exact ⟨hd, v, hr, hR⟩

/-- One result's value. -/
def ResOk (P : Program) (w0 : World) (n : Nat) (I : Hp) (Γ : Gm) (L : List Asn) (x : ResultVar) (v : Value) : Prop :=
  ∀ a w, Fr n Γ a → St w0 I L w → (match x with
    | .tmp t => (pure (a.tmps.getD t undef) : Sem Value)
    | .cell a' t => do
      let p ← asAddr (a.tmps.getD a' undef)
      loadVar t p).run P w = .ok v w
theorem ResOk.tmp {t : Nat} {v : Value} (h : lk Γ t = some v) : ResOk P w0 n I Γ L (.tmp t) v := by
  intro a w hF hS
  have := hF.has t v h
  show Sem.run P (pure (a.tmps.getD t undef)) w = _
  simp [this]
theorem ResOk.cell1 {t : Nat} {T : TypeId} {b : Nat} {v : Value} (h : lk Γ t = some (bp b 0)) (hs : Src w0 I L b [.one v]) (ha : ∀ w, (isAgg T).run P w = .ok false w) : ResOk P w0 n I Γ L (.cell t T) v := by
  intro a w hF hS
  have h1 := hF.has t _ h
  obtain ⟨T', fr, hw⟩ := hs w hS
  have h2 : (a.tmps.getD t undef) = bp b 0 := by simp [h1]
  show Sem.run P (do let p ← asAddr (a.tmps.getD t undef); loadVar T p) w = _
  rw [h2]
  simp only [bp, asAddr, Sem.run_bind, Sem.run_pure, Result.andThen_ok]
  exact run_loadVar1 (ha w) (by rw [cell_at hw]; rfl)
theorem ResOk.cellN {t : Nat} {T : TypeId} {b M : Nat} {segs : List Seg} (h : lk Γ t = some (bp b 0)) (hs : Src w0 I L b segs) (ha : ∀ w, (isAgg T).run P w = .ok true w) (hz : ∀ w, (sizeOf T).run P w = .ok M w) (hM : slen segs = M) : ResOk P w0 n I Γ L (.cell t T) (sval segs) := by
  intro a w hF hS
  have h1 := hF.has t _ h
  obtain ⟨T', fr, hw⟩ := hs w hS
  have h2 : (a.tmps.getD t undef) = bp b 0 := by simp [h1]
  show Sem.run P (do let p ← asAddr (a.tmps.getD t undef); loadVar T p) w = _
  rw [h2]
  simp only [bp, asAddr, Sem.run_bind, Sem.run_pure, Result.andThen_ok]
  rw [run_loadVarN (ha w) (hz w) hw (by rw [List.size_toArray, flat_length]; omega)]
  simp only [sval, List.drop_zero]
  rw [List.take_of_length_le (by rw [flat_length]; omega)]

theorem andThen_assoc {α β γ : Type} (x : Result α) (f : α → World → Result β) (h : β → World → Result γ) : (x.andThen f).andThen h = x.andThen fun a w => (f a w).andThen h := by cases x <;> rfl
def resRun (tmps : Array Value) (x : ResultVar) : Sem Value := match x with
    | .tmp t => pure (tmps.getD t undef)
    | .cell a' t => do
      let p ← asAddr (tmps.getD a' undef)
      loadVar t p
theorem results_eq (fn : Func) (tmps : Array Value) : results fn tmps = (do
    let vs ← fn.results.mapM (resRun tmps)
    pure (if h : vs.size = 1 then vs[0] else .tuple vs)) := rfl
theorem fin1 {fn : Func} {x : ResultVar} {v : Value} {R : α → Value → List Asn → Prop} {r : α} {e : Exit} (he : e = .normal ∨ e = .ret) (hres : fn.results = #[x]) (h1 : ResOk P w0 n I Γ L x v) (js : List Nat) {L' : List Asn} (hext : ext js L = some L') (hR : R r v L') :
    ∀ a w, Fr n Γ a → St w0 I L w → ∀ o, some r = some o → bodyPost P fn (RetM w0 I (R o)) e a w := by
  intro a w hF hS o ho
  obtain rfl := Option.some.inj ho
  refine bodyPost_end he hF.nod (v := v) ?_ ⟨v, L', rfl, hR, hS.ext js hext⟩
  have h : (resRun a.tmps x).run P w = .ok v w := h1 a w hF hS
  rw [results_eq, hres]
  simp [h]
theorem fin2 {fn : Func} {x y : ResultVar} {v u : Value} {R : α → Value → List Asn → Prop} {r : α} {e : Exit} (he : e = .normal ∨ e = .ret) (hres : fn.results = #[x, y]) (h1 : ResOk P w0 n I Γ L x v) (h2 : ResOk P w0 n I Γ L y u) (js : List Nat) {L' : List Asn} (hext : ext js L = some L') (hR : R r (.tuple #[v, u]) L') :
    ∀ a w, Fr n Γ a → St w0 I L w → ∀ o, some r = some o → bodyPost P fn (RetM w0 I (R o)) e a w := by
  intro a w hF hS o ho
  obtain rfl := Option.some.inj ho
  refine bodyPost_end he hF.nod (v := .tuple #[v, u]) ?_ ⟨_, L', rfl, hR, hS.ext js hext⟩
  have h : (resRun a.tmps x).run P w = .ok v w := h1 a w hF hS
  have h' : (resRun a.tmps y).run P w = .ok u w := h2 a w hF hS
  rw [results_eq, hres]
  simp [Sem.run_bind, h, h']
theorem fin3 {fn : Func} {x y z : ResultVar} {v u t : Value} {R : α → Value → List Asn → Prop} {r : α} {e : Exit} (he : e = .normal ∨ e = .ret) (hres : fn.results = #[x, y, z]) (h1 : ResOk P w0 n I Γ L x v) (h2 : ResOk P w0 n I Γ L y u) (h3 : ResOk P w0 n I Γ L z t) (js : List Nat) {L' : List Asn} (hext : ext js L = some L') (hR : R r (.tuple #[v, u, t]) L') :
    ∀ a w, Fr n Γ a → St w0 I L w → ∀ o, some r = some o → bodyPost P fn (RetM w0 I (R o)) e a w := by
  intro a w hF hS o ho
  obtain rfl := Option.some.inj ho
  refine bodyPost_end he hF.nod (v := .tuple #[v, u, t]) ?_ ⟨_, L', rfl, hR, hS.ext js hext⟩
  have h : (resRun a.tmps x).run P w = .ok v w := h1 a w hF hS
  have h' : (resRun a.tmps y).run P w = .ok u w := h2 a w hF hS
  have h'' : (resRun a.tmps z).run P w = .ok t w := h3 a w hF hS
  rw [results_eq, hres]
  simp [Sem.run_bind, h, h', h'']
theorem fin0 {fn : Func} {R : α → Value → List Asn → Prop} {r : α} {e : Exit} (he : e = .normal ∨ e = .ret) (hres : fn.results = #[]) (js : List Nat) {L' : List Asn} (hext : ext js L = some L') (hR : R r (.tuple #[]) L') :
    ∀ a w, Fr n Γ a → St w0 I L w → ∀ o, some r = some o → bodyPost P fn (RetM w0 I (R o)) e a w := by
  intro a w hF hS o ho
  obtain rfl := Option.some.inj ho
  refine bodyPost_end he hF.nod (v := .tuple #[]) ?_ ⟨_, L', rfl, hR, hS.ext js hext⟩
  simp [results, hres]

/-- All pieces are let go. -/
theorem St.clear {w0 I L w} (h : St w0 I L w) : St w0 I [] w := ⟨h.below, h.i0, h.iw, [], rfl, by simp, by simp⟩
theorem TC.clear (k : TC P w0 n I Γ [] cs m D) : TC P w0 n I Γ L cs m D := fun a w hF hS o ho => k a w hF hS.clear o ho
theorem TL.extract {x : Operand} {j : Nat} {vs : Array Value} {v : Value} (hg : gd ops Γ ⟨some d, .extract x j, ty, pos, af, g⟩ = some true) (hn : Nat.blt d n = true) (hx : ev Γ x = some (.tuple vs)) (hj : vs[j]? = some v)
    (k : TL P w0 n I ((d, v) :: Γ) L ops os cs m D) : TL P w0 n I Γ L ops (⟨some d, .extract x j, ty, pos, af, g⟩ :: os) cs m D := by
  refine .val hg rfl (by simpa using hn) (fun a w hF _ => run_v ?_) k
  rw [hF.eval hx]
  simp [Instr.extract, hj]
theorem TL.nilCheck {x : Operand} {b o : Nat} (hg : gd ops Γ ⟨some d, .nilCheck x, ty, pos, af, g⟩ = some true) (hn : Nat.blt d n = true) (hx : ev Γ x = some (bp b o))
    (k : TL P w0 n I ((d, bp b o) :: Γ) L ops os cs m D) : TL P w0 n I Γ L ops (⟨some d, .nilCheck x, ty, pos, af, g⟩ :: os) cs m D := by
  refine .val hg rfl (by simpa using hn) (fun a w hF _ => ?_) k
  show Sem.run P (execOp a.eval _) w = _
  unfold execOp
  simp only [hF.eval hx, bp]
  rfl
end
end Go.Sx
