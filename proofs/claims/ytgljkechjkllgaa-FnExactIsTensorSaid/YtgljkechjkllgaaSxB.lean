/- SxB: more literals, greatest and least, nil, strings. -/
import Derived.Test.YtgljkechjkllgaaSxA
import Derived.Laws.Cover3
import Derived.Laws.Small
import Derived.Laws.BytesArg
import Derived.Laws.BytesString
namespace Go.Sx
open Go.RowKit

/-- The parts of a whole literal, in order. -/
def Parts {β : Type} (E : FE β) : Nat → List β → List (Nat × Value) → Prop
  | _, [], [] => True
  | k, y :: ys, p :: ps => p.1 = k ∧ p.2.cells = (E.enc y).toArray ∧ Parts E (k + 1) ys ps
  | _, _, _ => False
theorem fill_parts {β : Type} {E : FE β} : ∀ {ys : List β} {vs : List (Nat × Value)} {k : Nat} {cells : Array Value}, Parts E k ys vs → cells.size = k * E.sz + ys.length * E.sz →
    Instr.fill (fun i => some (i * E.sz, E.sz)) cells vs = some (cells.toList.take (k * E.sz) ++ encs E ys).toArray
  | [], [], k, cells, _, hs => by
    simp only [Instr.fill, Option.some.injEq]
    apply Array.ext'
    simp only [encs, List.flatMap_nil, List.append_nil]
    rw [List.take_of_length_le]
    simp at hs ⊢; omega
  | [], _ :: _, _, _, h, _ => h.elim
  | _ :: _, [], _, _, h, _ => h.elim
  | y :: ys, (i, v) :: ps, k, cells, h, hs => by
    obtain ⟨rfl, hv, hr⟩ := h
    simp only at hv
    simp only [List.length_cons, Nat.add_mul, Nat.one_mul] at hs
    refine fill_step rfl hv (E.len y) (by omega) ?_
    have hsz : ((cells.toList.take (i * E.sz) ++ E.enc y ++ cells.toList.drop (i * E.sz + E.sz)).toArray).size = (i + 1) * E.sz + ys.length * E.sz := by
      simp only [List.size_toArray, List.length_append, List.length_take, List.length_drop, Array.length_toList, E.len, Nat.add_mul, Nat.one_mul]
      omega
    rw [fill_parts hr hsz]
    congr 2
    have h1 : (cells.toList.take (i * E.sz) ++ E.enc y).length = (i + 1) * E.sz := by
      simp only [List.length_append, List.length_take, Array.length_toList, E.len, Nat.add_mul, Nat.one_mul]; omega
    rw [List.take_left' h1]
    simp [encs]

section
variable {P : Program} {w0 : World} {n : Nat} {I : Hp} {Γ : Gm} {L : List Asn} {cs : List Code} {α : Type} {m : Option α} {D : α → Post} {ops : Array Oper} {os : List Oper}
variable {d : Nat} {ty : TypeId} {pos : String} {af : Array Edge} {g : Option (Nat × Bool)}

/-- A slice's literal, with all its parts. -/
theorem TL.blit {T e : TypeId} {len : Nat} {parts : Array (Nat × Operand)} {β : Type} (E : FE β) (ys : List β) (hT : P.underlying T = some (.slice e)) (hz : ∀ w, (sizeOf e).run P w = .ok E.sz w) {zv : Value} (hzv : ∀ w, (zeroValue e).run P w = .ok zv w)
    (hl : ys.length = len) (hsm : Nat.ble (len * E.sz) 1000 = true) (hpos : Nat.beq (len * E.sz) 0 = false)
    (vs : List (Nat × Value)) (hvs : parts.toList.map (fun p => (p.1, ev Γ p.2)) = vs.map (fun p => (p.1, some p.2))) (hp : Parts E 0 ys vs)
    (hg : gd ops Γ ⟨some d, .buildSlice T len parts, ty, pos, af, g⟩ = some true) (hn : Nat.blt d n = true)
    (k : ∀ s, TL P w0 n I ((d, SV.v s) :: Γ) (row E e s ys :: L) ops os cs m D) : TL P w0 n I Γ L ops (⟨some d, .buildSlice T len parts, ty, pos, af, g⟩ :: os) cs m D := by
  refine TL.bslice E ys (encs E ys).toArray hT hz hzv hl hsm hpos vs hvs ?_ (by simp) hg hn k
  rw [fill_parts hp (by simp [hl])]
  simp

theorem TL.max2 {x y : Operand} {T1 T2 : TypeId} {a b : Int} {kd : IntKind}
    (hg : gd ops Γ ⟨some d, .call { callee := .builtin .max, args := #[x, y], argTypes := #[T1, T2] }, ty, pos, af, g⟩ = some true) (hn : Nat.blt d n = true) (hx : ev Γ x = some (.int kd a)) (hy : ev Γ y = some (.int kd b))
    (k : TL P w0 n I ((d, .int kd (if b > a then b else a)) :: Γ) L ops os cs m D) : TL P w0 n I Γ L ops (⟨some d, .call { callee := .builtin .max, args := #[x, y], argTypes := #[T1, T2] }, ty, pos, af, g⟩ :: os) cs m D := by
  refine .val hg rfl (by simpa using hn) (fun a' w hF hS => ?_) k
  unfold execOp
  simp only [resolve, invoke, builtin, Sem.run_bind, Sem.run_pure, Result.andThen_ok, List.map_toArray, List.map_cons, List.map_nil, hF.eval hx, hF.eval hy]
  simp [Builtin.max_, Builtin.max2]
theorem TL.min2 {x y : Operand} {T1 T2 : TypeId} {a b : Int} {kd : IntKind}
    (hg : gd ops Γ ⟨some d, .call { callee := .builtin .min, args := #[x, y], argTypes := #[T1, T2] }, ty, pos, af, g⟩ = some true) (hn : Nat.blt d n = true) (hx : ev Γ x = some (.int kd a)) (hy : ev Γ y = some (.int kd b))
    (k : TL P w0 n I ((d, .int kd (if b < a then b else a)) :: Γ) L ops os cs m D) : TL P w0 n I Γ L ops (⟨some d, .call { callee := .builtin .min, args := #[x, y], argTypes := #[T1, T2] }, ty, pos, af, g⟩ :: os) cs m D := by
  refine .val hg rfl (by simpa using hn) (fun a' w hF hS => ?_) k
  unfold execOp
  simp only [resolve, invoke, builtin, Sem.run_bind, Sem.run_pure, Result.andThen_ok, List.map_toArray, List.map_cons, List.map_nil, hF.eval hx, hF.eval hy]
  simp [Builtin.min_, Builtin.min2]

/-- Is a slice nil? -/
theorem TL.isNil {T T2 e : TypeId} {x y : Operand} (s : SV) (hT : P.underlying T = some (.slice e)) (hg : gd ops Γ ⟨some d, .binOp .eql T x y T2, ty, pos, af, g⟩ = some true) (hn : Nat.blt d n = true)
    (hx : ev Γ x = some s.v) (hy : ev Γ y = some (.slice none 0 0))
    (kk : TL P w0 n I ((d, .bool s.a.isNone) :: Γ) L ops os cs m D) : TL P w0 n I Γ L ops (⟨some d, .binOp .eql T x y T2, ty, pos, af, g⟩ :: os) cs m D := by
  refine .val hg rfl (by simpa using hn) (fun a' w hF _ => run_v ?_) kk
  rw [hF.eval hx, hF.eval hy]
  simp [eqGuard, binOp, SV.v, run_equal_slice_nil w T e s.a s.n s.c hT]
theorem Reads.isnil {β : Type} {E : FE β} {I : Hp} {s : SV} {ys : List β} (h : Reads E I s ys) (hn : s.a.isNone = true) : ys = [] := by
  rcases h.2.2.2 with h | ⟨b, o, cs, T, fr, ha, _⟩
  · exact h
  · rw [ha] at hn; cases hn
/-- A condition that the pure text does not know. -/
theorem TC.condN {c : Operand} {x y : Code} {b : Bool} (hc : ev Γ c = some (.bool b))
    (k1 : b = true → TC P w0 n I Γ L (x :: cs) m D) (k2 : b = false → TC P w0 n I Γ L (y :: cs) m D) :
    TC P w0 n I Γ L (.cond c x y :: cs) m D := by
  intro a w hF hS o ho
  refine wp_cond_split (hF.eval hc) ?_ ?_
  · intro hb; exact k1 hb a w hF hS o ho
  · intro hb; exact k2 hb a w hF hS o ho
theorem TC.as {m' : Option α} (h : m = m') (k : TC P w0 n I Γ L cs m' D) : TC P w0 n I Γ L cs m D := h ▸ k

/-! ### strings -/
theorem strv_append (a b : Str) : (ByteArray.mk a.toArray) ++ (ByteArray.mk b.toArray) = ByteArray.mk (a ++ b).toArray := by
  apply ByteArray.ext
  rw [ByteArray.data_append]
  simp
theorem TL.cat {T T2 : TypeId} {x y : Operand} (a b : Str) (hsm : a.length + b.length ≤ 1099511627776) (hg : gd ops Γ ⟨some d, .binOp .add T x y T2, ty, pos, af, g⟩ = some true) (hn : Nat.blt d n = true)
    (hx : ev Γ x = some (strv a)) (hy : ev Γ y = some (strv b))
    (kk : TL P w0 n I ((d, strv (a ++ b)) :: Γ) L ops os cs m D) : TL P w0 n I Γ L ops (⟨some d, .binOp .add T x y T2, ty, pos, af, g⟩ :: os) cs m D := by
  refine .val hg rfl (by simpa using hn) (fun a' w hF _ => run_v ?_) kk
  rw [hF.eval hx, hF.eval hy]
  have h1 : ¬ (((ByteArray.mk a.toArray).size + (ByteArray.mk b.toArray).size : Nat) : Int) > IntKind.i64.max := by
    have e1 : (ByteArray.mk a.toArray).size = a.length := by show a.toArray.size = _; simp
    have e2 : (ByteArray.mk b.toArray).size = b.length := by show b.toArray.size = _; simp
    rw [e1, e2]
    have : IntKind.i64.max = 9223372036854775807 := rfl
    omega
  simp only [eqGuard, binOp, Op.stringOp, strv, Sem.run_bind, Sem.run_pure, Result.andThen_ok, if_neg h1, strv_append]
  rfl
/-- Bytes, as a string. -/
theorem run_b2s {w : World} {s : SV} {ys : List UInt8} (hr : Reads Eu (hp w) s ys) : (Conv.bytesToString s.v).run P w = .ok (strv ys) w := by
  obtain ⟨h0, _, _, h3⟩ := hr
  rcases h3 with rfl | ⟨b, o, cs, T, fr, ha, hb, hc⟩
  · have hn : s.n = 0 := by simpa using h0
    cases hsa : s.a with
    | none => simp [Conv.bytesToString, SV.v, hsa, strv]; rfl
    | some a => simp [Conv.bytesToString, SV.v, hsa, hn, loadCells, loadCellsFrom, strv]; rfl
  · have hcells : ∀ j v, (encs Eu ys)[j]? = some v → w.cell? ((⟨b, o, none⟩ : Addr).add j) = some v := by
      intro j v hj
      rw [add_none, cell_at hb]
      exact hc j v hj
    have h1 := run_loadCells_list (P := P) w ⟨b, o, none⟩ (encs Eu ys) hcells
    rw [encs_length, show ys.length * Eu.sz = ys.length by simp [Eu]] at h1
    have e : (encs Eu ys).toArray = ((ys.map fun y => (y.toNat : Int)).map (Value.int .u8)).toArray := by
      congr 1
      rw [List.map_map]
      clear h0 h1 hcells hc
      induction ys with
      | nil => rfl
      | cons y ys ih => simp only [encs, List.flatMap_cons, List.map_cons] at ih ⊢; rw [ih]; rfl
    rw [e] at h1
    rw [SV.v, ha, h0, run_bytesToString w _ _ _ _ h1, foldl_push_bytes]
    simp only [strv, ByteArray.empty, ByteArray.emptyWithCapacity, List.map_map]
    have e2 : List.map ((fun n : Int => UInt8.ofNat n.toNat) ∘ fun y : UInt8 => (y.toNat : Int)) ys = ys := by
      refine (List.map_congr_left fun y _ => ?_).trans (List.map_id ys)
      show UInt8.ofNat ((y.toNat : Int)).toNat = y
      simp
    rw [e2]
    congr 3
    apply Array.ext'
    simp
    rfl
theorem TL.b2s {S T e : TypeId} {x : Operand} {s : SV} {ys : List UInt8} (hr : Rd w0 I L Eu s ys) (hS : P.underlying S = some (.slice e)) (he : P.underlying e = some (.int .u8)) (hT : P.underlying T = some .string) (hg : gd ops Γ ⟨some d, .convert S T x, ty, pos, af, g⟩ = some true) (hn : Nat.blt d n = true) (hx : ev Γ x = some s.v)
    (kk : TL P w0 n I ((d, strv ys) :: Γ) L ops os cs m D) : TL P w0 n I Γ L ops (⟨some d, .convert S T x, ty, pos, af, g⟩ :: os) cs m D := by
  refine .val hg rfl (by simpa using hn) (fun a w hF hW => run_v ?_) kk
  rw [hF.eval hx]
  exact (run_convert_bytes_string w S T e s.a s.n s.c hS he hT).trans (run_b2s (hr w hW))
end
end Go.Sx
