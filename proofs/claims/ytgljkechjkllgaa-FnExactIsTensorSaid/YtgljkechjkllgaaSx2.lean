/- Sx2: values as segments of cells, rows of slices, and the rules of single operations. -/
import Derived.Test.YtgljkechjkllgaaSx1
import Derived.Laws.Append
import Derived.Laws.AppendOwn
import Derived.Laws.Entries
namespace Go.Sx
open Go.RowKit

/-! ### aggregates as segments -/
inductive Seg where
  | one (v : Value)
  | arr (n : Nat) (f : Nat → Value)

def Seg.len : Seg → Nat
  | .one _ => 1
  | .arr n _ => n
def Seg.cells : Seg → List Value
  | .one v => [v]
  | .arr n f => (List.range n).map f
def flat : List Seg → List Value
  | [] => []
  | s :: r => s.cells ++ flat r
def slen : List Seg → Nat
  | [] => 0
  | s :: r => s.len + slen r
def soff (segs : List Seg) (j : Nat) : Nat := slen (segs.take j)
def sval (segs : List Seg) : Value := .agg (flat segs).toArray
def bp (b off : Nat) : Value := .pointer (some ⟨b, off, none⟩)
def enf {β : Type} (e : β → Value) (t : Nat → β) : Nat → Value := fun i => e (t i)
def u8v (x : UInt8) : Value := .int .u8 x.toNat
abbrev Str := List UInt8
def strv (x : Str) : Value := .string ⟨x.toArray⟩
def i64v (x : Int) : Value := .int .i64 x
def blv (x : Bool) : Value := .bool x
def upd {β : Type} (t : Nat → β) (k : Nat) (x : β) : Nat → β := fun i => if i = k then x else t i
def updN {β : Type} (t : Nat → β) (k m : Nat) (g : Nat → β) : Nat → β := fun i => if k ≤ i ∧ i < k + m then g (i - k) else t i
def sub {β : Type} (t : Nat → β) (k : Nat) : Nat → β := fun i => t (k + i)

theorem Seg.length_cells (s : Seg) : s.cells.length = s.len := by cases s <;> simp [Seg.cells, Seg.len]
theorem flat_length (segs : List Seg) : (flat segs).length = slen segs := by
  induction segs with
  | nil => rfl
  | cons s r ih => simp [flat, slen, Seg.length_cells, ih]
theorem flat_append (a b : List Seg) : flat (a ++ b) = flat a ++ flat b := by
  induction a with
  | nil => rfl
  | cons s r ih => simp [flat, ih]
theorem flat_cut {segs : List Seg} {j : Nat} {s : Seg} (h : segs[j]? = some s) : flat segs = flat (segs.take j) ++ (s.cells ++ flat (segs.drop (j + 1))) := by
  have hj : j < segs.length := (List.getElem?_eq_some_iff.1 h).1
  have hs : segs[j] = s := (List.getElem?_eq_some_iff.1 h).2
  have : segs = segs.take j ++ (s :: segs.drop (j + 1)) := by
    rw [← hs, List.getElem_cons_drop, List.take_append_drop]
  conv => lhs; rw [this]
  rw [flat_append]; rfl
theorem flat_cut_set {segs : List Seg} {j : Nat} {s : Seg} (h : segs[j]? = some s) (s' : Seg) : flat (segs.set j s') = flat (segs.take j) ++ (s'.cells ++ flat (segs.drop (j + 1))) := by
  have hj : j < segs.length := (List.getElem?_eq_some_iff.1 h).1
  have h' : (segs.set j s')[j]? = some s' := by simp [hj]
  rw [flat_cut h', List.take_set, List.drop_set, if_pos (by omega)]
  congr 2
  rw [List.set_eq_of_length_le]; simp; omega
theorem soff_length (segs : List Seg) (j : Nat) : (flat (segs.take j)).length = soff segs j := flat_length _

theorem flat_get {segs : List Seg} {j : Nat} {s : Seg} (h : segs[j]? = some s) {k : Nat} (hk : k < s.len) : (flat segs)[soff segs j + k]? = s.cells[k]? := by
  rw [flat_cut h, List.getElem?_append_right (by rw [soff_length]; omega), soff_length, Nat.add_sub_cancel_left, List.getElem?_append_left (by rw [Seg.length_cells]; exact hk)]
theorem flat_get_one {segs : List Seg} {j : Nat} {v : Value} (h : segs[j]? = some (.one v)) : (flat segs)[soff segs j]? = some v := by
  have := flat_get h (k := 0) (by simp [Seg.len])
  simpa [Seg.cells] using this
theorem flat_get_arr {segs : List Seg} {j n : Nat} {f : Nat → Value} (h : segs[j]? = some (.arr n f)) {k : Nat} (hk : k < n) : (flat segs)[soff segs j + k]? = some (f k) := by
  rw [flat_get h (by exact hk)]
  simp [Seg.cells, hk]
theorem flat_part {segs : List Seg} {j n : Nat} {f : Nat → Value} (h : segs[j]? = some (.arr n f)) {k m : Nat} (hk : k + m ≤ n) :
    ((flat segs).drop (soff segs j + k)).take m = flat [.arr m (sub f k)] := by
  apply List.ext_getElem?
  intro i
  simp only [List.getElem?_take, List.getElem?_drop]
  by_cases hi : i < m
  · rw [if_pos hi, Nat.add_assoc, flat_get_arr h (by omega)]
    simp [flat, Seg.cells, hi, sub]
  · rw [if_neg hi]
    simp [flat, Seg.cells, hi]
theorem flat_mid (segs : List Seg) (j c : Nat) : ((flat segs).drop (soff segs j)).take (slen ((segs.drop j).take c)) = flat ((segs.drop j).take c) := by
  have h1 : flat segs = flat (segs.take j) ++ flat (segs.drop j) := by rw [← flat_append, List.take_append_drop]
  have h2 : flat (segs.drop j) = flat ((segs.drop j).take c) ++ flat ((segs.drop j).drop c) := by rw [← flat_append, List.take_append_drop]
  rw [h1, List.drop_append, ← soff_length, List.drop_length, Nat.sub_self, List.drop_zero, List.nil_append, h2, ← flat_length, List.take_left]

theorem set_mid {β : Type} (l1 l2 l3 : List β) (k : Nat) (v : β) (hk : k < l2.length) : (l1 ++ (l2 ++ l3)).set (l1.length + k) v = l1 ++ (l2.set k v ++ l3) := by
  rw [List.set_append_right _ _ (by omega), Nat.add_sub_cancel_left, List.set_append_left _ _ hk]
theorem splice_mid {β : Type} (l1 l2 l3 : List β) (k : Nat) (vs : List β) (hk : k + vs.length ≤ l2.length) :
    (l1 ++ (l2 ++ l3)).take (l1.length + k) ++ vs ++ (l1 ++ (l2 ++ l3)).drop (l1.length + k + vs.length) = l1 ++ ((l2.take k ++ vs ++ l2.drop (k + vs.length)) ++ l3) := by
  rw [List.take_append, List.take_of_length_le (by omega), Nat.add_sub_cancel_left, List.take_append_of_le_length (by omega), List.drop_append,
    List.drop_of_length_le (by omega), List.nil_append, show l1.length + k + vs.length - l1.length = k + vs.length by omega, List.drop_append_of_le_length hk]
  simp

theorem flat_set_one {segs : List Seg} {j : Nat} {u : Value} (h : segs[j]? = some (.one u)) (v : Value) : (flat segs).set (soff segs j) v = flat (segs.set j (.one v)) := by
  rw [flat_cut h, flat_cut_set h, ← soff_length]
  have := set_mid (flat (segs.take j)) (Seg.one u).cells (flat (segs.drop (j + 1))) 0 v (by simp [Seg.cells])
  simpa only [Seg.cells, List.set_cons_zero, Nat.add_zero] using this
theorem flat_set_arr {β : Type} {e : β → Value} {t : Nat → β} {segs : List Seg} {j n : Nat} (h : segs[j]? = some (.arr n (enf e t))) {k : Nat} (hk : k < n) (x : β) :
    (flat segs).set (soff segs j + k) (e x) = flat (segs.set j (.arr n (enf e (upd t k x)))) := by
  rw [flat_cut h, flat_cut_set h, ← soff_length, set_mid _ _ _ _ _ (by simpa [Seg.cells] using hk)]
  congr 2
  apply List.ext_getElem?
  intro i
  simp only [Seg.cells, List.getElem?_set, List.length_map, List.length_range, List.getElem?_map]
  by_cases hi : i < n
  · by_cases hik : k = i
    · subst hik; simp [hi, enf, upd]
    · have : ¬ i = k := fun e => hik e.symm
      simp [hi, hik, this, enf, upd]
  · by_cases hik : k = i
    · omega
    · simp [hi, hik]
theorem flat_splice_arr {β : Type} {e : β → Value} {t g : Nat → β} {segs : List Seg} {j n : Nat} (h : segs[j]? = some (.arr n (enf e t))) {k m : Nat} (hk : k + m ≤ n) :
    (flat segs).take (soff segs j + k) ++ flat [.arr m (enf e g)] ++ (flat segs).drop (soff segs j + k + m) = flat (segs.set j (.arr n (enf e (updN t k m g)))) := by
  have hm : (flat [Seg.arr m (enf e g)]).length = m := by simp [flat, Seg.cells]
  rw [flat_cut_set h]
  have := splice_mid (flat (segs.take j)) (Seg.arr n (enf e t)).cells (flat (segs.drop (j + 1))) k (flat [.arr m (enf e g)]) (by rw [hm, Seg.length_cells]; exact hk)
  rw [← flat_cut h, hm, soff_length] at this
  rw [this]
  congr 2
  apply List.ext_getElem?
  intro i
  simp only [Seg.cells, flat, List.append_nil, List.getElem?_append, List.length_append, List.length_take, List.length_map, List.length_range, List.getElem?_take, List.getElem?_map, List.getElem?_drop]
  have h1 : min k n = k := by omega
  rw [h1]
  by_cases hi : i < n
  · by_cases hik : i < k
    · have : ¬ k ≤ i := by omega
      have h2 : i < k + m := by omega
      simp [hi, hik, this, h2, enf, updN]
    · by_cases hik2 : i < k + m
      · have h3 : k ≤ i := by omega
        have h4 : i - k < m := by omega
        simp [hi, hik, hik2, h3, h4, enf, updN]
      · have h4 : k + m + (i - (k + m)) = i := by omega
        simp [hi, hik2, h4, enf, updN]
  · have h2 : ¬ i < k := by omega
    have h3 : ¬ i < k + m := by omega
    have h4 : n ≤ k + m + (i - (k + m)) := by omega
    simp [hi, h3, h4]
theorem flat_splice_mid (segs news : List Seg) (j c : Nat) (hl : slen news = slen ((segs.drop j).take c)) :
    (flat segs).take (soff segs j) ++ flat news ++ (flat segs).drop (soff segs j + slen news) = flat (segs.take j ++ news ++ segs.drop (j + c)) := by
  have h1 : flat segs = flat (segs.take j) ++ (flat ((segs.drop j).take c) ++ flat (segs.drop (j + c))) := by
    rw [← flat_append, ← flat_append, ← List.drop_drop, List.take_append_drop, List.take_append_drop]
  have := splice_mid (flat (segs.take j)) (flat ((segs.drop j).take c)) (flat (segs.drop (j + c))) 0 (flat news) (by rw [flat_length, flat_length]; omega)
  rw [← h1, soff_length, flat_length, Nat.add_zero] at this
  rw [this, flat_append, flat_append]
  simp only [List.take_zero, List.nil_append, Nat.zero_add]
  rw [hl, ← flat_length, List.drop_length]
  simp

def ones (segs : List Seg) : Prop := ∀ v ∈ flat segs, v.oneCell' = true
theorem oneCell_sub {β : Type} {e : β → Value} (he : ∀ x, (e x).oneCell' = true) (m : Nat) (g : Nat → β) : ones [.arr m (enf e g)] := by
  intro v hv
  simp only [flat, Seg.cells, List.append_nil, List.mem_map] at hv
  obtain ⟨i, _, rfl⟩ := hv
  exact he _
theorem ones_nil : ones [] := by intro v hv; cases hv
theorem ones_one {v : Value} {r : List Seg} (h : v.oneCell' = true) (hr : ones r) : ones (.one v :: r) := by
  intro u hu
  simp only [flat, Seg.cells, List.singleton_append, List.mem_cons] at hu
  rcases hu with rfl | hu
  · exact h
  · exact hr u hu
theorem ones_arr {β : Type} {e : β → Value} (he : ∀ x, (e x).oneCell' = true) {m : Nat} {g : Nat → β} {r : List Seg} (hr : ones r) : ones (.arr m (enf e g) :: r) := by
  intro u hu
  simp only [flat, List.mem_append] at hu
  rcases hu with hu | hu
  · exact oneCell_sub he m g u (by simpa [flat] using hu)
  · exact hr u hu

/-! ### pieces of memory -/
def box (b : Nat) (T : TypeId) (segs : List Seg) : Asn := fun ρ => ρ = [(b, .cells (flat segs).toArray T (0, 0))]
/-- What a pointer that is only read leads to. -/
def At (I : Hp) (b : Nat) (segs : List Seg) : Prop := ∃ T fr, I b = some (.cells (flat segs).toArray T fr)
def Src (w0 : World) (I : Hp) (L : List Asn) (b : Nat) (segs : List Seg) : Prop := ∀ w, St w0 I L w → At (hp w) b segs
theorem At.mono {I J b segs} (h : At I b segs) (hIJ : Hle I J) : At J b segs := by obtain ⟨T, fr, h⟩ := h; exact ⟨T, fr, hIJ _ _ h⟩
theorem Src.at {w0 I L b segs} (h : At I b segs) : Src w0 I L b segs := fun _ hS => h.mono hS.iw
theorem Src.box {w0 I L b T segs} (i : Nat) (hi : L[i]? = some (box b T segs)) : Src w0 I L b segs := by
  intro w hS
  obtain ⟨ρA, hA, hh⟩ := hS.get hi
  simp only [Sx.box] at hA; subst hA
  exact ⟨T, (0, 0), hh _ (List.mem_singleton.2 rfl)⟩

structure FE (α : Type) where
  sz : Nat
  enc : α → List Value
  len : ∀ x, (enc x).length = sz
  one : ∀ x, ∀ v ∈ enc x, v.oneCell' = true

def encs {α : Type} (E : FE α) (ys : List α) : List Value := ys.flatMap E.enc
theorem encs_length {α : Type} (E : FE α) (ys : List α) : (encs E ys).length = ys.length * E.sz := by
  induction ys with
  | nil => simp [encs]
  | cons y ys ih => simp only [encs, List.flatMap_cons, List.length_append, E.len, List.length_cons] at ih ⊢; rw [ih, Nat.add_mul]; omega
theorem encs_append {α : Type} (E : FE α) (xs ys : List α) : encs E (xs ++ ys) = encs E xs ++ encs E ys := by simp [encs]
theorem encs_one {α : Type} (E : FE α) (ys : List α) : ∀ v ∈ encs E ys, v.oneCell' = true := by
  intro v hv
  simp only [encs, List.mem_flatMap] at hv
  obtain ⟨x, _, hv⟩ := hv
  exact E.one x v hv
theorem encs_get {α : Type} (E : FE α) : ∀ (ys : List α) (i j : Nat) (y : α), ys[i]? = some y → j < E.sz → (encs E ys)[i * E.sz + j]? = (E.enc y)[j]?
  | [], i, j, y, h, _ => by simp at h
  | x :: ys, 0, j, y, h, hj => by
    simp at h; subst h
    simp only [encs, List.flatMap_cons, Nat.zero_mul, Nat.zero_add]
    rw [List.getElem?_append_left (by rw [E.len]; exact hj)]
  | x :: ys, i + 1, j, y, h, hj => by
    have ih := encs_get E ys i j y (by simpa using h) hj
    simp only [encs, List.flatMap_cons] at ih ⊢
    rw [List.getElem?_append_right (by rw [E.len, Nat.add_mul]; omega), E.len, ← ih]
    congr 1
    rw [Nat.add_mul]; omega

def Ei : FE Int := ⟨1, fun x => [.int .i64 x], fun _ => rfl, fun x v hv => by simp at hv; subst hv; rfl⟩
def Eu : FE UInt8 := ⟨1, fun x => [u8v x], fun _ => rfl, fun x v hv => by simp at hv; subst hv; rfl⟩
def Eb : FE Bool := ⟨1, fun x => [.bool x], fun _ => rfl, fun x v hv => by simp at hv; subst hv; rfl⟩
def Es : FE Str := ⟨1, fun x => [strv x], fun _ => rfl, fun x v hv => by simp at hv; subst hv; rfl⟩
/-- A slice's own value, as a cell. -/
structure SV where
  a : Option Addr
  n : Nat
  c : Nat
def SV.v (s : SV) : Value := .slice s.a s.n s.c
def Ev : FE SV := ⟨1, fun s => [s.v], fun _ => rfl, fun x v hv => by simp at hv; subst hv; rfl⟩
def Eii : FE (Int × Int) := ⟨2, fun x => [.int .i64 x.1, .int .i64 x.2], fun _ => rfl, fun x v hv => by simp at hv; rcases hv with rfl | rfl <;> rfl⟩
def Evec (n : Nat) : FE (Nat → UInt8) := ⟨n, fun t => flat [.arr n (enf u8v t)], fun _ => by simp [flat, Seg.cells], fun t => oneCell_sub (fun _ => rfl) n t⟩

def row {α : Type} (E : FE α) (T : TypeId) (s : SV) (ys : List α) : Asn := fun ρ =>
  (s = ⟨none, 0, 0⟩ ∧ ys = [] ∧ ρ = []) ∨
  ∃ g o cap cur, s = ⟨some ⟨g, o, none⟩, ys.length, cap⟩ ∧ ρ = [(g, .cells cur T (0, 0))] ∧ ys.length ≤ cap ∧ cap ≤ maxLen ∧ o + cap * E.sz ≤ cur.size ∧
    (cur.toList.drop o).take (ys.length * E.sz) = encs E ys

/-- A slice that is only read. -/
def Reads {α : Type} (E : FE α) (I : Hp) (s : SV) (ys : List α) : Prop :=
  s.n = ys.length ∧ s.n ≤ s.c ∧ s.c ≤ maxLen ∧
    (ys = [] ∨ ∃ b o cs T fr, s.a = some ⟨b, o, none⟩ ∧ I b = some (.cells cs T fr) ∧ ∀ j u, (encs E ys)[j]? = some u → cs[o + j]? = some u)
theorem Reads.mono {α : Type} {E : FE α} {I J s ys} (h : Reads E I s ys) (hIJ : Hle I J) : Reads E J s ys := by
  obtain ⟨h0, h1, h2, h3⟩ := h
  refine ⟨h0, h1, h2, ?_⟩
  rcases h3 with h3 | ⟨b, o, cs, T, fr, ha, hb, hc⟩
  · exact .inl h3
  · exact .inr ⟨b, o, cs, T, fr, ha, hIJ _ _ hb, hc⟩

def Rd {α : Type} (w0 : World) (I : Hp) (L : List Asn) (E : FE α) (s : SV) (ys : List α) : Prop := ∀ w, St w0 I L w → Reads E (hp w) s ys
theorem Rd.old {α : Type} {E : FE α} {w0 I L s ys} (h : Reads E I s ys) : Rd w0 I L E s ys := fun _ hS => h.mono hS.iw
theorem row_reads {α : Type} {E : FE α} {T s ys ρ} {I : Hp} (h : row E T s ys ρ) (hh : ∀ p ∈ ρ, I p.1 = some p.2) : Reads E I s ys := by
  rcases h with ⟨rfl, rfl, rfl⟩ | ⟨g, o, cap, cur, rfl, rfl, h1, h2, h3, h4⟩
  · exact ⟨rfl, Nat.le_refl _, by simp [maxLen], .inl rfl⟩
  · refine ⟨rfl, h1, h2, .inr ⟨g, o, cur, T, (0, 0), rfl, hh _ (List.mem_singleton.2 rfl), ?_⟩⟩
    intro j u hu
    rw [← h4, List.getElem?_take] at hu
    split at hu
    · simpa using hu
    · cases hu
theorem Rd.row {α : Type} {E : FE α} {w0 I L T s ys} (i : Nat) (hi : L[i]? = some (row E T s ys)) : Rd w0 I L E s ys := by
  intro w hS
  obtain ⟨ρA, hA, hh⟩ := hS.get hi
  exact row_reads hA hh

def ep (s : SV) (o : Nat) : Value := match s.a with
  | some a => .pointer (some (a.add o))
  | none => undef

/-! ### rules -/
def gd (ops : Array Oper) (Γ : Gm) (o : Oper) : Option Bool :=
  match o.guard with
  | none => some true
  | some (j, want) => match ((ops[j]?).bind (·.dst)).bind (lk Γ) with
    | some (.bool b) => some (b == want)
    | some (.tuple _) => some false
    | _ => none

theorem gd_spec {ops Γ o b n a} (h : gd ops Γ o = some b) (hF : Fr n Γ a) : Region.wanted o (yielded ops a.tmps) = b := by
  unfold gd at h
  unfold Region.wanted
  cases hg : o.guard with
  | none => rw [hg] at h; simpa using h
  | some p =>
    obtain ⟨j, want⟩ := p
    rw [hg] at h
    simp only at h ⊢
    split at h
    · rename_i b' hb'
      obtain rfl := Option.some.inj h
      obtain ⟨d, hd, hl⟩ := Option.bind_eq_some_iff.1 hb'
      have := hF.has d _ hl
      have hy : yielded ops a.tmps j = some b' := by simp [yielded, hd, this]
      rw [hy]; cases b' <;> cases want <;> rfl
    · rename_i vs hb'
      obtain rfl := Option.some.inj h
      obtain ⟨d, hd, hl⟩ := Option.bind_eq_some_iff.1 hb'
      have := hF.has d _ hl
      have hy : yielded ops a.tmps j = none := by simp [yielded, hd, this]
      rw [hy]; rfl
    · cases h

section
variable {P : Program} {w0 : World} {n : Nat} {I : Hp} {Γ : Gm} {L : List Asn} {cs : List Code} {α : Type} {m : Option α} {D : α → Exit → Act → World → Prop} {ops : Array Oper} {os : List Oper} {o : Oper}

theorem TL.core (hg : gd ops Γ o = some true)
    (h : ∀ a w, Fr n Γ a → St w0 I L w → ∀ r, m = some r → o.wp P a w (wpList P ops (seqs P cs (D r)) os) (seqs P cs (D r))) : TL P w0 n I Γ L ops (o :: os) cs m D := by
  intro a w hF hS r hr
  refine wpList_step fun K hK => ?_
  rw [gd_spec hg hF]
  simp only [if_true]
  exact Oper.wp_mono hK (h a w hF hS r hr)

theorem TL.skip {d : Nat} (hg : gd ops Γ o = some false) (hd : o.dst = some d) (hn : d < n) (k : TL P w0 n I ((d, undef) :: Γ) L ops os cs m D) : TL P w0 n I Γ L ops (o :: os) cs m D := by
  intro a w hF hS r hr
  refine wpList_step fun K hK => ?_
  rw [gd_spec hg hF]
  simp only [Bool.false_eq_true, if_false]
  rw [hd]
  exact hK _ _ (k _ _ (hF.put hn) hS r hr)
theorem TL.skip0 (hg : gd ops Γ o = some false) (hd : o.dst = none) (k : TL P w0 n I Γ L ops os cs m D) : TL P w0 n I Γ L ops (o :: os) cs m D := by
  intro a w hF hS r hr
  refine wpList_step fun K hK => ?_
  rw [gd_spec hg hF]
  simp only [Bool.false_eq_true, if_false]
  rw [hd]
  exact hK _ _ (k _ _ hF hS r hr)

theorem TL.val {d : Nat} {v : Value} (hg : gd ops Γ o = some true) (hd : o.dst = some d) (hn : d < n)
    (hrun : ∀ a w, Fr n Γ a → St w0 I L w → (execOp a.eval o).run P w = .ok (.value v) w)
    (k : TL P w0 n I ((d, v) :: Γ) L ops os cs m D) : TL P w0 n I Γ L ops (o :: os) cs m D := by
  refine .core hg fun a w hF hS r hr => ?_
  unfold Oper.wp
  rw [hrun a w hF hS, Oper.upon_value, hd]
  exact k _ _ (hF.put hn) hS r hr

theorem run_v {s : Sem Value} {v : Value} {w w' : World} (h : s.run P w = .ok v w') : (do pure (Next.value (← s)) : Sem Next).run P w = .ok (.value v) w' := by
  show (Sem.bind s _).run P w = _
  rw [show (Sem.bind s fun a => (pure (Next.value a) : Sem Next)) = (s >>= fun a => pure (Next.value a)) from rfl, Sem.run_bind, h]
  rfl

variable {d : Nat} {ty : TypeId} {pos : String} {af : Array Edge} {g : Option (Nat × Bool)}

theorem TL.move {x : Operand} {v : Value} (hg : gd ops Γ ⟨some d, .move x, ty, pos, af, g⟩ = some true) (hn : Nat.blt d n = true) (hx : ev Γ x = some v)
    (k : TL P w0 n I ((d, v) :: Γ) L ops os cs m D) : TL P w0 n I Γ L ops (⟨some d, .move x, ty, pos, af, g⟩ :: os) cs m D :=
  .val hg rfl (by simpa using hn) (fun a w hF _ => by show Sem.run P (pure (Next.value (a.eval x))) w = _; rw [hF.eval hx]; rfl) k
theorem TL.assign {x : Operand} {v : Value} (hg : gd ops Γ ⟨some d, .assign x, ty, pos, af, g⟩ = some true) (hn : Nat.blt d n = true) (hx : ev Γ x = some v)
    (k : TL P w0 n I ((d, v) :: Γ) L ops os cs m D) : TL P w0 n I Γ L ops (⟨some d, .assign x, ty, pos, af, g⟩ :: os) cs m D :=
  .val hg rfl (by simpa using hn) (fun a w hF _ => by show Sem.run P (pure (Next.value (a.eval x))) w = _; rw [hF.eval hx]; rfl) k

theorem TL.pick {c x y : Operand} {b : Bool} {r : Value} (hg : gd ops Γ ⟨some d, .pick c x y, ty, pos, af, g⟩ = some true) (hn : Nat.blt d n = true) (hc : ev Γ c = some (.bool b)) (hr : (bif b then ev Γ x else ev Γ y) = some r)
    (k : TL P w0 n I ((d, r) :: Γ) L ops os cs m D) : TL P w0 n I Γ L ops (⟨some d, .pick c x y, ty, pos, af, g⟩ :: os) cs m D := by
  refine .val hg rfl (by simpa using hn) (fun a w hF _ => ?_) k
  have h := hr
  show Sem.run P (do pure (Next.value (if ← asBool (a.eval c) then a.eval x else a.eval y))) w = _
  rw [hF.eval hc]
  cases b with
  | true => simp only [cond_true] at h; rw [hF.eval h]; rfl
  | false => simp only [cond_false] at h; rw [hF.eval h]; rfl

def intBin : BinOp → IntKind → Int → Int → Option Value
  | .add, k, x, y => some (.int k (k.wrap (x + y)))
  | .sub, k, x, y => some (.int k (k.wrap (x - y)))
  | .mul, k, x, y => some (.int k (k.wrap (x * y)))
  | .eql, _, x, y => some (.bool (x == y))
  | .neq, _, x, y => some (.bool (x != y))
  | .lss, _, x, y => some (.bool (decide (x < y)))
  | .leq, _, x, y => some (.bool (decide (x ≤ y)))
  | .gtr, _, x, y => some (.bool (decide (x > y)))
  | .geq, _, x, y => some (.bool (decide (x ≥ y)))
  | .and, k, x, y => some (.int k (bits .and k x y))
  | .or, k, x, y => some (.int k (bits .or k x y))
  | .xor, k, x, y => some (.int k (bits .xor k x y))
  | _, _, _, _ => none

theorem run_intBin {op : BinOp} {T T2 : TypeId} {x y : Operand} {k : IntKind} {a b : Int} {v : Value} (h : intBin op k a b = some v) {ρ : Operand → Value} (hx : ρ x = .int k a) (hy : ρ y = .int k b) (w : World) :
    (execOp ρ ⟨some d, .binOp op T x y T2, ty, pos, af, g⟩).run P w = .ok (.value v) w := by
  refine run_v ?_
  rw [hx, hy]
  cases op <;> simp only [intBin, Option.some.injEq, reduceCtorEq] at h <;> subst h <;>
    simp [eqGuard, binOp, Op.intArith, Op.intCmp, intBits_and, intBits_or, intBits_xor]

theorem TL.bin {op : BinOp} {T T2 : TypeId} {x y : Operand} (k : IntKind) (a b : Int) {v : Value} (hg : gd ops Γ ⟨some d, .binOp op T x y T2, ty, pos, af, g⟩ = some true) (hn : Nat.blt d n = true)
    (hx : ev Γ x = some (.int k a)) (hy : ev Γ y = some (.int k b)) (hv : intBin op k a b = some v)
    (kk : TL P w0 n I ((d, v) :: Γ) L ops os cs m D) : TL P w0 n I Γ L ops (⟨some d, .binOp op T x y T2, ty, pos, af, g⟩ :: os) cs m D :=
  .val hg rfl (by simpa using hn) (fun _ w hF _ => run_intBin hv (hF.eval hx) (hF.eval hy) w) kk

/-- A division is asked for its divisor. -/
def nz {α : Type} (y : Int) (k : Option α) : Option α := if y = 0 then none else k
theorem run_rem {T T2 : TypeId} {x y : Operand} {k : IntKind} {a b : Int} {ρ : Operand → Value} (hx : ρ x = .int k a) (hy : ρ y = .int k b) (hb : b ≠ 0) (w : World) :
    (execOp ρ ⟨some d, .binOp .rem T x y T2, ty, pos, af, g⟩).run P w = .ok (.value (.int k (a.tmod b))) w := by
  refine run_v ?_
  rw [hx, hy]
  simp [eqGuard, binOp, Op.intDiv, hb]
theorem run_quo {T T2 : TypeId} {x y : Operand} {k : IntKind} {a b : Int} {ρ : Operand → Value} (hx : ρ x = .int k a) (hy : ρ y = .int k b) (hb : b ≠ 0) (w : World) :
    (execOp ρ ⟨some d, .binOp .quo T x y T2, ty, pos, af, g⟩).run P w = .ok (.value (.int k (k.wrap (a.tdiv b)))) w := by
  refine run_v ?_
  rw [hx, hy]
  simp [eqGuard, binOp, Op.intDiv, hb]
theorem TL.rem {T T2 : TypeId} {x y : Operand} (k : IntKind) (a b : Int) (hb : b ≠ 0) (hg : gd ops Γ ⟨some d, .binOp .rem T x y T2, ty, pos, af, g⟩ = some true) (hn : Nat.blt d n = true)
    (hx : ev Γ x = some (.int k a)) (hy : ev Γ y = some (.int k b))
    (kk : TL P w0 n I ((d, .int k (a.tmod b)) :: Γ) L ops os cs m D) : TL P w0 n I Γ L ops (⟨some d, .binOp .rem T x y T2, ty, pos, af, g⟩ :: os) cs m D :=
  TL.val hg rfl (by simpa using hn) (fun _ w hF _ => run_rem (hF.eval hx) (hF.eval hy) hb w) kk
theorem TL.quo {T T2 : TypeId} {x y : Operand} (k : IntKind) (a b : Int) (hb : b ≠ 0) (hg : gd ops Γ ⟨some d, .binOp .quo T x y T2, ty, pos, af, g⟩ = some true) (hn : Nat.blt d n = true)
    (hx : ev Γ x = some (.int k a)) (hy : ev Γ y = some (.int k b))
    (kk : TL P w0 n I ((d, .int k (k.wrap (a.tdiv b))) :: Γ) L ops os cs m D) : TL P w0 n I Γ L ops (⟨some d, .binOp .quo T x y T2, ty, pos, af, g⟩ :: os) cs m D :=
  TL.val hg rfl (by simpa using hn) (fun _ w hF _ => run_quo (hF.eval hx) (hF.eval hy) hb w) kk
theorem TL.nz {b : Int} (kk : b ≠ 0 → TL P w0 n I Γ L ops os cs m D) : TL P w0 n I Γ L ops os cs (Sx.nz b m) D := by
  intro a w hF hS r hr
  unfold Sx.nz at hr
  split at hr
  · cases hr
  · rename_i hb
    exact kk hb a w hF hS r hr
/-- An index is asked for its bounds. -/
def chk {α : Type} (i : Int) (len : Nat) (k : Option α) : Option α := if 0 ≤ i ∧ i < len then k else none
theorem TL.chk {i : Int} {len : Nat} (kk : 0 ≤ i ∧ i < len → TL P w0 n I Γ L ops os cs m D) : TL P w0 n I Γ L ops os cs (Sx.chk i len m) D := by
  intro a w hF hS r hr
  unfold Sx.chk at hr
  split at hr
  · rename_i hb
    exact kk hb a w hF hS r hr
  · cases hr
/-- What may be asked for. -/
def grd {α : Type} (c : Bool) (k : Option α) : Option α := bif c then k else none
theorem TL.grd {c : Bool} (kk : c = true → TL P w0 n I Γ L ops os cs m D) : TL P w0 n I Γ L ops os cs (Sx.grd c m) D := by
  intro a w hF hS r hr
  cases c with
  | true => exact kk rfl a w hF hS r hr
  | false => cases hr

theorem TL.not {T : TypeId} {x : Operand} (b : Bool) (hg : gd ops Γ ⟨some d, .unOp .not T x, ty, pos, af, g⟩ = some true) (hn : Nat.blt d n = true) (hx : ev Γ x = some (.bool b))
    (k : TL P w0 n I ((d, .bool (!b)) :: Γ) L ops os cs m D) : TL P w0 n I Γ L ops (⟨some d, .unOp .not T x, ty, pos, af, g⟩ :: os) cs m D :=
  .val hg rfl (by simpa using hn) (fun a w hF _ => run_v (by rw [hF.eval hx]; rfl)) k
theorem TL.neg {T : TypeId} {x : Operand} (kd : IntKind) (i : Int) (hg : gd ops Γ ⟨some d, .unOp .neg T x, ty, pos, af, g⟩ = some true) (hn : Nat.blt d n = true) (hx : ev Γ x = some (.int kd i))
    (k : TL P w0 n I ((d, .int kd (kd.wrap (0 - i))) :: Γ) L ops os cs m D) : TL P w0 n I Γ L ops (⟨some d, .unOp .neg T x, ty, pos, af, g⟩ :: os) cs m D :=
  .val hg rfl (by simpa using hn) (fun a w hF _ => run_v (by rw [hF.eval hx]; rfl)) k

theorem TL.conv {S T : TypeId} {x : Operand} (k k' : IntKind) (i : Int) (ds : TypeDesc) (hg : gd ops Γ ⟨some d, .convert S T x, ty, pos, af, g⟩ = some true) (hn : Nat.blt d n = true) (hx : ev Γ x = some (.int k i))
    (hS : P.underlying S = some ds) (hT : P.underlying T = some (.int k')) {v : Value} (hv : Value.int k' (k'.wrap i) = v)
    (kk : TL P w0 n I ((d, v) :: Γ) L ops os cs m D) : TL P w0 n I Γ L ops (⟨some d, .convert S T x, ty, pos, af, g⟩ :: os) cs m D := by
  subst hv
  exact .val hg rfl (by simpa using hn) (fun a w hF _ => run_v (by rw [hF.eval hx]; simp [convert, run_underlying hS, run_underlying hT, Conv.intToInt])) kk
theorem conv_u8_i64 (x : UInt8) : Value.int .i64 (IntKind.i64.wrap (x.toNat : Int)) = .int .i64 (x.toNat : Int) := by
  have h := x.toNat_lt
  rw [IntWalk.i64_in _ (by omega)]
theorem conv_i64_u8 (i : Int) : Value.int .u8 (IntKind.u8.wrap i) = u8v (UInt8.ofInt i) := by
  unfold u8v
  congr 1
  have h : IntKind.u8.wrap i = i % 256 := rfl
  have h2 : (UInt8.ofInt i).toNat = (i % 256).toNat % 256 := rfl
  rw [h, h2]
  omega
end
end Go.Sx
