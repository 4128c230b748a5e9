/- Sy1: the calculus: slots, memory, loops, calls, slices. -/
import Derived.Tactics
import Derived.Below
import Derived.Laws.Rows
import Derived.Laws.OwnMore
import Derived.WalkKit
import Derived.Laws.Append
import Derived.Laws.AppendOwn
import Derived.Laws.Entries
import Derived.Laws.MakeOwn
import Derived.Laws.Concat
import Derived.Laws.Slices
namespace Go.Sx
open Go.RowKit
abbrev Gm := List (Nat × Value)
def lk : Gm → Nat → Option Value
  | [], _ => none
  | (k, v) :: r, t => bif Nat.beq k t then some v else lk r t
def ev (Γ : Gm) : Operand → Option Value
  | .tmp t => lk Γ t
  | .const v => some v
  | .global g => some (.pointer (some ⟨g, 0, none⟩))
  | .func f => some (.func (.func f) #[] #[])
def evs (Γ : Gm) : List Operand → Option (List Value)
  | [] => some []
  | x :: xs => match ev Γ x, evs Γ xs with
    | some v, some vs => some (v :: vs)
    | _, _ => none
structure Fr (n : Nat) (Γ : Gm) (a : Act) : Prop where
  size : a.tmps.size = n
  nod : a.defers = []
  has : ∀ t v, lk Γ t = some v → a.tmps[t]? = some v
theorem Fr.eval {n Γ a x v} (h : Fr n Γ a) (hx : ev Γ x = some v) : a.eval x = v := by
 cases x with
 | tmp t =>
  have h1 := h.has t v hx
  show a.tmps.getD t undef = v
  simp [h1]
 | const c => exact Option.some.inj hx
 | global g => exact Option.some.inj hx
 | func f => exact Option.some.inj hx
theorem Fr.evals {n Γ a} (h : Fr n Γ a) : ∀ {xs vs}, evs Γ xs = some vs → xs.map a.eval = vs
 | [], vs, hx => by simpa [evs] using hx
 | x :: xs, vs, hx => by
  unfold evs at hx
  split at hx
  ·rename_i v vs' h1 h2
   obtain rfl := Option.some.inj hx
   simp [h.eval h1, Fr.evals h h2]
  cases hx
theorem Fr.put {n Γ a d v} (h : Fr n Γ a) (hd : d < n) : Fr n ((d, v) :: Γ) (a.put (some d) v) := by
 refine ⟨by simp [Act.put, h.size], h.nod, ?_⟩
 intro t u hu
 simp only [lk] at hu
 cases hb : Nat.beq d t with
 | true =>
  rw [hb] at hu
  obtain rfl := Nat.eq_of_beq_eq_true hb
  obtain rfl := Option.some.inj hu
  simp [Act.put, h.size, hd]
 | false =>
  rw [hb] at hu
  have hne : d ≠ t := fun e => by subst e; simp at hb
  have := h.has t u hu
  simp [Act.put, hne, this]
def Sub (Γ : Gm) : Gm → Prop
  | [] => True
  | (t, v) :: r => lk Γ t = some v ∧ Sub Γ r
theorem Fr.sub {n Γ Γ' a} (h : Fr n Γ a) (hs : Sub Γ Γ') : Fr n Γ' a := by
 refine ⟨h.size, h.nod, ?_⟩
 induction Γ' with
 | nil => intro t v ht; cases ht
 | cons p r ih =>
  obtain ⟨k, u⟩ := p
  intro t v ht
  simp only [lk] at ht
  cases hb : Nat.beq k t with
  | true =>
   rw [hb] at ht
   obtain rfl := Nat.eq_of_beq_eq_true hb
   obtain rfl := Option.some.inj ht
   exact h.has _ _ hs.1
  | false => rw [hb] at ht; exact ih hs.2 t v ht
abbrev Hp := Nat → Option Obj
def hp (w : World) : Hp := fun b => w.heap[b]?
def Hle (I J : Hp) : Prop := ∀ b o, I b = some o → J b = some o
theorem Hle.refl (I : Hp) : Hle I I := fun _ _ h => h
theorem Hle.trans {I J K : Hp} (h : Hle I J) (k : Hle J K) : Hle I K := fun b o x => k b o (h b o x)
abbrev Frag := List (Nat × Obj)
abbrev Asn := Frag → Prop
def Sat : List Asn → Frag → Prop
  | [], ρ => ρ = []
  | A :: L, ρ => ∃ ρ1 ρ2, ρ = ρ1 ++ ρ2 ∧ A ρ1 ∧ Sat L ρ2
structure Own (I : Hp) (w : World) (ρ : Frag) : Prop where
  nodup : (ρ.map (·.1)).Nodup
  here : ∀ p ∈ ρ, I p.1 = none ∧ w.heap[p.1]? = some p.2
structure St (w0 : World) (I : Hp) (L : List Asn) (w : World) : Prop where
  below : Below w0.heap.size w0 w
  i0 : Hle (hp w0) I
  iw : Hle I (hp w)
  own : ∃ ρ, Sat L ρ ∧ Own I w ρ
theorem Sat.append {L L' : List Asn} : ∀ {ρ ρ'}, Sat L ρ → Sat L' ρ' → Sat (L ++ L') (ρ ++ ρ') := by
 induction L with
 | nil => intro ρ ρ' h h'; simp only [Sat] at h; subst h; simpa using h'
 | cons A L ih =>
  rintro ρ ρ' ⟨ρ1, ρ2, rfl, h1, h2⟩ h'
  exact ⟨ρ1, ρ2 ++ ρ', by simp, h1, ih h2 h'⟩
theorem Sat.focus {L : List Asn} : ∀ {i : Nat} {A : Asn} {ρ}, Sat L ρ → L[i]? = some A →
  ∃ ρ1 ρA ρ2, ρ = ρ1 ++ ρA ++ ρ2 ∧ A ρA ∧ (∀ A' ρA', A' ρA' → Sat (L.set i A') (ρ1 ++ ρA' ++ ρ2)) ∧ Sat (L.eraseIdx i) (ρ1 ++ ρ2) := by
 induction L with
 | nil => intro i A ρ _ h; simp at h
 | cons B L ih =>
  rintro i A ρ ⟨ρ1, ρ2, rfl, h1, h2⟩ hi
  cases i with
  | zero =>
   simp at hi; subst hi
   exact ⟨[], ρ1, ρ2, by simp, h1, fun A' ρA' h => ⟨ρA', ρ2, by simp, h, h2⟩, by simpa using h2⟩
  | succ i =>
   obtain ⟨σ1, σA, σ2, rfl, hA, hset, her⟩ := ih h2 (by simpa using hi)
   refine ⟨ρ1 ++ σ1, σA, σ2, by simp, hA, fun A' ρA' h => ⟨ρ1, σ1 ++ ρA' ++ σ2, by simp, h1, hset A' ρA' h⟩, ?_⟩
   simp only [List.eraseIdx_cons_succ, List.append_assoc]
   exact ⟨ρ1, σ1 ++ σ2, rfl, h1, her⟩
theorem St.mono {w0 I J L w} (h : St w0 J L w) (hIJ : Hle I J) (h0 : Hle (hp w0) I) : St w0 I L w := by
 obtain ⟨ρ, hs, ho⟩ := h.own
 refine ⟨h.below, h0, hIJ.trans h.iw, ρ, hs, ho.nodup, fun p hp' => ⟨?_, (ho.here p hp').2⟩⟩
 cases hc : I p.1 with
 | none => rfl
 | some o => have := hIJ _ _ hc; rw [(ho.here p hp').1] at this; cases this
theorem St.start (w : World) : St w (hp w) [] w := ⟨.refl _ _, .refl _, .refl _, [], rfl, by simp, by simp⟩
theorem own_lt {I w ρ} (h : Own I w ρ) {p} (hp' : p ∈ ρ) : p.1 < w.heap.size := by
 have := (h.here p hp').2
 exact (Array.getElem?_eq_some_iff.1 this).1
theorem St.call {w0 I L w w' L'} (h : St w0 I L w) (h' : St w (hp w) L' w') : St w0 I (L' ++ L) w' := by
 obtain ⟨ρ, hs, ho⟩ := h.own
 obtain ⟨ρ', hs', ho'⟩ := h'.own
 have keep : ∀ b o, w.heap[b]? = some o → w'.heap[b]? = some o := fun b o hb => h'.iw b o hb
 refine ⟨h.below.trans (h'.below.mono h.below.size), h.i0, h.iw.trans h'.iw, ρ' ++ ρ, hs'.append hs, ?_, ?_⟩
 ·rw [List.map_append, List.nodup_append]
  refine ⟨ho'.nodup, ho.nodup, ?_⟩
  rintro a ha b hb rfl
  obtain ⟨p, hp1, rfl⟩ := List.mem_map.1 ha
  obtain ⟨q, hq1, hq2⟩ := List.mem_map.1 hb
  have h1 := (ho'.here p hp1).1
  have h2 := (ho.here q hq1).2
  rw [hq2] at h2
  simp only [hp] at h1
  rw [h1] at h2; cases h2
 intro p hp'
 rcases List.mem_append.1 hp' with hm | hm
 ·refine ⟨?_, (ho'.here p hm).2⟩
  cases hc : I p.1 with
  | none => rfl
  | some o =>
   have := h.iw _ _ hc
   have h1 := (ho'.here p hm).1
   rw [this] at h1; cases h1
 exact ⟨(ho.here p hm).1, keep _ _ (ho.here p hm).2⟩
theorem hp_alloc (w : World) (o : Obj) : Hle (hp w) (hp (w.alloc o)) := fun b x h => by
 have hlt := (Array.getElem?_eq_some_iff.1 h).1
 show (w.heap.push o)[b]? = some x
 rw [Array.getElem?_push, if_neg (by omega)]; exact h
theorem St.alloc {w0 I L w} (h : St w0 I L w) (o : Obj) : St w0 I ((fun ρ => ρ = [(w.heap.size, o)]) :: L) (w.alloc o) := by
 obtain ⟨ρ, hs, ho⟩ := h.own
 refine ⟨h.below.alloc h.below.size o, h.i0, h.iw.trans (hp_alloc w o), (w.heap.size, o) :: ρ, ⟨[(w.heap.size, o)], ρ, rfl, rfl, hs⟩, ?_, ?_⟩
 ·simp only [List.map_cons, List.nodup_cons]
  refine ⟨fun hm => ?_, ho.nodup⟩
  obtain ⟨q, hq1, hq2⟩ := List.mem_map.1 hm
  have := own_lt ho hq1
  omega
 intro p hp'
 rcases List.mem_cons.1 hp' with rfl | hm
 ·refine ⟨?_, by show (w.heap.push o)[w.heap.size]? = _; simp⟩
  cases hc : I w.heap.size with
  | none => rfl
  | some x => have := h.iw _ _ hc; simp [hp] at this
 exact ⟨(ho.here p hm).1, hp_alloc w o _ _ (ho.here p hm).2⟩
theorem St.drew {w0 I L w} (h : St w0 I L w) : St w0 I L w.drew := by
 obtain ⟨ρ, hs, ho⟩ := h.own
 exact ⟨h.below.drew, h.i0, h.iw, ρ, hs, ho.nodup, ho.here⟩
theorem St.turn {w0 I L w w'} {i : Nat} {A : Asn} (h : St w0 I L w) (hi : L[i]? = some A) {A' : Asn}
  (ht : ∀ ρA, A ρA → (∀ p ∈ ρA, w.heap[p.1]? = some p.2) → ∃ ρA', A' ρA' ∧ ρA'.map (·.1) = ρA.map (·.1) ∧ (∀ p ∈ ρA', w'.heap[p.1]? = some p.2) ∧
   (∀ b, b ∉ ρA.map (·.1) → w'.heap[b]? = w.heap[b]?))
  (hos : w'.os = w.os) (htape : w'.tape = w.tape) (hout : w'.output = w.output) (hsz : w.heap.size ≤ w'.heap.size) : St w0 I (L.set i A') w' := by
 obtain ⟨ρ, hs, ho⟩ := h.own
 obtain ⟨ρ1, ρA, ρ2, rfl, hA, hset, _⟩ := hs.focus hi
 obtain ⟨ρA', hA', hk, hh, hrest⟩ := ht ρA hA (fun p hp' => (ho.here p (by simp [hp'])).2)
 have hI : ∀ b o, I b = some o → b ∉ ρA.map (·.1) := by
  intro b o hb hm
  obtain ⟨q, hq1, hq2⟩ := List.mem_map.1 hm
  have := (ho.here q (by simp [hq1])).1
  rw [hq2, hb] at this; cases this
 refine ⟨⟨hos.trans h.below.os, htape.trans h.below.tape, hout.trans h.below.output, Nat.le_trans h.below.size hsz, ?_⟩, h.i0, ?_, _, hset A' ρA' hA', ?_, ?_⟩
 ·intro k hk'
  rw [← h.below.block k hk']
  refine hrest k ?_
  have : w0.heap[k]? = some (w0.heap[k]) := by simp [hk']
  exact hI k _ (h.i0 k _ this)
 ·intro b o hb
  show w'.heap[b]? = some o
  rw [hrest b (hI b o hb)]
  exact h.iw b o hb
 ·have := ho.nodup
  simp only [List.map_append, hk] at this ⊢
  exact this
 intro p hp'
 simp only [List.append_assoc, List.mem_append] at hp'
 have hnd := ho.nodup
 simp only [List.map_append, List.append_assoc] at hnd
 rw [List.nodup_append] at hnd
 obtain ⟨_, hnd2, hd1⟩ := hnd
 rw [List.nodup_append] at hnd2
 obtain ⟨_, _, hd2⟩ := hnd2
 rcases hp' with hm | hm | hm
 ·have hx := ho.here p (by simp [hm])
  refine ⟨hx.1, ?_⟩
  rw [hrest p.1 (fun hc => hd1 p.1 (List.mem_map_of_mem hm) p.1 (List.mem_append.2 (.inl hc)) rfl)]
  exact hx.2
 ·refine ⟨?_, hh p hm⟩
  have : p.1 ∈ ρA'.map (·.1) := List.mem_map_of_mem hm
  rw [hk] at this
  obtain ⟨q, hq1, hq2⟩ := List.mem_map.1 this
  have := (ho.here q (by simp [hq1])).1
  rw [hq2] at this; exact this
 have hx := ho.here p (by simp [hm])
 refine ⟨hx.1, ?_⟩
 rw [hrest p.1 (fun hc => hd2 p.1 hc p.1 (List.mem_map_of_mem hm) rfl)]
 exact hx.2
theorem St.get {w0 I L w} {i : Nat} {A : Asn} (h : St w0 I L w) (hi : L[i]? = some A) : ∃ ρA, A ρA ∧ (∀ p ∈ ρA, w.heap[p.1]? = some p.2) := by
 obtain ⟨ρ, hs, ho⟩ := h.own
 obtain ⟨ρ1, ρA, ρ2, rfl, hA, _, _⟩ := hs.focus hi
 exact ⟨ρA, hA, fun p hp' => (ho.here p (by simp [hp'])).2⟩
theorem St.drop {w0 I L w} {i : Nat} {A : Asn} (h : St w0 I L w) (hi : L[i]? = some A) : St w0 I (L.eraseIdx i) w := by
 obtain ⟨ρ, hs, ho⟩ := h.own
 obtain ⟨ρ1, ρA, ρ2, rfl, hA, _, he⟩ := hs.focus hi
 refine ⟨h.below, h.i0, h.iw, _, he, ?_, fun p hp' => ho.here p ?_⟩
 ·refine ho.nodup.sublist ?_
  simp only [List.map_append, List.append_assoc]
  exact List.Sublist.append_left (List.sublist_append_right _ _) _
 simp only [List.mem_append] at hp' ⊢
 rcases hp' with hm | hm
 ·exact .inl (.inl hm)
 exact .inr hm
def seqs (P : Program) : List Code → (Exit → Act → World → Prop) → Exit → Act → World → Prop
  | [], Q => Q
  | c :: cs, Q => Exit.then (c.wp P (seqs P cs Q)) Q
theorem seqs_exit {P cs Q e a w} (he : e ≠ .normal) (h : Q e a w) : seqs P cs Q e a w := by
 cases cs with
 | nil => exact h
 | cons c cs => cases e <;> first | exact absurd rfl he | exact h
def TC (P : Program) (w0 : World) (n : Nat) (I : Hp) (Γ : Gm) (L : List Asn) (cs : List Code) {α : Type} (m : Option α) (D : α → Exit → Act → World → Prop) : Prop :=
  ∀ a w, Fr n Γ a → St w0 I L w → ∀ o, m = some o → seqs P cs (D o) .normal a w
def TL (P : Program) (w0 : World) (n : Nat) (I : Hp) (Γ : Gm) (L : List Asn) (ops : Array Oper) (os : List Oper) (cs : List Code) {α : Type} (m : Option α) (D : α → Exit → Act → World → Prop) : Prop :=
  ∀ a w, Fr n Γ a → St w0 I L w → ∀ o, m = some o → wpList P ops (seqs P cs (D o)) os a w
section
variable {P : Program} {w0 : World} {n : Nat} {I : Hp} {Γ : Gm} {L : List Asn} {cs : List Code} {α : Type} {m : Option α} {D : α → Exit → Act → World → Prop} {ops : Array Oper} {os : List Oper}
theorem TC.wk {Γ'} (hs : Sub Γ Γ') (k : TC P w0 n I Γ' L cs m D) : TC P w0 n I Γ L cs m D :=
 fun a w hF hS o ho => k a w (hF.sub hs) hS o ho
theorem TL.wk {Γ'} (hs : Sub Γ Γ') (k : TL P w0 n I Γ' L ops os cs m D) : TL P w0 n I Γ L ops os cs m D :=
 fun a w hF hS o ho => k a w (hF.sub hs) hS o ho
theorem TC.drop (i : Nat) {A} (hi : L[i]? = some A) (k : TC P w0 n I Γ (L.eraseIdx i) cs m D) : TC P w0 n I Γ L cs m D :=
 fun a w hF hS o ho => k a w hF (hS.drop hi) o ho
theorem TL.drop (i : Nat) {A} (hi : L[i]? = some A) (k : TL P w0 n I Γ (L.eraseIdx i) ops os cs m D) : TL P w0 n I Γ L ops os cs m D :=
 fun a w hF hS o ho => k a w hF (hS.drop hi) o ho
theorem TC.seq {x y : Code} (k : TC P w0 n I Γ L (x :: y :: cs) m D) : TC P w0 n I Γ L (.seq x y :: cs) m D := by
 intro a w hF hS o ho
 have := k a w hF hS o ho
 refine wp_seq (wp_mono this ?_)
 intro e a' w' h
 cases e <;> first | exact h | exact seqs_exit (by simp) h
theorem TC.skip (k : TC P w0 n I Γ L cs m D) : TC P w0 n I Γ L (.skip :: cs) m D :=
 fun a w hF hS o ho => wp_skip (k a w hF hS o ho)
theorem TC.region {id : Nat} {ops : Array Oper} (k : TL P w0 n I Γ L ops ops.toList cs m D) : TC P w0 n I Γ L (.region id ops false :: cs) m D :=
 fun a w hF hS o ho => wp_region_list (k a w hF hS o ho)
theorem TL.done (k : TC P w0 n I Γ L cs m D) : TL P w0 n I Γ L ops [] cs m D :=
 fun a w hF hS o ho => wpList_nil (k a w hF hS o ho)
theorem TC.cond {c : Operand} {x y : Code} {b : Bool} {m1 m2 : Option α} (hc : ev Γ c = some (.bool b))
  (k1 : b = true → TC P w0 n I Γ L (x :: cs) m1 D) (k2 : b = false → TC P w0 n I Γ L (y :: cs) m2 D) :
  TC P w0 n I Γ L (.cond c x y :: cs) (bif b then m1 else m2) D := by
 intro a w hF hS o ho
 refine wp_cond_split (hF.eval hc) ?_ ?_
 ·intro hb; subst hb; exact k1 rfl a w hF hS o ho
 intro hb; subst hb; exact k2 rfl a w hF hS o ho
theorem TC.cond_true {c : Operand} {x y : Code} (hc : ev Γ c = some (.bool true)) (k : TC P w0 n I Γ L (x :: cs) m D) : TC P w0 n I Γ L (.cond c x y :: cs) m D :=
 fun a w hF hS o ho => wp_cond_true (hF.eval hc) (k a w hF hS o ho)
theorem TC.cond_false {c : Operand} {x y : Code} (hc : ev Γ c = some (.bool false)) (k : TC P w0 n I Γ L (y :: cs) m D) : TC P w0 n I Γ L (.cond c x y :: cs) m D :=
 fun a w hF hS o ho => wp_cond_false (hF.eval hc) (k a w hF hS o ho)
theorem TC.ret {Q : α → Exit → Act → World → Prop} (h : ∀ a w, Fr n Γ a → St w0 I L w → ∀ o, m = some o → Q o .ret a w) : TC P w0 n I Γ L (.ret :: cs) m Q :=
 fun a w hF hS o ho => wp_ret (seqs_exit (by simp) (h a w hF hS o ho))
theorem TC.exit {id : Nat} {Q : α → Exit → Act → World → Prop} (h : ∀ a w, Fr n Γ a → St w0 I L w → ∀ o, m = some o → Q o (.exit id) a w) : TC P w0 n I Γ L (.exit id :: cs) m Q :=
 fun a w hF hS o ho => wp_exit (seqs_exit (by simp) (h a w hF hS o ho))
theorem TC.nil {Q : α → Exit → Act → World → Prop} (h : ∀ a w, Fr n Γ a → St w0 I L w → ∀ o, m = some o → Q o .normal a w) : TC P w0 n I Γ L [] m Q := h
theorem TC.bind {β : Type} {c : Code} {m1 : Option β} {k : β → Option α} {D1 : β → Exit → Act → World → Prop}
  (h1 : TC P w0 n I Γ L [c] m1 D1)
  (h2 : ∀ o1 e a w, D1 o1 e a w → ∀ o, k o1 = some o → seqs P cs (D o) e a w) :
  TC P w0 n I Γ L (c :: cs) (m1.bind k) D := by
 intro a w hF hS o ho
 obtain ⟨o1, ho1, ho2⟩ := Option.bind_eq_some_iff.1 ho
 exact wp_mono (h1 a w hF hS o1 ho1) (fun e a w h => h2 o1 e a w h o ho2)
def Po (w0 : World) (n : Nat) (ex : Exit) (I : Hp) (Γ : Gm) (L : List Asn) (e : Exit) (a : Act) (w : World) : Prop :=
  e = ex ∧ Fr n Γ a ∧ St w0 I L w
theorem Po.go {ex : Exit} (k : TC P w0 n I Γ L cs m D) (hex : ex = .normal) {e a w} (h : Po w0 n ex I Γ L e a w) : ∀ o, m = some o → seqs P cs (D o) e a w := by
 obtain ⟨rfl, hF, hS⟩ := h
 subst hex
 exact fun o ho => k a w hF hS o ho
end
inductive LR (σ ρ : Type) where
  | next (s : σ)
  | brk (s : σ)
  | ret (r : ρ)
inductive LO (σ ρ : Type) where
  | brk (s : σ)
  | ret (r : ρ)
def FUEL : Nat := 9223372036854775808
def loopN {σ ρ : Type} (f : σ → Option (LR σ ρ)) : Nat → σ → Option (LO σ ρ)
  | 0, _ => none
  | k + 1, s => match f s with
    | none => none
    | some (.next s') => loopN f k s'
    | some (.brk s') => some (.brk s')
    | some (.ret r) => some (.ret r)
def loop {σ ρ : Type} (f : σ → Option (LR σ ρ)) (s : σ) : Option (LO σ ρ) := loopN f FUEL s
theorem wp_loop_k {P : Program} {Q : Exit → Act → World → Prop} {c : Code} (J : Nat → Act → World → Prop) (zero : ∀ a w, ¬ J 0 a w)
  (round : ∀ k a w, J (k + 1) a w → c.wp P (Exit.then (J k) Q) a w) {k : Nat} {a : Act} {w : World} (h : J k a w) : (Code.loop c).wp P Q a w := by
 intro b ks cs
 have key : ∀ k a w, J k a w → ∃ e a' w', Q e a' w' ∧ Arrives P (lone (b.at a (.code c :: .inLoop c :: ks)) cs w) b ks cs e a' w' := by
  intro k
  induction k with
  | zero => intro a w h; exact absurd h (zero a w)
  | succ k ih =>
   intro a w hJ
   obtain ⟨e, a₁, w₁, hq, harr⟩ := round k a w hJ b (.inLoop c :: ks) cs
   cases e with
   | normal =>
    obtain ⟨e₂, a₂, w₂, hq₂, harr₂⟩ := ih a₁ w₁ hq
    exact ⟨e₂, a₂, w₂, hq₂, .of_steps (Steps.trans harr (.one step_inLoop)) harr₂⟩
   | exit id => exact ⟨_, a₁, w₁, hq, .pass (x := .inLoop c) rfl (fun _ _ => .inl (by simp)) harr⟩
   | goto l => exact ⟨_, a₁, w₁, hq, .pass (x := .inLoop c) rfl (fun _ _ => .inl (by simp)) harr⟩
   | ret => exact ⟨_, a₁, w₁, hq, .pass (x := .inLoop c) rfl (fun _ _ => .inl (by simp)) harr⟩
   | panic ch => exact ⟨_, a₁, w₁, hq, .pass (x := .inLoop c) rfl (fun _ _ => .inl (by simp)) harr⟩
   | outgrown => exact ⟨_, a₁, w₁, hq, .pass (x := .inLoop c) rfl (fun _ _ => .inl (by simp)) harr⟩
 obtain ⟨e, a', w', hq, harr⟩ := key k a w h
 exact ⟨e, a', w', hq, .of_steps (.one step_loop) harr⟩
section
variable {P : Program} {w0 : World} {n : Nat} {σ ρ γ : Type}
theorem TC.loop {id : Nat} {body : Code} {I : Hp} {f : σ → Option (LR σ ρ)} {Γ : σ → γ → Gm} {L : σ → γ → List Asn} {Γb : σ → γ → Gm} {Lb : σ → γ → List Asn} {R : ρ → Exit → Act → World → Prop}
  (hR : ∀ r e a w, R r e a w → e = .ret ∨ (∃ j, e = .exit j ∧ j ≠ id))
  (hb : ∀ s g, TC P w0 n I (Γ s g) (L s g) [body] (f s) fun
   | .next s' => fun e a w => ∃ g', Po w0 n .normal I (Γ s' g') (L s' g') e a w
   | .brk s' => fun e a w => ∃ g', Po w0 n (.exit id) I (Γb s' g') (Lb s' g') e a w
   | .ret r => R r) (s : σ) (g : γ) :
  TC P w0 n I (Γ s g) (L s g) [.block id (.loop body)] (Sx.loop f s) fun
   | .brk s' => fun e a w => ∃ g', Po w0 n .normal I (Γb s' g') (Lb s' g') e a w
   | .ret r => R r := by
 intro a w hF hS o ho
 unfold Sx.loop at ho
 show (Code.block id (.loop body)).wp P _ a w
 refine wp_block ?_
 refine wp_loop_k (fun k a w => ∃ s g, Fr n (Γ s g) a ∧ St w0 I (L s g) w ∧ loopN f k s = some o) ?_ ?_ ⟨s, g, hF, hS, ho⟩
 ·rintro a w ⟨s, g, _, _, h⟩; simp [loopN] at h
 rintro k a w ⟨s, g, hF, hS, hk⟩
 simp only [loopN] at hk
 cases hf : f s with
 | none => simp [hf] at hk
 | some x =>
  rw [hf] at hk
  have h1 := hb s g a w hF hS x hf
  refine wp_mono h1 ?_
  intro e a' w' h
  cases x with
  | next s' =>
   obtain ⟨g', rfl, hF', hS'⟩ := h
   exact ⟨s', g', hF', hS', hk⟩
  | brk s' =>
   obtain ⟨g', rfl, hF', hS'⟩ := h
   obtain rfl := Option.some.inj hk
   show Exit.inBlock id _ (.exit id) a' w'
   simp only [Exit.inBlock, if_true]
   exact ⟨g', rfl, hF', hS'⟩
  | ret r =>
   obtain rfl := Option.some.inj hk
   rcases hR r e a' w' h with rfl | ⟨j, rfl, hj⟩
   ·exact h
   show Exit.inBlock id _ (.exit j) a' w'
   simp only [Exit.inBlock, hj, if_false]
   exact h
end
end Go.Sx
namespace Go.Sx
open Go.RowKit
inductive Seg where
  | one (v : Value)
  | arr (n : Nat) (f : Nat → Value)
def Seg.len : Seg → Nat
  | .one _ => 1
  | .arr n _ => n
def Seg.cells : Seg → List Value
  | .one v => [v]
  | .arr n f => (List.range n).map f
def flat : List Seg → List Value
  | [] => []
  | s :: r => s.cells ++ flat r
def slen : List Seg → Nat
  | [] => 0
  | s :: r => s.len + slen r
def soff (segs : List Seg) (j : Nat) : Nat := slen (segs.take j)
def sval (segs : List Seg) : Value := .agg (flat segs).toArray
def bp (b off : Nat) : Value := .pointer (some ⟨b, off, none⟩)
def enf {β : Type} (e : β → Value) (t : Nat → β) : Nat → Value := fun i => e (t i)
def u8v (x : UInt8) : Value := .int .u8 x.toNat
abbrev Str := List UInt8
def strv (x : Str) : Value := .string ⟨x.toArray⟩
def i64v (x : Int) : Value := .int .i64 x
def blv (x : Bool) : Value := .bool x
def upd {β : Type} (t : Nat → β) (k : Nat) (x : β) : Nat → β := fun i => if i = k then x else t i
def updN {β : Type} (t : Nat → β) (k m : Nat) (g : Nat → β) : Nat → β := fun i => if k ≤ i ∧ i < k + m then g (i - k) else t i
def sub {β : Type} (t : Nat → β) (k : Nat) : Nat → β := fun i => t (k + i)
theorem Seg.length_cells (s : Seg) : s.cells.length = s.len := by cases s <;> simp [Seg.cells, Seg.len]
theorem flat_length (segs : List Seg) : (flat segs).length = slen segs := by
 induction segs with
 | nil => rfl
 | cons s r ih => simp [flat, slen, Seg.length_cells, ih]
theorem flat_append (a b : List Seg) : flat (a ++ b) = flat a ++ flat b := by
 induction a with
 | nil => rfl
 | cons s r ih => simp [flat, ih]
theorem flat_cut {segs : List Seg} {j : Nat} {s : Seg} (h : segs[j]? = some s) : flat segs = flat (segs.take j) ++ (s.cells ++ flat (segs.drop (j + 1))) := by
 have hj : j < segs.length := (List.getElem?_eq_some_iff.1 h).1
 have hs : segs[j] = s := (List.getElem?_eq_some_iff.1 h).2
 have : segs = segs.take j ++ (s :: segs.drop (j + 1)) := by
  rw [← hs, List.getElem_cons_drop, List.take_append_drop]
 conv => lhs; rw [this]
 rw [flat_append]; rfl
theorem flat_cut_set {segs : List Seg} {j : Nat} {s : Seg} (h : segs[j]? = some s) (s' : Seg) : flat (segs.set j s') = flat (segs.take j) ++ (s'.cells ++ flat (segs.drop (j + 1))) := by
 have hj : j < segs.length := (List.getElem?_eq_some_iff.1 h).1
 have h' : (segs.set j s')[j]? = some s' := by simp [hj]
 rw [flat_cut h', List.take_set, List.drop_set, if_pos (by omega)]
 congr 2
 rw [List.set_eq_of_length_le]; simp; omega
theorem soff_length (segs : List Seg) (j : Nat) : (flat (segs.take j)).length = soff segs j := flat_length _
theorem flat_get {segs : List Seg} {j : Nat} {s : Seg} (h : segs[j]? = some s) {k : Nat} (hk : k < s.len) : (flat segs)[soff segs j + k]? = s.cells[k]? := by
 rw [flat_cut h, List.getElem?_append_right (by rw [soff_length]; omega), soff_length, Nat.add_sub_cancel_left, List.getElem?_append_left (by rw [Seg.length_cells]; exact hk)]
theorem flat_get_one {segs : List Seg} {j : Nat} {v : Value} (h : segs[j]? = some (.one v)) : (flat segs)[soff segs j]? = some v := by
 have := flat_get h (k := 0) (by simp [Seg.len])
 simpa [Seg.cells] using this
theorem flat_get_arr {segs : List Seg} {j n : Nat} {f : Nat → Value} (h : segs[j]? = some (.arr n f)) {k : Nat} (hk : k < n) : (flat segs)[soff segs j + k]? = some (f k) := by
 rw [flat_get h (by exact hk)]
 simp [Seg.cells, hk]
theorem flat_mid (segs : List Seg) (j c : Nat) : ((flat segs).drop (soff segs j)).take (slen ((segs.drop j).take c)) = flat ((segs.drop j).take c) := by
 have h1 : flat segs = flat (segs.take j) ++ flat (segs.drop j) := by rw [← flat_append, List.take_append_drop]
 have h2 : flat (segs.drop j) = flat ((segs.drop j).take c) ++ flat ((segs.drop j).drop c) := by rw [← flat_append, List.take_append_drop]
 rw [h1, List.drop_append, ← soff_length, List.drop_length, Nat.sub_self, List.drop_zero, List.nil_append, h2, ← flat_length, List.take_left]
theorem set_mid {β : Type} (l1 l2 l3 : List β) (k : Nat) (v : β) (hk : k < l2.length) : (l1 ++ (l2 ++ l3)).set (l1.length + k) v = l1 ++ (l2.set k v ++ l3) := by
 rw [List.set_append_right _ _ (by omega), Nat.add_sub_cancel_left, List.set_append_left _ _ hk]
theorem splice_mid {β : Type} (l1 l2 l3 : List β) (k : Nat) (vs : List β) (hk : k + vs.length ≤ l2.length) :
  (l1 ++ (l2 ++ l3)).take (l1.length + k) ++ vs ++ (l1 ++ (l2 ++ l3)).drop (l1.length + k + vs.length) = l1 ++ ((l2.take k ++ vs ++ l2.drop (k + vs.length)) ++ l3) := by
 rw [List.take_append, List.take_of_length_le (by omega), Nat.add_sub_cancel_left, List.take_append_of_le_length (by omega), List.drop_append,
  List.drop_of_length_le (by omega), List.nil_append, show l1.length + k + vs.length - l1.length = k + vs.length by omega, List.drop_append_of_le_length hk]
 simp
theorem flat_set_one {segs : List Seg} {j : Nat} {u : Value} (h : segs[j]? = some (.one u)) (v : Value) : (flat segs).set (soff segs j) v = flat (segs.set j (.one v)) := by
 rw [flat_cut h, flat_cut_set h, ← soff_length]
 have := set_mid (flat (segs.take j)) (Seg.one u).cells (flat (segs.drop (j + 1))) 0 v (by simp [Seg.cells])
 simpa only [Seg.cells, List.set_cons_zero, Nat.add_zero] using this
theorem flat_set_arr {β : Type} {e : β → Value} {t : Nat → β} {segs : List Seg} {j n : Nat} (h : segs[j]? = some (.arr n (enf e t))) {k : Nat} (hk : k < n) (x : β) :
  (flat segs).set (soff segs j + k) (e x) = flat (segs.set j (.arr n (enf e (upd t k x)))) := by
 rw [flat_cut h, flat_cut_set h, ← soff_length, set_mid _ _ _ _ _ (by simpa [Seg.cells] using hk)]
 congr 2
 apply List.ext_getElem?
 intro i
 simp only [Seg.cells, List.getElem?_set, List.length_map, List.length_range, List.getElem?_map]
 by_cases hi : i < n
 ·by_cases hik : k = i
  ·subst hik; simp [hi, enf, upd]
  have : ¬ i = k := fun e => hik e.symm
  simp [hi, hik, this, enf, upd]
 by_cases hik : k = i
 ·omega
 simp [hi, hik]
theorem flat_splice_mid (segs news : List Seg) (j c : Nat) (hl : slen news = slen ((segs.drop j).take c)) :
  (flat segs).take (soff segs j) ++ flat news ++ (flat segs).drop (soff segs j + slen news) = flat (segs.take j ++ news ++ segs.drop (j + c)) := by
 have h1 : flat segs = flat (segs.take j) ++ (flat ((segs.drop j).take c) ++ flat (segs.drop (j + c))) := by
  rw [← flat_append, ← flat_append, ← List.drop_drop, List.take_append_drop, List.take_append_drop]
 have := splice_mid (flat (segs.take j)) (flat ((segs.drop j).take c)) (flat (segs.drop (j + c))) 0 (flat news) (by rw [flat_length, flat_length]; omega)
 rw [← h1, soff_length, flat_length, Nat.add_zero] at this
 rw [this, flat_append, flat_append]
 simp only [List.take_zero, List.nil_append, Nat.zero_add]
 rw [hl, ← flat_length, List.drop_length]
 simp
def ones (segs : List Seg) : Prop := ∀ v ∈ flat segs, v.oneCell' = true
theorem oneCell_sub {β : Type} {e : β → Value} (he : ∀ x, (e x).oneCell' = true) (m : Nat) (g : Nat → β) : ones [.arr m (enf e g)] := by
 intro v hv
 simp only [flat, Seg.cells, List.append_nil, List.mem_map] at hv
 obtain ⟨i, _, rfl⟩ := hv
 exact he _
theorem ones_nil : ones [] := by intro v hv; cases hv
theorem ones_one {v : Value} {r : List Seg} (h : v.oneCell' = true) (hr : ones r) : ones (.one v :: r) := by
 intro u hu
 simp only [flat, Seg.cells, List.singleton_append, List.mem_cons] at hu
 rcases hu with rfl | hu
 ·exact h
 exact hr u hu
theorem ones_arr {β : Type} {e : β → Value} (he : ∀ x, (e x).oneCell' = true) {m : Nat} {g : Nat → β} {r : List Seg} (hr : ones r) : ones (.arr m (enf e g) :: r) := by
 intro u hu
 simp only [flat, List.mem_append] at hu
 rcases hu with hu | hu
 ·exact oneCell_sub he m g u (by simpa [flat] using hu)
 exact hr u hu
def box (b : Nat) (T : TypeId) (segs : List Seg) : Asn := fun ρ => ρ = [(b, .cells (flat segs).toArray T (0, 0))]
def At (I : Hp) (b : Nat) (segs : List Seg) : Prop := ∃ T fr, I b = some (.cells (flat segs).toArray T fr)
def Src (w0 : World) (I : Hp) (L : List Asn) (b : Nat) (segs : List Seg) : Prop := ∀ w, St w0 I L w → At (hp w) b segs
theorem At.mono {I J b segs} (h : At I b segs) (hIJ : Hle I J) : At J b segs := by obtain ⟨T, fr, h⟩ := h; exact ⟨T, fr, hIJ _ _ h⟩
theorem Src.at {w0 I L b segs} (h : At I b segs) : Src w0 I L b segs := fun _ hS => h.mono hS.iw
theorem Src.box {w0 I L b T segs} (i : Nat) (hi : L[i]? = some (box b T segs)) : Src w0 I L b segs := by
 intro w hS
 obtain ⟨ρA, hA, hh⟩ := hS.get hi
 simp only [Sx.box] at hA; subst hA
 exact ⟨T, (0, 0), hh _ (List.mem_singleton.2 rfl)⟩
structure FE (α : Type) where
  sz : Nat
  enc : α → List Value
  len : ∀ x, (enc x).length = sz
  one : ∀ x, ∀ v ∈ enc x, v.oneCell' = true
def encs {α : Type} (E : FE α) (ys : List α) : List Value := ys.flatMap E.enc
theorem encs_length {α : Type} (E : FE α) (ys : List α) : (encs E ys).length = ys.length * E.sz := by
 induction ys with
 | nil => simp [encs]
 | cons y ys ih => simp only [encs, List.flatMap_cons, List.length_append, E.len, List.length_cons] at ih ⊢; rw [ih, Nat.add_mul]; omega
theorem encs_append {α : Type} (E : FE α) (xs ys : List α) : encs E (xs ++ ys) = encs E xs ++ encs E ys := by simp [encs]
theorem encs_one {α : Type} (E : FE α) (ys : List α) : ∀ v ∈ encs E ys, v.oneCell' = true := by
 intro v hv
 simp only [encs, List.mem_flatMap] at hv
 obtain ⟨x, _, hv⟩ := hv
 exact E.one x v hv
theorem encs_get {α : Type} (E : FE α) : ∀ (ys : List α) (i j : Nat) (y : α), ys[i]? = some y → j < E.sz → (encs E ys)[i * E.sz + j]? = (E.enc y)[j]?
 | [], i, j, y, h, _ => by simp at h
 | x :: ys, 0, j, y, h, hj => by
  simp at h; subst h
  simp only [encs, List.flatMap_cons, Nat.zero_mul, Nat.zero_add]
  rw [List.getElem?_append_left (by rw [E.len]; exact hj)]
 | x :: ys, i + 1, j, y, h, hj => by
  have ih := encs_get E ys i j y (by simpa using h) hj
  simp only [encs, List.flatMap_cons] at ih ⊢
  rw [List.getElem?_append_right (by rw [E.len, Nat.add_mul]; omega), E.len, ← ih]
  congr 1
  rw [Nat.add_mul]; omega
def Ei : FE Int := ⟨1, fun x => [.int .i64 x], fun _ => rfl, fun x v hv => by simp at hv; subst hv; rfl⟩
def Eu : FE UInt8 := ⟨1, fun x => [u8v x], fun _ => rfl, fun x v hv => by simp at hv; subst hv; rfl⟩
def Eb : FE Bool := ⟨1, fun x => [.bool x], fun _ => rfl, fun x v hv => by simp at hv; subst hv; rfl⟩
def Es : FE Str := ⟨1, fun x => [strv x], fun _ => rfl, fun x v hv => by simp at hv; subst hv; rfl⟩
structure SV where
  a : Option Addr
  n : Nat
  c : Nat
def SV.v (s : SV) : Value := .slice s.a s.n s.c
def Ev : FE SV := ⟨1, fun s => [s.v], fun _ => rfl, fun x v hv => by simp at hv; subst hv; rfl⟩
def Eii : FE (Int × Int) := ⟨2, fun x => [.int .i64 x.1, .int .i64 x.2], fun _ => rfl, fun x v hv => by simp at hv; rcases hv with rfl | rfl <;> rfl⟩
def Evec (n : Nat) : FE (Nat → UInt8) := ⟨n, fun t => flat [.arr n (enf u8v t)], fun _ => by simp [flat, Seg.cells], fun t => oneCell_sub (fun _ => rfl) n t⟩
def row {α : Type} (E : FE α) (T : TypeId) (s : SV) (ys : List α) : Asn := fun ρ =>
  (s = ⟨none, 0, 0⟩ ∧ ys = [] ∧ ρ = []) ∨
  ∃ g o cap cur, s = ⟨some ⟨g, o, none⟩, ys.length, cap⟩ ∧ ρ = [(g, .cells cur T (0, 0))] ∧ ys.length ≤ cap ∧ cap ≤ maxLen ∧ o + cap * E.sz ≤ cur.size ∧
    (cur.toList.drop o).take (ys.length * E.sz) = encs E ys
def Reads {α : Type} (E : FE α) (I : Hp) (s : SV) (ys : List α) : Prop :=
  s.n = ys.length ∧ s.n ≤ s.c ∧ s.c ≤ maxLen ∧
    (ys = [] ∨ ∃ b o cs T fr, s.a = some ⟨b, o, none⟩ ∧ I b = some (.cells cs T fr) ∧ ∀ j u, (encs E ys)[j]? = some u → cs[o + j]? = some u)
theorem Reads.mono {α : Type} {E : FE α} {I J s ys} (h : Reads E I s ys) (hIJ : Hle I J) : Reads E J s ys := by
 obtain ⟨h0, h1, h2, h3⟩ := h
 refine ⟨h0, h1, h2, ?_⟩
 rcases h3 with h3 | ⟨b, o, cs, T, fr, ha, hb, hc⟩
 ·exact .inl h3
 exact .inr ⟨b, o, cs, T, fr, ha, hIJ _ _ hb, hc⟩
def Rd {α : Type} (w0 : World) (I : Hp) (L : List Asn) (E : FE α) (s : SV) (ys : List α) : Prop := ∀ w, St w0 I L w → Reads E (hp w) s ys
theorem Rd.old {α : Type} {E : FE α} {w0 I L s ys} (h : Reads E I s ys) : Rd w0 I L E s ys := fun _ hS => h.mono hS.iw
theorem row_reads {α : Type} {E : FE α} {T s ys ρ} {I : Hp} (h : row E T s ys ρ) (hh : ∀ p ∈ ρ, I p.1 = some p.2) : Reads E I s ys := by
 rcases h with ⟨rfl, rfl, rfl⟩ | ⟨g, o, cap, cur, rfl, rfl, h1, h2, h3, h4⟩
 ·exact ⟨rfl, Nat.le_refl _, by simp [maxLen], .inl rfl⟩
 refine ⟨rfl, h1, h2, .inr ⟨g, o, cur, T, (0, 0), rfl, hh _ (List.mem_singleton.2 rfl), ?_⟩⟩
 intro j u hu
 rw [← h4, List.getElem?_take] at hu
 split at hu
 ·simpa using hu
 cases hu
theorem Rd.row {α : Type} {E : FE α} {w0 I L T s ys} (i : Nat) (hi : L[i]? = some (row E T s ys)) : Rd w0 I L E s ys := by
 intro w hS
 obtain ⟨ρA, hA, hh⟩ := hS.get hi
 exact row_reads hA hh
def ep (s : SV) (o : Nat) : Value := match s.a with
  | some a => .pointer (some (a.add o))
  | none => undef
def gd (ops : Array Oper) (Γ : Gm) (o : Oper) : Option Bool :=
  match o.guard with
  | none => some true
  | some (j, want) => match ((ops[j]?).bind (·.dst)).bind (lk Γ) with
    | some (.bool b) => some (b == want)
    | some (.tuple _) => some false
    | _ => none
theorem gd_spec {ops Γ o b n a} (h : gd ops Γ o = some b) (hF : Fr n Γ a) : Region.wanted o (yielded ops a.tmps) = b := by
 unfold gd at h
 unfold Region.wanted
 cases hg : o.guard with
 | none => rw [hg] at h; simpa using h
 | some p =>
  obtain ⟨j, want⟩ := p
  rw [hg] at h
  simp only at h ⊢
  split at h
  ·rename_i b' hb'
   obtain rfl := Option.some.inj h
   obtain ⟨d, hd, hl⟩ := Option.bind_eq_some_iff.1 hb'
   have := hF.has d _ hl
   have hy : yielded ops a.tmps j = some b' := by simp [yielded, hd, this]
   rw [hy]; cases b' <;> cases want <;> rfl
  ·rename_i vs hb'
   obtain rfl := Option.some.inj h
   obtain ⟨d, hd, hl⟩ := Option.bind_eq_some_iff.1 hb'
   have := hF.has d _ hl
   have hy : yielded ops a.tmps j = none := by simp [yielded, hd, this]
   rw [hy]; rfl
  cases h
section
variable {P : Program} {w0 : World} {n : Nat} {I : Hp} {Γ : Gm} {L : List Asn} {cs : List Code} {α : Type} {m : Option α} {D : α → Exit → Act → World → Prop} {ops : Array Oper} {os : List Oper} {o : Oper}
theorem TL.core (hg : gd ops Γ o = some true)
  (h : ∀ a w, Fr n Γ a → St w0 I L w → ∀ r, m = some r → o.wp P a w (wpList P ops (seqs P cs (D r)) os) (seqs P cs (D r))) : TL P w0 n I Γ L ops (o :: os) cs m D := by
 intro a w hF hS r hr
 refine wpList_step fun K hK => ?_
 rw [gd_spec hg hF]
 simp only [if_true]
 exact Oper.wp_mono hK (h a w hF hS r hr)
theorem TL.skip {d : Nat} (hg : gd ops Γ o = some false) (hd : o.dst = some d) (hn : d < n) (k : TL P w0 n I ((d, undef) :: Γ) L ops os cs m D) : TL P w0 n I Γ L ops (o :: os) cs m D := by
 intro a w hF hS r hr
 refine wpList_step fun K hK => ?_
 rw [gd_spec hg hF]
 simp only [Bool.false_eq_true, if_false]
 rw [hd]
 exact hK _ _ (k _ _ (hF.put hn) hS r hr)
theorem TL.val {d : Nat} {v : Value} (hg : gd ops Γ o = some true) (hd : o.dst = some d) (hn : d < n)
  (hrun : ∀ a w, Fr n Γ a → St w0 I L w → (execOp a.eval o).run P w = .ok (.value v) w)
  (k : TL P w0 n I ((d, v) :: Γ) L ops os cs m D) : TL P w0 n I Γ L ops (o :: os) cs m D := by
 refine .core hg fun a w hF hS r hr => ?_
 unfold Oper.wp
 rw [hrun a w hF hS, Oper.upon_value, hd]
 exact k _ _ (hF.put hn) hS r hr
theorem run_v {s : Sem Value} {v : Value} {w w' : World} (h : s.run P w = .ok v w') : (do pure (Next.value (← s)) : Sem Next).run P w = .ok (.value v) w' := by
 show (Sem.bind s _).run P w = _
 rw [show (Sem.bind s fun a => (pure (Next.value a) : Sem Next)) = (s >>= fun a => pure (Next.value a)) from rfl, Sem.run_bind, h]
 rfl
variable {d : Nat} {ty : TypeId} {pos : String} {af : Array Edge} {g : Option (Nat × Bool)}
theorem TL.move {x : Operand} {v : Value} (hg : gd ops Γ ⟨some d, .move x, ty, pos, af, g⟩ = some true) (hn : Nat.blt d n = true) (hx : ev Γ x = some v)
  (k : TL P w0 n I ((d, v) :: Γ) L ops os cs m D) : TL P w0 n I Γ L ops (⟨some d, .move x, ty, pos, af, g⟩ :: os) cs m D :=
 .val hg rfl (by simpa using hn) (fun a w hF _ => by show Sem.run P (pure (Next.value (a.eval x))) w = _; rw [hF.eval hx]; rfl) k
theorem TL.assign {x : Operand} {v : Value} (hg : gd ops Γ ⟨some d, .assign x, ty, pos, af, g⟩ = some true) (hn : Nat.blt d n = true) (hx : ev Γ x = some v)
  (k : TL P w0 n I ((d, v) :: Γ) L ops os cs m D) : TL P w0 n I Γ L ops (⟨some d, .assign x, ty, pos, af, g⟩ :: os) cs m D :=
 .val hg rfl (by simpa using hn) (fun a w hF _ => by show Sem.run P (pure (Next.value (a.eval x))) w = _; rw [hF.eval hx]; rfl) k
theorem TL.pick {c x y : Operand} {b : Bool} {r : Value} (hg : gd ops Γ ⟨some d, .pick c x y, ty, pos, af, g⟩ = some true) (hn : Nat.blt d n = true) (hc : ev Γ c = some (.bool b)) (hr : (bif b then ev Γ x else ev Γ y) = some r)
  (k : TL P w0 n I ((d, r) :: Γ) L ops os cs m D) : TL P w0 n I Γ L ops (⟨some d, .pick c x y, ty, pos, af, g⟩ :: os) cs m D := by
 refine .val hg rfl (by simpa using hn) (fun a w hF _ => ?_) k
 have h := hr
 show Sem.run P (do pure (Next.value (if ← asBool (a.eval c) then a.eval x else a.eval y))) w = _
 rw [hF.eval hc]
 cases b with
 | true => simp only [cond_true] at h; rw [hF.eval h]; rfl
 | false => simp only [cond_false] at h; rw [hF.eval h]; rfl
def intBin : BinOp → IntKind → Int → Int → Option Value
  | .add, k, x, y => some (.int k (k.wrap (x + y)))
  | .sub, k, x, y => some (.int k (k.wrap (x - y)))
  | .mul, k, x, y => some (.int k (k.wrap (x * y)))
  | .eql, _, x, y => some (.bool (x == y))
  | .neq, _, x, y => some (.bool (x != y))
  | .lss, _, x, y => some (.bool (decide (x < y)))
  | .leq, _, x, y => some (.bool (decide (x ≤ y)))
  | .gtr, _, x, y => some (.bool (decide (x > y)))
  | .geq, _, x, y => some (.bool (decide (x ≥ y)))
  | .and, k, x, y => some (.int k (bits .and k x y))
  | .or, k, x, y => some (.int k (bits .or k x y))
  | .xor, k, x, y => some (.int k (bits .xor k x y))
  | _, _, _, _ => none
theorem run_intBin {op : BinOp} {T T2 : TypeId} {x y : Operand} {k : IntKind} {a b : Int} {v : Value} (h : intBin op k a b = some v) {ρ : Operand → Value} (hx : ρ x = .int k a) (hy : ρ y = .int k b) (w : World) :
  (execOp ρ ⟨some d, .binOp op T x y T2, ty, pos, af, g⟩).run P w = .ok (.value v) w := by
 refine run_v ?_
 rw [hx, hy]
 cases op <;> simp only [intBin, Option.some.injEq, reduceCtorEq] at h <;> subst h <;>
  simp [eqGuard, binOp, Op.intArith, Op.intCmp, intBits_and, intBits_or, intBits_xor]
theorem TL.bin {op : BinOp} {T T2 : TypeId} {x y : Operand} (k : IntKind) (a b : Int) {v : Value} (hg : gd ops Γ ⟨some d, .binOp op T x y T2, ty, pos, af, g⟩ = some true) (hn : Nat.blt d n = true)
  (hx : ev Γ x = some (.int k a)) (hy : ev Γ y = some (.int k b)) (hv : intBin op k a b = some v)
  (kk : TL P w0 n I ((d, v) :: Γ) L ops os cs m D) : TL P w0 n I Γ L ops (⟨some d, .binOp op T x y T2, ty, pos, af, g⟩ :: os) cs m D :=
 .val hg rfl (by simpa using hn) (fun _ w hF _ => run_intBin hv (hF.eval hx) (hF.eval hy) w) kk
def nz {α : Type} (y : Int) (k : Option α) : Option α := if y = 0 then none else k
theorem run_rem {T T2 : TypeId} {x y : Operand} {k : IntKind} {a b : Int} {ρ : Operand → Value} (hx : ρ x = .int k a) (hy : ρ y = .int k b) (hb : b ≠ 0) (w : World) :
  (execOp ρ ⟨some d, .binOp .rem T x y T2, ty, pos, af, g⟩).run P w = .ok (.value (.int k (a.tmod b))) w := by
 refine run_v ?_
 rw [hx, hy]
 simp [eqGuard, binOp, Op.intDiv, hb]
theorem run_quo {T T2 : TypeId} {x y : Operand} {k : IntKind} {a b : Int} {ρ : Operand → Value} (hx : ρ x = .int k a) (hy : ρ y = .int k b) (hb : b ≠ 0) (w : World) :
  (execOp ρ ⟨some d, .binOp .quo T x y T2, ty, pos, af, g⟩).run P w = .ok (.value (.int k (k.wrap (a.tdiv b)))) w := by
 refine run_v ?_
 rw [hx, hy]
 simp [eqGuard, binOp, Op.intDiv, hb]
theorem TL.rem {T T2 : TypeId} {x y : Operand} (k : IntKind) (a b : Int) (hb : b ≠ 0) (hg : gd ops Γ ⟨some d, .binOp .rem T x y T2, ty, pos, af, g⟩ = some true) (hn : Nat.blt d n = true)
  (hx : ev Γ x = some (.int k a)) (hy : ev Γ y = some (.int k b))
  (kk : TL P w0 n I ((d, .int k (a.tmod b)) :: Γ) L ops os cs m D) : TL P w0 n I Γ L ops (⟨some d, .binOp .rem T x y T2, ty, pos, af, g⟩ :: os) cs m D :=
 TL.val hg rfl (by simpa using hn) (fun _ w hF _ => run_rem (hF.eval hx) (hF.eval hy) hb w) kk
theorem TL.quo {T T2 : TypeId} {x y : Operand} (k : IntKind) (a b : Int) (hb : b ≠ 0) (hg : gd ops Γ ⟨some d, .binOp .quo T x y T2, ty, pos, af, g⟩ = some true) (hn : Nat.blt d n = true)
  (hx : ev Γ x = some (.int k a)) (hy : ev Γ y = some (.int k b))
  (kk : TL P w0 n I ((d, .int k (k.wrap (a.tdiv b))) :: Γ) L ops os cs m D) : TL P w0 n I Γ L ops (⟨some d, .binOp .quo T x y T2, ty, pos, af, g⟩ :: os) cs m D :=
 TL.val hg rfl (by simpa using hn) (fun _ w hF _ => run_quo (hF.eval hx) (hF.eval hy) hb w) kk
theorem TL.nz {b : Int} (kk : b ≠ 0 → TL P w0 n I Γ L ops os cs m D) : TL P w0 n I Γ L ops os cs (Sx.nz b m) D := by
 intro a w hF hS r hr
 unfold Sx.nz at hr
 split at hr
 ·cases hr
 rename_i hb
 exact kk hb a w hF hS r hr
def chk {α : Type} (i : Int) (len : Nat) (k : Option α) : Option α := if 0 ≤ i ∧ i < len then k else none
theorem TL.chk {i : Int} {len : Nat} (kk : 0 ≤ i ∧ i < len → TL P w0 n I Γ L ops os cs m D) : TL P w0 n I Γ L ops os cs (Sx.chk i len m) D := by
 intro a w hF hS r hr
 unfold Sx.chk at hr
 split at hr
 ·rename_i hb
  exact kk hb a w hF hS r hr
 cases hr
def grd {α : Type} (c : Bool) (k : Option α) : Option α := bif c then k else none
theorem TL.grd {c : Bool} (kk : c = true → TL P w0 n I Γ L ops os cs m D) : TL P w0 n I Γ L ops os cs (Sx.grd c m) D := by
 intro a w hF hS r hr
 cases c with
 | true => exact kk rfl a w hF hS r hr
 | false => cases hr
theorem TL.not {T : TypeId} {x : Operand} (b : Bool) (hg : gd ops Γ ⟨some d, .unOp .not T x, ty, pos, af, g⟩ = some true) (hn : Nat.blt d n = true) (hx : ev Γ x = some (.bool b))
  (k : TL P w0 n I ((d, .bool (!b)) :: Γ) L ops os cs m D) : TL P w0 n I Γ L ops (⟨some d, .unOp .not T x, ty, pos, af, g⟩ :: os) cs m D :=
 .val hg rfl (by simpa using hn) (fun a w hF _ => run_v (by rw [hF.eval hx]; rfl)) k
theorem TL.conv {S T : TypeId} {x : Operand} (k k' : IntKind) (i : Int) (ds : TypeDesc) (hg : gd ops Γ ⟨some d, .convert S T x, ty, pos, af, g⟩ = some true) (hn : Nat.blt d n = true) (hx : ev Γ x = some (.int k i))
  (hS : P.underlying S = some ds) (hT : P.underlying T = some (.int k')) {v : Value} (hv : Value.int k' (k'.wrap i) = v)
  (kk : TL P w0 n I ((d, v) :: Γ) L ops os cs m D) : TL P w0 n I Γ L ops (⟨some d, .convert S T x, ty, pos, af, g⟩ :: os) cs m D := by
 subst hv
 exact .val hg rfl (by simpa using hn) (fun a w hF _ => run_v (by rw [hF.eval hx]; simp [convert, run_underlying hS, run_underlying hT, Conv.intToInt])) kk
theorem conv_u8_i64 (x : UInt8) : Value.int .i64 (IntKind.i64.wrap (x.toNat : Int)) = .int .i64 (x.toNat : Int) := by
 have h := x.toNat_lt
 rw [IntWalk.i64_in _ (by omega)]
theorem conv_i64_u8 (i : Int) : Value.int .u8 (IntKind.u8.wrap i) = u8v (UInt8.ofInt i) := by
 unfold u8v
 congr 1
 have h : IntKind.u8.wrap i = i % 256 := rfl
 have h2 : (UInt8.ofInt i).toNat = (i % 256).toNat % 256 := rfl
 rw [h, h2]
 omega
end
end Go.Sx
namespace Go.Sx
open Go.RowKit
section
variable {P : Program} {w0 : World} {n : Nat} {I : Hp} {Γ : Gm} {L : List Asn} {cs : List Code} {α : Type} {m : Option α} {D : α → Exit → Act → World → Prop} {ops : Array Oper} {os : List Oper} {o : Oper}
theorem TL.valW {d : Nat} {γ : Type} {vf : γ → Value} {Lf : γ → List Asn} (hg : gd ops Γ o = some true) (hd : o.dst = some d) (hn : d < n)
  (hrun : ∀ a w, Fr n Γ a → St w0 I L w → ∃ x w', (execOp a.eval o).run P w = .ok (.value (vf x)) w' ∧ St w0 I (Lf x) w')
  (k : ∀ x, TL P w0 n I ((d, vf x) :: Γ) (Lf x) ops os cs m D) : TL P w0 n I Γ L ops (o :: os) cs m D := by
 refine .core hg fun a w hF hS r hr => ?_
 unfold Oper.wp
 obtain ⟨x, w', hx, hS'⟩ := hrun a w hF hS
 rw [hx, Oper.upon_value, hd]
 exact k x _ _ (hF.put hn) hS' r hr
theorem TL.skipW {L' : List Asn} (hg : gd ops Γ o = some true) (hd : o.dst = none)
  (hrun : ∀ a w, Fr n Γ a → St w0 I L w → ∃ w', (execOp a.eval o).run P w = .ok .skip w' ∧ St w0 I L' w')
  (k : TL P w0 n I Γ L' ops os cs m D) : TL P w0 n I Γ L ops (o :: os) cs m D := by
 refine .core hg fun a w hF hS r hr => ?_
 unfold Oper.wp
 obtain ⟨w', hx, hS'⟩ := hrun a w hF hS
 rw [hx, Oper.upon_skip, hd]
 exact k _ _ hF hS' r hr
variable {d : Nat} {ty : TypeId} {pos : String} {af : Array Edge} {g : Option (Nat × Bool)}
theorem run_newVar (T : TypeId) (v : Value) (w : World) : (newVar T v).run P w = .ok ⟨w.heap.size, 0, none⟩ (w.alloc (.cells v.cells T)) := rfl
theorem TL.alloc {T : TypeId} {z : Value} (segs : List Seg) (hg : gd ops Γ ⟨some d, .alloc T, ty, pos, af, g⟩ = some true) (hn : Nat.blt d n = true)
  (hz : ∀ w, (zeroValue T).run P w = .ok z w) (hs : z.cells = (flat segs).toArray)
  (k : ∀ b, TL P w0 n I ((d, bp b 0) :: Γ) (box b T segs :: L) ops os cs m D) : TL P w0 n I Γ L ops (⟨some d, .alloc T, ty, pos, af, g⟩ :: os) cs m D := by
 refine .valW (γ := Nat) (vf := fun b => bp b 0) (Lf := fun b => box b T segs :: L) hg rfl (by simpa using hn) (fun a w hF hS => ⟨w.heap.size, w.alloc (.cells z.cells T), ?_, ?_⟩) k
 ·refine run_v ?_
  simp only [Instr.alloc, Sem.run_bind, hz w, Result.andThen_ok, run_newVar]
  rfl
 rw [hs]; exact hS.alloc _
theorem TL.box {T : TypeId} {x : Operand} {v : Value} (segs : List Seg) (hg : gd ops Γ ⟨some d, .box T x, ty, pos, af, g⟩ = some true) (hn : Nat.blt d n = true)
  (hx : ev Γ x = some v) (hs : v.cells = (flat segs).toArray)
  (k : ∀ b, TL P w0 n I ((d, bp b 0) :: Γ) (Sx.box b T segs :: L) ops os cs m D) : TL P w0 n I Γ L ops (⟨some d, .box T x, ty, pos, af, g⟩ :: os) cs m D := by
 refine .valW (γ := Nat) (vf := fun b => bp b 0) (Lf := fun b => Sx.box b T segs :: L) hg rfl (by simpa using hn) (fun a w hF hS => ⟨w.heap.size, w.alloc (.cells v.cells T), ?_, ?_⟩) k
 ·refine run_v ?_
  rw [hF.eval hx]
  simp only [Instr.box, Sem.run_bind, Result.andThen_ok, run_newVar]
  rfl
 rw [hs]; exact hS.alloc _
theorem add_none (b o k : Nat) : (⟨b, o, none⟩ : Addr).add k = ⟨b, o + k, none⟩ := by
 unfold Addr.add; split <;> simp_all
theorem TL.fa {S : TypeId} {x : Operand} {f : Nat} {b off s : Nat} {fs : Array Field} {fd : Field} (hS : P.underlying S = some (.struct fs)) (hf : fs[f]? = some fd) (hz : ∀ w, (sizeOf fd.type).run P w = .ok s w) (hs : Nat.beq s 0 = false)
  (r : Nat) (hr : off + fd.offset = r)
  (hg : gd ops Γ ⟨some d, .fieldAddr S x f, ty, pos, af, g⟩ = some true) (hn : Nat.blt d n = true) (hx : ev Γ x = some (bp b off))
  (k : TL P w0 n I ((d, bp b r) :: Γ) L ops os cs m D) : TL P w0 n I Γ L ops (⟨some d, .fieldAddr S x f, ty, pos, af, g⟩ :: os) cs m D := by
 subst hr
 refine .val hg rfl (by simpa using hn) (fun a w hF _ => run_v ?_) k
 rw [hF.eval hx]
 have hs0 : ¬ s = 0 := fun e => by subst e; simp at hs
 simp [Instr.fieldAt, bp, Sem.run_bind, run_underlying hS, hf, Instr.sureAddr, fieldPlace, hz w, hs0, add_none]
theorem TL.ixa {T : TypeId} {x ix : Operand} {b off s len : Nat} {e : TypeId} {kd : IntKind} (i : Int) (r : Nat) (hb : 0 ≤ i ∧ i < len) (hT : P.underlying T = some (.array len e)) (hz : ∀ w, (sizeOf e).run P w = .ok s w)
  (hg : gd ops Γ ⟨some d, .indexAddr T x ix, ty, pos, af, g⟩ = some true) (hn : Nat.blt d n = true) (hx : ev Γ x = some (bp b off)) (hi : ev Γ ix = some (.int kd i)) (hr : off + i.toNat * s = r)
  (k : TL P w0 n I ((d, bp b r) :: Γ) L ops os cs m D) : TL P w0 n I Γ L ops (⟨some d, .indexAddr T x ix, ty, pos, af, g⟩ :: os) cs m D := by
 subst hr
 refine .val hg rfl (by simpa using hn) (fun a w hF _ => run_v ?_) k
 rw [hF.eval hx, hF.eval hi]
 simp [Instr.indexAt, bp, Sem.run_bind, run_underlying hT, Instr.sureAddr, asIntOf, hb, hz w, add_none]
theorem TL.ixs {β : Type} {E : FE β} {T : TypeId} {x ix : Operand} {s : SV} {ys : List β} {sz : Nat} {e : TypeId} {kd : IntKind} (i : Int) (r : Nat) (hr : Rd w0 I L E s ys) (hb : 0 ≤ i ∧ i < ys.length) (hT : P.underlying T = some (.slice e)) (hz : ∀ w, (sizeOf e).run P w = .ok sz w)
  (hg : gd ops Γ ⟨some d, .indexAddr T x ix, ty, pos, af, g⟩ = some true) (hn : Nat.blt d n = true) (hx : ev Γ x = some s.v) (hi : ev Γ ix = some (.int kd i)) (hrr : i.toNat * sz = r)
  (k : TL P w0 n I ((d, ep s r) :: Γ) L ops os cs m D) : TL P w0 n I Γ L ops (⟨some d, .indexAddr T x ix, ty, pos, af, g⟩ :: os) cs m D := by
 subst hrr
 refine .val hg rfl (by simpa using hn) (fun a w hF hS => run_v ?_) k
 rw [hF.eval hx, hF.eval hi]
 obtain ⟨h0, h1, h2, h3⟩ := hr w hS
 rcases h3 with rfl | ⟨b, o, cs', T', fr, ha, _, _⟩
 ·simp at hb; omega
 have hb2 : 0 ≤ i ∧ i < (s.n : Int) := by rw [h0]; exact hb
 simp [Instr.indexAt, SV.v, ep, ha, Sem.run_bind, run_underlying hT, asIntOf, hb2, hz w]
theorem TL.fae {S : TypeId} {x : Operand} {f : Nat} {s : SV} {off sz : Nat} {fs : Array Field} {fd : Field} {β : Type} {E : FE β} {ys : List β} (hr : Rd w0 I L E s ys) (hne : 0 < ys.length) (hS : P.underlying S = some (.struct fs)) (hf : fs[f]? = some fd) (hz : ∀ w, (sizeOf fd.type).run P w = .ok sz w) (hs : Nat.beq sz 0 = false)
  (r : Nat) (hrr : off + fd.offset = r)
  (hg : gd ops Γ ⟨some d, .fieldAddr S x f, ty, pos, af, g⟩ = some true) (hn : Nat.blt d n = true) (hx : ev Γ x = some (ep s off))
  (k : TL P w0 n I ((d, ep s r) :: Γ) L ops os cs m D) : TL P w0 n I Γ L ops (⟨some d, .fieldAddr S x f, ty, pos, af, g⟩ :: os) cs m D := by
 subst hrr
 refine .val hg rfl (by simpa using hn) (fun a w hF hW => run_v ?_) k
 rw [hF.eval hx]
 have hs0 : ¬ sz = 0 := fun e => by subst e; simp at hs
 obtain ⟨h0, h1, h2, h3⟩ := hr w hW
 rcases h3 with rfl | ⟨b, o, cs', T', fr, ha, _, _⟩
 ·simp at hne
 simp [Instr.fieldAt, ep, ha, Sem.run_bind, run_underlying hS, hf, Instr.sureAddr, fieldPlace, hz w, hs0, add_none, Nat.add_assoc]
theorem cell_at {w : World} {b : Nat} {cs : Array Value} {T : TypeId} {fr : Nat × Nat} (h : w.heap[b]? = some (.cells cs T fr)) (o : Nat) : w.cell? ⟨b, o, none⟩ = cs[o]? := by simp [World.cell?, h]
theorem run_load_cell {w : World} {b o : Nat} {v : Value} (h : w.cell? ⟨b, o, none⟩ = some v) : (load ⟨b, o, none⟩).run P w = .ok v w := by
 simp only [load, Sem.run, h]
theorem run_loadVar1 {T : TypeId} {w : World} {b o : Nat} {v : Value} (ha : (isAgg T).run P w = .ok false w) (h : w.cell? ⟨b, o, none⟩ = some v) : (loadVar T ⟨b, o, none⟩).run P w = .ok v w := by
 rw [loadVar, Sem.run_bind, ha]; exact run_load_cell h
theorem run_loadVarN {T : TypeId} {w : World} {b o sz : Nat} {cs : Array Value} {T' : TypeId} {fr : Nat × Nat} (ha : (isAgg T).run P w = .ok true w) (hz : (sizeOf T).run P w = .ok sz w) (h : w.heap[b]? = some (.cells cs T' fr)) (hl : o + sz ≤ cs.size) :
  (loadVar T ⟨b, o, none⟩).run P w = .ok (.agg ((cs.toList.drop o).take sz).toArray) w := by
 have hlen : ((cs.toList.drop o).take sz).length = sz := by simp; omega
 have := run_loadCells_list (P := P) w ⟨b, o, none⟩ ((cs.toList.drop o).take sz) (fun j v hv => by
  rw [add_none, cell_at h]
  simp only [List.getElem?_take, List.getElem?_drop] at hv
  split at hv
  ·simpa using hv
  cases hv)
 rw [hlen] at this
 simp [loadVar, Sem.run_bind, ha, hz, this]
theorem TL.load1 {T : TypeId} {x : Operand} {b o : Nat} {v : Value} {segs : List Seg} (j : Nat) (hs : Src w0 I L b segs) (ha : ∀ w, (isAgg T).run P w = .ok false w)
  (hj : segs[j]? = some (.one v)) (ho : soff segs j = o) (hg : gd ops Γ ⟨some d, .load T x, ty, pos, af, g⟩ = some true) (hn : Nat.blt d n = true) (hx : ev Γ x = some (bp b o))
  (k : TL P w0 n I ((d, v) :: Γ) L ops os cs m D) : TL P w0 n I Γ L ops (⟨some d, .load T x, ty, pos, af, g⟩ :: os) cs m D := by
 refine .val hg rfl (by simpa using hn) (fun a w hF hS => run_v ?_) k
 rw [hF.eval hx]
 obtain ⟨T', fr, hw⟩ := hs w hS
 simp only [Instr.loadAt, bp, Instr.sureAddr, Sem.run_bind, Sem.run_pure, Result.andThen_ok]
 refine run_loadVar1 (ha w) ?_
 rw [cell_at hw, ← ho]
 simpa using flat_get_one hj
theorem TL.loadA {T : TypeId} {x : Operand} {b N : Nat} (i : Nat) {f : Nat → Value} {v : Value} {segs : List Seg} (j : Nat) (hs : Src w0 I L b segs) (ha : ∀ w, (isAgg T).run P w = .ok false w)
  (hj : segs[j]? = some (.arr N f)) (hi : i < N) (hv : f i = v) {st o : Nat} (hst : soff segs j = st) (ho : o = st + i) (hg : gd ops Γ ⟨some d, .load T x, ty, pos, af, g⟩ = some true) (hn : Nat.blt d n = true) (hx : ev Γ x = some (bp b o))
  (k : TL P w0 n I ((d, v) :: Γ) L ops os cs m D) : TL P w0 n I Γ L ops (⟨some d, .load T x, ty, pos, af, g⟩ :: os) cs m D := by
 subst hv hst
 refine .val hg rfl (by simpa using hn) (fun a w hF hS => run_v ?_) k
 rw [hF.eval hx]
 obtain ⟨T', fr, hw⟩ := hs w hS
 simp only [Instr.loadAt, bp, Instr.sureAddr, Sem.run_bind, Sem.run_pure, Result.andThen_ok]
 refine run_loadVar1 (ha w) ?_
 rw [cell_at hw, ho]
 simpa using flat_get_arr hj hi
theorem slen_append (a b : List Seg) : slen (a ++ b) = slen a + slen b := by rw [← flat_length, flat_append, List.length_append, flat_length, flat_length]
theorem soff_le (segs : List Seg) (j c : Nat) : soff segs j + slen ((segs.drop j).take c) ≤ slen segs := by
 have h1 : slen segs = soff segs j + slen (segs.drop j) := by unfold soff; rw [← slen_append, List.take_append_drop]
 have h2 : slen (segs.drop j) = slen ((segs.drop j).take c) + slen ((segs.drop j).drop c) := by rw [← slen_append, List.take_append_drop]
 omega
theorem TL.loadM {T : TypeId} {x : Operand} {b M : Nat} {segs : List Seg} (j c : Nat) (hs : Src w0 I L b segs) (ha : ∀ w, (isAgg T).run P w = .ok true w) (hz : ∀ w, (sizeOf T).run P w = .ok M w)
  {mid : List Seg} (hm : (segs.drop j).take c = mid) (hM : slen mid = M) {o : Nat} (ho : o = soff segs j) (hg : gd ops Γ ⟨some d, .load T x, ty, pos, af, g⟩ = some true) (hn : Nat.blt d n = true) (hx : ev Γ x = some (bp b o))
  (k : TL P w0 n I ((d, sval mid) :: Γ) L ops os cs m D) : TL P w0 n I Γ L ops (⟨some d, .load T x, ty, pos, af, g⟩ :: os) cs m D := by
 subst hm
 refine .val hg rfl (by simpa using hn) (fun a w hF hS => run_v ?_) k
 rw [hF.eval hx]
 obtain ⟨T', fr, hw⟩ := hs w hS
 simp only [Instr.loadAt, bp, Instr.sureAddr, Sem.run_bind, Sem.run_pure, Result.andThen_ok]
 have hl : o + M ≤ (flat segs).toArray.size := by rw [ho, List.size_toArray, flat_length, ← hM]; exact soff_le _ _ _
 rw [run_loadVarN (ha w) (hz w) hw hl, ho, ← hM]
 simp only [sval]
 rw [flat_mid]
theorem TL.loadE {β : Type} {E : FE β} {T : TypeId} {x : Operand} {s : SV} {ys : List β} (hr : Rd w0 I L E s ys) (ha : ∀ w, (isAgg T).run P w = .ok false w) (i j : Nat) {y : β} (hy : ys[i]? = some y) {v : Value} (hv : (E.enc y)[j]? = some v)
  {o : Nat} (ho : o = i * E.sz + j) (hg : gd ops Γ ⟨some d, .load T x, ty, pos, af, g⟩ = some true) (hn : Nat.blt d n = true) (hx : ev Γ x = some (ep s o))
  (k : TL P w0 n I ((d, v) :: Γ) L ops os cs m D) : TL P w0 n I Γ L ops (⟨some d, .load T x, ty, pos, af, g⟩ :: os) cs m D := by
 refine .val hg rfl (by simpa using hn) (fun a w hF hS => run_v ?_) k
 rw [hF.eval hx]
 obtain ⟨h0, h1, h2, h3⟩ := hr w hS
 rcases h3 with rfl | ⟨b, q, cs', T', fr, ha', hw, hc⟩
 ·simp at hy
 simp only [Instr.loadAt, ep, ha', add_none, Instr.sureAddr, Sem.run_bind, Sem.run_pure, Result.andThen_ok]
 refine run_loadVar1 (ha w) ?_
 rw [cell_at hw]
 refine hc o v ?_
 have hj : j < E.sz := by rw [← E.len y]; exact (List.getElem?_eq_some_iff.1 hv).1
 rw [ho, encs_get E ys i j y hy hj, hv]
theorem TL.loadEA {β : Type} {E : FE β} {T : TypeId} {x : Operand} {s : SV} {ys : List β} (hr : Rd w0 I L E s ys) (ha : ∀ w, (isAgg T).run P w = .ok true w) (hz : ∀ w, (sizeOf T).run P w = .ok E.sz w) (i : Nat) {y : β} (hy : ys[i]? = some y) {v : Value} (hv : Value.agg (E.enc y).toArray = v)
  {o : Nat} (ho : o = i * E.sz) (hg : gd ops Γ ⟨some d, .load T x, ty, pos, af, g⟩ = some true) (hn : Nat.blt d n = true) (hx : ev Γ x = some (ep s o))
  (k : TL P w0 n I ((d, v) :: Γ) L ops os cs m D) : TL P w0 n I Γ L ops (⟨some d, .load T x, ty, pos, af, g⟩ :: os) cs m D := by
 subst hv
 refine .val hg rfl (by simpa using hn) (fun a w hF hS => run_v ?_) k
 rw [hF.eval hx]
 obtain ⟨h0, h1, h2, h3⟩ := hr w hS
 rcases h3 with rfl | ⟨b, q, cs', T', fr, ha', hw, hc⟩
 ·simp at hy
 simp only [Instr.loadAt, ep, ha', add_none, Instr.sureAddr, Sem.run_bind, Sem.run_pure, Result.andThen_ok]
 have hcell : ∀ j v, (E.enc y)[j]? = some v → w.cell? ((⟨b, q + o, none⟩ : Addr).add j) = some v := by
  intro j v hj
  rw [add_none, cell_at hw, Nat.add_assoc]
  refine hc (o + j) v ?_
  have hjs : j < E.sz := by rw [← E.len y]; exact (List.getElem?_eq_some_iff.1 hj).1
  rw [ho, encs_get E ys i j y hy hjs, hj]
 have := run_loadCells_list (P := P) w ⟨b, q + o, none⟩ (E.enc y) hcell
 rw [E.len] at this
 simp [loadVar, Sem.run_bind, ha w, hz w, this]
theorem TL.len {β : Type} {E : FE β} {T : TypeId} {x : Operand} {s : SV} {ys : List β} {e : TypeId} (hr : Rd w0 I L E s ys) (hT : P.underlying T = some (.slice e))
  (hg : gd ops Γ ⟨some d, .call { callee := .builtin .len, args := #[x], argTypes := #[T] }, ty, pos, af, g⟩ = some true) (hn : Nat.blt d n = true) (hx : ev Γ x = some s.v)
  (k : TL P w0 n I ((d, .int .i64 ys.length) :: Γ) L ops os cs m D) : TL P w0 n I Γ L ops (⟨some d, .call { callee := .builtin .len, args := #[x], argTypes := #[T] }, ty, pos, af, g⟩ :: os) cs m D := by
 refine .val hg rfl (by simpa using hn) (fun a w hF hS => ?_) k
 obtain ⟨h0, _⟩ := hr w hS
 unfold execOp
 simp only [resolve, invoke, builtin, Sem.run_bind, Sem.run_pure, Result.andThen_ok, List.map_toArray, List.map_cons, List.map_nil, hF.eval hx, SV.v]
 simp [Builtin.len_, run_underlying hT, h0, goInt]
end
def w64 (x : Int) : Int := IntKind.i64.wrap x
def gt {β : Type} [Inhabited β] (ys : List β) (i : Int) : β := ys.getD i.toNat default
theorem gt_spec {β : Type} [Inhabited β] {ys : List β} {i : Int} (h : 0 ≤ i ∧ i < ys.length) : ys[i.toNat]? = some (gt ys i) := by
 have hlt : i.toNat < ys.length := by omega
 simp [gt, List.getD, hlt]
theorem info_of {P : Program} {t : TypeId} {i : TypeInfo} (h : P.types[t]? = some i) : P.info? t = some i := by
 have := (Array.getElem?_eq_some_iff.1 h).1
 rw [Tables.info?, if_pos this, h]
def ext : List Nat → List Asn → Option (List Asn)
  | [], _ => some []
  | j :: js, L => match L[j]? with
    | none => none
    | some A => match ext js (L.eraseIdx j) with
      | none => none
      | some L' => some (A :: L')
theorem Sat.ext : ∀ {js : List Nat} {L L' : List Asn} {ρ}, Sat L ρ → ext js L = some L' → ∃ ρ' rest, Sat L' ρ' ∧ (ρ' ++ rest).Perm ρ
 | [], L, L', ρ, h, he => by
  simp only [Sx.ext, Option.some.injEq] at he
  subst he
  exact ⟨[], ρ, rfl, .refl _⟩
 | j :: js, L, L', ρ, h, he => by
  simp only [Sx.ext] at he
  split at he
  ·cases he
  rename_i A hA
  split at he
  ·cases he
  rename_i L2 h2
  obtain rfl := Option.some.inj he
  obtain ⟨ρ1, ρA, ρ2, rfl, hAA, _, her⟩ := h.focus hA
  obtain ⟨ρ', rest, hs', hp⟩ := Sat.ext her h2
  refine ⟨ρA ++ ρ', rest, ⟨ρA, ρ', rfl, hAA, hs'⟩, ?_⟩
  rw [List.append_assoc]
  refine (hp.append_left ρA).trans ?_
  rw [← List.append_assoc]
  exact List.perm_append_comm.append_right ρ2
theorem St.ext {w0 I L L' w} (js : List Nat) (he : ext js L = some L') (h : St w0 I L w) : St w0 I L' w := by
 obtain ⟨ρ, hs, ho⟩ := h.own
 obtain ⟨ρ', rest, hs', hp⟩ := hs.ext he
 refine ⟨h.below, h.i0, h.iw, ρ', hs', ?_, fun p hm => ho.here p (hp.mem_iff.1 (List.mem_append_left _ hm))⟩
 have h1 := (hp.map (·.1)).nodup_iff.2 ho.nodup
 rw [List.map_append, List.nodup_append] at h1
 exact h1.1
def RetM (w0 : World) (I : Hp) (R : Value → List Asn → Prop) : Ending → World → Prop := fun e w' => ∃ v L, e = .returned v ∧ R v L ∧ St w0 I L w'
def Ret (w : World) (R : Value → List Asn → Prop) : Ending → World → Prop := RetM w (hp w) R
section
variable {P : Program} {w0 : World} {n : Nat} {I : Hp} {Γ : Gm} {L : List Asn} {cs : List Code} {α : Type} {m : Option α} {D : α → Exit → Act → World → Prop} {ops : Array Oper} {os : List Oper} {o : Oper}
variable {d : Nat} {ty : TypeId} {pos : String} {af : Array Edge} {g : Option (Nat × Bool)}
theorem run_call {f : FuncId} {args : Array Operand} {ts : Array TypeId} {vs : List Value} {dst : Option Nat} (hc : ∀ (args : Array Value) (w : World), (callFunc f args).run P w = .ok (.enter f args) w) {a : Act} (hF : Fr n Γ a) (hx : evs Γ args.toList = some vs) (w : World) :
  (execOp a.eval ⟨dst, .call { callee := .value (.func f), args := args, argTypes := ts }, ty, pos, af, g⟩).run P w = .ok (.enter f vs.toArray) w := by
 have h1 : args.map a.eval = vs.toArray := by
  apply Array.ext'
  simp [hF.evals hx]
 unfold execOp
 simp only [resolve, h1, Act.eval, Deferred.ofValue, Sem.run_bind, Sem.run_pure, Result.andThen_ok, invoke]
 simpa using hc vs.toArray w
theorem TL.call {β : Type} {f : FuncId} {args : Array Operand} {ts : Array TypeId} {vs : List Value} {mf : Option β} {kont : β → Option α} {R : β → Value → List Asn → Prop}
  (hcall : ∀ (args : Array Value) (w : World), (callFunc f args).run P w = .ok (.enter f args) w)
  (hg : gd ops Γ ⟨some d, .call { callee := .value (.func f), args := args, argTypes := ts }, ty, pos, af, g⟩ = some true) (hn : Nat.blt d n = true) (hx : evs Γ args.toList = some vs)
  (hc : ∀ w, St w0 I L w → ∀ r, mf = some r → Calls P f vs.toArray w (Ret w (R r)))
  (k : ∀ r v L', R r v L' → TL P w0 n I ((d, v) :: Γ) (L' ++ L) ops os cs (kont r) D) :
  TL P w0 n I Γ L ops (⟨some d, .call { callee := .value (.func f), args := args, argTypes := ts }, ty, pos, af, g⟩ :: os) cs (mf.bind kont) D := by
 intro a w hF hS r hr
 obtain ⟨r1, hr1, hr2⟩ := Option.bind_eq_some_iff.1 hr
 refine TL.core (m := some r) (D := D) hg (fun a w hF hS r' hr' => ?_) a w hF hS r rfl
 obtain rfl := Option.some.inj hr'
 unfold Oper.wp
 rw [run_call hcall hF hx, Oper.upon_enter]
 refine (hc w hS r1 hr1).mono ?_
 rintro e w' ⟨v, L', rfl, hR, hS'⟩
 exact k r1 v L' hR _ _ (hF.put (by simpa using hn)) (hS.call hS') _ hr2
def ArgOk (args : Array Value) : Gm → Prop
  | [] => True
  | (t, v) :: r => args[t]? = some v ∧ ArgOk args r
theorem ArgOk.fr {args : Array Value} {Γ : Gm} (h : ArgOk args Γ) (hn : args.size ≤ n) : Fr n Γ { tmps := args ++ Array.replicate (n - args.size) undef, defers := [] } := by
 refine ⟨by simp; omega, rfl, ?_⟩
 induction Γ with
 | nil => intro t v ht; cases ht
 | cons p r ih =>
  obtain ⟨k, u⟩ := p
  intro t v ht
  simp only [lk] at ht
  cases hb : Nat.beq k t with
  | true =>
   rw [hb] at ht
   obtain rfl := Nat.eq_of_beq_eq_true hb
   obtain rfl := Option.some.inj ht
   have h1 := h.1
   have hlt := (Array.getElem?_eq_some_iff.1 h1).1
   rw [Array.getElem?_append_left hlt]; exact h1
  | false => rw [hb] at ht; exact ih h.2 t v ht
theorem calls_TM {f : FuncId} {fn : Func} {c : Code} {args : Array Value} {R : α → Value → List Asn → Prop} (hf : P.funcs[f]? = some fn) (hb : fn.body = some c) (hnt : fn.ntmps = n) (hn : args.size ≤ n) (ha : ArgOk args Γ)
  (h : TC P w0 n I Γ L [c] m fun o => bodyPost P fn (RetM w0 I (R o))) : ∀ w, St w0 I L w → ∀ r, m = some r → Calls P f args w (RetM w0 I (R r)) := by
 intro w hS r hr
 refine calls_of_wp hf hb ?_
 rw [hnt]
 exact h _ w (ha.fr hn) hS r hr
theorem calls_T {f : FuncId} {fn : Func} {c : Code} {args : Array Value} {w : World} {R : α → Value → List Asn → Prop} (hf : P.funcs[f]? = some fn) (hb : fn.body = some c) (hnt : fn.ntmps = n) (hn : args.size ≤ n) (ha : ArgOk args Γ)
  (h : TC P w n (hp w) Γ [] [c] m fun o => bodyPost P fn (RetM w (hp w) (R o))) : ∀ r, m = some r → Calls P f args w (Ret w (R r)) :=
 fun r hr => calls_TM hf hb hnt hn ha h w (.start w) r hr
theorem bodyPost_end {fn : Func} {R : Ending → World → Prop} {e : Exit} {a : Act} {w : World} {v : Value} (he : e = .normal ∨ e = .ret) (hd : a.defers = []) (hr : (results fn a.tmps).run P w = .ok v w) (hR : R (.returned v) w) : bodyPost P fn R e a w := by
 rcases he with rfl | rfl <;> exact ⟨hd, v, hr, hR⟩
def ResOk (P : Program) (w0 : World) (n : Nat) (I : Hp) (Γ : Gm) (L : List Asn) (x : ResultVar) (v : Value) : Prop :=
  ∀ a w, Fr n Γ a → St w0 I L w → (match x with
    | .tmp t => (pure (a.tmps.getD t undef) : Sem Value)
    | .cell a' t => do
      let p ← asAddr (a.tmps.getD a' undef)
      loadVar t p).run P w = .ok v w
theorem ResOk.tmp {t : Nat} {v : Value} (h : lk Γ t = some v) : ResOk P w0 n I Γ L (.tmp t) v := by
 intro a w hF hS
 have := hF.has t v h
 show Sem.run P (pure (a.tmps.getD t undef)) w = _
 simp [this]
theorem ResOk.cellN {t : Nat} {T : TypeId} {b M : Nat} {segs : List Seg} (h : lk Γ t = some (bp b 0)) (hs : Src w0 I L b segs) (ha : ∀ w, (isAgg T).run P w = .ok true w) (hz : ∀ w, (sizeOf T).run P w = .ok M w) (hM : slen segs = M) : ResOk P w0 n I Γ L (.cell t T) (sval segs) := by
 intro a w hF hS
 have h1 := hF.has t _ h
 obtain ⟨T', fr, hw⟩ := hs w hS
 have h2 : (a.tmps.getD t undef) = bp b 0 := by simp [h1]
 show Sem.run P (do let p ← asAddr (a.tmps.getD t undef); loadVar T p) w = _
 rw [h2]
 simp only [bp, asAddr, Sem.run_bind, Sem.run_pure, Result.andThen_ok]
 rw [run_loadVarN (ha w) (hz w) hw (by rw [List.size_toArray, flat_length]; omega)]
 simp only [sval, List.drop_zero]
 rw [List.take_of_length_le (by rw [flat_length]; omega)]
def resRun (tmps : Array Value) (x : ResultVar) : Sem Value := match x with
    | .tmp t => pure (tmps.getD t undef)
    | .cell a' t => do
      let p ← asAddr (tmps.getD a' undef)
      loadVar t p
theorem results_eq (fn : Func) (tmps : Array Value) : results fn tmps = (do
  let vs ← fn.results.mapM (resRun tmps)
  pure (if h : vs.size = 1 then vs[0] else .tuple vs)) := rfl
theorem fin1 {fn : Func} {x : ResultVar} {v : Value} {R : α → Value → List Asn → Prop} {r : α} {e : Exit} (he : e = .normal ∨ e = .ret) (hres : fn.results = #[x]) (h1 : ResOk P w0 n I Γ L x v) (js : List Nat) {L' : List Asn} (hext : ext js L = some L') (hR : R r v L') :
  ∀ a w, Fr n Γ a → St w0 I L w → ∀ o, some r = some o → bodyPost P fn (RetM w0 I (R o)) e a w := by
 intro a w hF hS o ho
 obtain rfl := Option.some.inj ho
 refine bodyPost_end he hF.nod (v := v) ?_ ⟨v, L', rfl, hR, hS.ext js hext⟩
 have h : (resRun a.tmps x).run P w = .ok v w := h1 a w hF hS
 rw [results_eq, hres]
 simp [h]
theorem fin2 {fn : Func} {x y : ResultVar} {v u : Value} {R : α → Value → List Asn → Prop} {r : α} {e : Exit} (he : e = .normal ∨ e = .ret) (hres : fn.results = #[x, y]) (h1 : ResOk P w0 n I Γ L x v) (h2 : ResOk P w0 n I Γ L y u) (js : List Nat) {L' : List Asn} (hext : ext js L = some L') (hR : R r (.tuple #[v, u]) L') :
  ∀ a w, Fr n Γ a → St w0 I L w → ∀ o, some r = some o → bodyPost P fn (RetM w0 I (R o)) e a w := by
 intro a w hF hS o ho
 obtain rfl := Option.some.inj ho
 refine bodyPost_end he hF.nod (v := .tuple #[v, u]) ?_ ⟨_, L', rfl, hR, hS.ext js hext⟩
 have h : (resRun a.tmps x).run P w = .ok v w := h1 a w hF hS
 have h' : (resRun a.tmps y).run P w = .ok u w := h2 a w hF hS
 rw [results_eq, hres]
 simp [Sem.run_bind, h, h']
theorem fin3 {fn : Func} {x y z : ResultVar} {v u t : Value} {R : α → Value → List Asn → Prop} {r : α} {e : Exit} (he : e = .normal ∨ e = .ret) (hres : fn.results = #[x, y, z]) (h1 : ResOk P w0 n I Γ L x v) (h2 : ResOk P w0 n I Γ L y u) (h3 : ResOk P w0 n I Γ L z t) (js : List Nat) {L' : List Asn} (hext : ext js L = some L') (hR : R r (.tuple #[v, u, t]) L') :
  ∀ a w, Fr n Γ a → St w0 I L w → ∀ o, some r = some o → bodyPost P fn (RetM w0 I (R o)) e a w := by
 intro a w hF hS o ho
 obtain rfl := Option.some.inj ho
 refine bodyPost_end he hF.nod (v := .tuple #[v, u, t]) ?_ ⟨_, L', rfl, hR, hS.ext js hext⟩
 have h : (resRun a.tmps x).run P w = .ok v w := h1 a w hF hS
 have h' : (resRun a.tmps y).run P w = .ok u w := h2 a w hF hS
 have h'' : (resRun a.tmps z).run P w = .ok t w := h3 a w hF hS
 rw [results_eq, hres]
 simp [Sem.run_bind, h, h', h'']
theorem fin0 {fn : Func} {R : α → Value → List Asn → Prop} {r : α} {e : Exit} (he : e = .normal ∨ e = .ret) (hres : fn.results = #[]) (js : List Nat) {L' : List Asn} (hext : ext js L = some L') (hR : R r (.tuple #[]) L') :
  ∀ a w, Fr n Γ a → St w0 I L w → ∀ o, some r = some o → bodyPost P fn (RetM w0 I (R o)) e a w := by
 intro a w hF hS o ho
 obtain rfl := Option.some.inj ho
 refine bodyPost_end he hF.nod (v := .tuple #[]) ?_ ⟨_, L', rfl, hR, hS.ext js hext⟩
 simp [results, hres]
theorem St.clear {w0 I L w} (h : St w0 I L w) : St w0 I [] w := ⟨h.below, h.i0, h.iw, [], rfl, by simp, by simp⟩
theorem TC.clear (k : TC P w0 n I Γ [] cs m D) : TC P w0 n I Γ L cs m D := fun a w hF hS o ho => k a w hF hS.clear o ho
theorem TL.extract {x : Operand} {j : Nat} {vs : Array Value} {v : Value} (hg : gd ops Γ ⟨some d, .extract x j, ty, pos, af, g⟩ = some true) (hn : Nat.blt d n = true) (hx : ev Γ x = some (.tuple vs)) (hj : vs[j]? = some v)
  (k : TL P w0 n I ((d, v) :: Γ) L ops os cs m D) : TL P w0 n I Γ L ops (⟨some d, .extract x j, ty, pos, af, g⟩ :: os) cs m D := by
 refine .val hg rfl (by simpa using hn) (fun a w hF _ => run_v ?_) k
 rw [hF.eval hx]
 simp [Instr.extract, hj]
theorem TL.nilCheck {x : Operand} {b o : Nat} (hg : gd ops Γ ⟨some d, .nilCheck x, ty, pos, af, g⟩ = some true) (hn : Nat.blt d n = true) (hx : ev Γ x = some (bp b o))
  (k : TL P w0 n I ((d, bp b o) :: Γ) L ops os cs m D) : TL P w0 n I Γ L ops (⟨some d, .nilCheck x, ty, pos, af, g⟩ :: os) cs m D := by
 refine .val hg rfl (by simpa using hn) (fun a w hF _ => ?_) k
 show Sem.run P (execOp a.eval _) w = _
 unfold execOp
 simp only [hF.eval hx, bp]
 rfl
end
end Go.Sx
namespace Go.Sx
open Go.RowKit
abbrev Post := Exit → Act → World → Prop
def Far (id : Nat) (e : Exit) : Prop := e = .ret ∨ ∃ j, e = .exit j ∧ j ≠ id
def DLoop (w0 : World) (n : Nat) (I : Hp) (id : Nat) {σ γ α : Type} (Γ : σ → γ → Gm) (L : σ → γ → List Asn) (Γb : σ → γ → Gm) (Lb : σ → γ → List Asn) (D : α → Post) : LR σ α → Post
  | .next s => fun e a w => ∃ g, Po w0 n .normal I (Γ s g) (L s g) e a w
  | .brk s => fun e a w => ∃ g, Po w0 n (.exit id) I (Γb s g) (Lb s g) e a w
  | .ret r => fun e a w => D r e a w ∧ Far id e
def DAft (w0 : World) (n : Nat) (I : Hp) (id : Nat) {σ γ α : Type} (Γb : σ → γ → Gm) (Lb : σ → γ → List Asn) (D : α → Post) : LO σ α → Post
  | .brk s => fun e a w => ∃ g, Po w0 n .normal I (Γb s g) (Lb s g) e a w
  | .ret r => fun e a w => D r e a w ∧ Far id e
def DJoin (w0 : World) (n : Nat) (I : Hp) {σ γ α : Type} (Γ : σ → γ → Gm) (L : σ → γ → List Asn) (D : α → Post) : σ ⊕ α → Post
  | .inl s => fun e a w => ∃ g, Po w0 n .normal I (Γ s g) (L s g) e a w
  | .inr o => fun e a w => D o e a w ∧ e ≠ .normal
def DBlk (w0 : World) (n : Nat) (I : Hp) (id : Nat) {σ γ α : Type} (Γ : σ → γ → Gm) (L : σ → γ → List Asn) (D : α → Post) : σ ⊕ α → Post
  | .inl s => fun e a w => ∃ g, (e = .normal ∨ e = .exit id) ∧ Fr n (Γ s g) a ∧ St w0 I (L s g) w
  | .inr o => fun e a w => D o e a w ∧ Far id e
def NoEx (id : Nat) {α : Type} (D : α → Post) : Prop := ∀ o a w, ¬ D o (.exit id) a w
theorem NoEx.body {id : Nat} {α : Type} {P : Program} {fn : Func} {R : α → Ending → World → Prop} : NoEx id (fun o => bodyPost P fn (R o)) := fun _ _ _ h => h
theorem NoEx.loop {id id' : Nat} {α σ γ : Type} {w0 n I} {Γ : σ → γ → Gm} {L : σ → γ → List Asn} {Γb : σ → γ → Gm} {Lb : σ → γ → List Asn} {D : α → Post} (hne : Nat.beq id id' = false) (h : NoEx id D) : NoEx id (DLoop w0 n I id' Γ L Γb Lb D) := by
 intro o a w hd
 cases o with
 | next s => obtain ⟨g, he, _⟩ := hd; cases he
 | brk s => obtain ⟨g, he, _⟩ := hd; injection he with he; subst he; simp at hne
 | ret r => exact h r a w hd.1
theorem NoEx.join {id : Nat} {α σ γ : Type} {w0 n I} {Γ : σ → γ → Gm} {L : σ → γ → List Asn} {D : α → Post} (h : NoEx id D) : NoEx id (DJoin w0 n I Γ L D) := by
 intro o a w hd
 cases o with
 | inl s => obtain ⟨g, he, _⟩ := hd; cases he
 | inr r => exact h r a w hd.1
section
variable {P : Program} {w0 : World} {n : Nat} {I : Hp} {Γ : Gm} {L : List Asn} {cs : List Code} {α : Type} {m : Option α} {D : α → Post} {ops : Array Oper} {os : List Oper} {σ γ : Type}
theorem TC.sel (js : List Nat) {L'} (he : ext js L = some L') (k : TC P w0 n I Γ L' cs m D) : TC P w0 n I Γ L cs m D := fun a w hF hS o ho => k a w hF (hS.ext js he) o ho
theorem TL.sel (js : List Nat) {L'} (he : ext js L = some L') (k : TL P w0 n I Γ L' ops os cs m D) : TL P w0 n I Γ L ops os cs m D := fun a w hF hS o ho => k a w hF (hS.ext js he) o ho
theorem TC.block {id : Nat} {c : Code} (hN : NoEx id D) (k : TC P w0 n I Γ L (c :: cs) m D) : TC P w0 n I Γ L (.block id c :: cs) m D := by
 intro a w hF hS o ho
 refine wp_block (wp_mono (k a w hF hS o ho) ?_)
 intro e a' w' h
 cases e with
 | exit j =>
  have h' : D o (.exit j) a' w' := by cases cs <;> exact h
  by_cases hj : j = id
  ·subst hj; exact absurd h' (hN o a' w')
  simp only [Exit.inBlock, hj, if_false]; exact h
 | _ => exact h
def jn {σ α : Type} (k : σ → Option α) : σ ⊕ α → Option α
  | .inl s => k s
  | .inr o => some o
def ln {σ α : Type} (k : σ → Option α) : LO σ α → Option α
  | .brk s => k s
  | .ret r => some r
theorem DJoin.go {Γ' : σ → γ → Gm} {L' : σ → γ → List Asn} {D' : σ ⊕ α → Post} {k : σ → Option α}
  (hD : ∀ x e a w, D' x e a w → DJoin w0 n I Γ' L' D x e a w)
  (hk : ∀ s g, TC P w0 n I (Γ' s g) (L' s g) cs (k s) D) :
  ∀ (o1 : σ ⊕ α) e a w, D' o1 e a w → ∀ o, jn k o1 = some o → seqs P cs (D o) e a w := by
 intro o1 e a w h o ho
 replace h := hD _ _ _ _ h
 cases o1 with
 | inl s => obtain ⟨g, h⟩ := h; exact Po.go (hk s g) rfl h o ho
 | inr o' => obtain rfl := Option.some.inj ho; exact seqs_exit h.2 h.1
theorem TC.join {c : Code} {m1 : Option (σ ⊕ α)} {k : σ → Option α} {Γ' : σ → γ → Gm} {L' : σ → γ → List Asn}
  (h1 : TC P w0 n I Γ L [c] m1 (DJoin w0 n I Γ' L' D)) (hk : ∀ s g, TC P w0 n I (Γ' s g) (L' s g) cs (k s) D) :
  TC P w0 n I Γ L (c :: cs) (m1.bind (jn k)) D :=
 TC.bind h1 (DJoin.go (fun _ _ _ _ h => h) hk)
def DNrm (w0 : World) (n : Nat) (I : Hp) {σ γ : Type} (Γ : σ → γ → Gm) (L : σ → γ → List Asn) : σ → Post := fun s e a w => ∃ g, Po w0 n .normal I (Γ s g) (L s g) e a w
theorem NoEx.nrm {id : Nat} {w0 n I} {Γ : σ → γ → Gm} {L : σ → γ → List Asn} : NoEx id (DNrm w0 n I Γ L) := by rintro o a w ⟨g, he, _⟩; cases he
theorem TC.join1 {c : Code} {m1 : Option σ} {k : σ → Option α} {Γ' : σ → γ → Gm} {L' : σ → γ → List Asn}
  (h1 : TC P w0 n I Γ L [c] m1 (DNrm w0 n I Γ' L')) (hk : ∀ s g, TC P w0 n I (Γ' s g) (L' s g) cs (k s) D) :
  TC P w0 n I Γ L (c :: cs) (m1.bind k) D :=
 TC.bind h1 fun s e a w h o ho => by obtain ⟨g, h⟩ := h; exact Po.go (hk s g) rfl h o ho
theorem TC.blockJ {id : Nat} {c : Code} {m1 : Option (σ ⊕ α)} {k : σ → Option α} {Γ' : σ → γ → Gm} {L' : σ → γ → List Asn}
  (h1 : TC P w0 n I Γ L [c] m1 (DBlk w0 n I id Γ' L' D)) (hk : ∀ s g, TC P w0 n I (Γ' s g) (L' s g) cs (k s) D) :
  TC P w0 n I Γ L (.block id c :: cs) (m1.bind (jn k)) D := by
 refine TC.join (Γ' := Γ') (L' := L') ?_ hk
 intro a w hF hS o ho
 refine wp_block (wp_mono (h1 a w hF hS o ho) ?_)
 intro e a' w' h
 cases o with
 | inl s =>
  obtain ⟨g, he, hF', hS'⟩ := h
  rcases he with rfl | rfl
  ·exact ⟨g, rfl, hF', hS'⟩
  show Exit.inBlock id _ (.exit id) a' w'
  simp only [Exit.inBlock, if_true]
  exact ⟨g, rfl, hF', hS'⟩
 | inr o =>
  obtain ⟨hD, hf⟩ := h
  rcases hf with rfl | ⟨j, rfl, hj⟩
  ·exact ⟨hD, by simp⟩
  show Exit.inBlock id _ (.exit j) a' w'
  simp only [Exit.inBlock, hj, if_false]
  exact ⟨hD, by simp⟩
theorem TC.loopK {id : Nat} {body : Code} {f : σ → Option (LR σ α)} {k : σ → Option α} {Γ' : σ → γ → Gm} {L' : σ → γ → List Asn} {Γb : σ → γ → Gm} {Lb : σ → γ → List Asn} (s0 : σ) (g0 : γ)
  (hΓ : Sub Γ (Γ' s0 g0)) (js : List Nat) (hL : ext js L = some (L' s0 g0))
  (hb : ∀ s g, TC P w0 n I (Γ' s g) (L' s g) [body] (f s) (DLoop w0 n I id Γ' L' Γb Lb D))
  (hk : ∀ s g, TC P w0 n I (Γb s g) (Lb s g) cs (k s) D) :
  TC P w0 n I Γ L (.block id (.loop body) :: cs) ((Sx.loop f s0).bind (ln k)) D := by
 refine TC.wk hΓ (TC.sel js hL ?_)
 refine TC.bind (TC.loop (R := fun r e a w => D r e a w ∧ Far id e) (Γ := Γ') (L := L') (Γb := Γb) (Lb := Lb) ?_ ?_ s0 g0) ?_
 ·rintro r e a w ⟨_, h⟩; exact h
 ·intro s g a w hF hS o ho
  have := hb s g a w hF hS o ho
  cases o <;> exact this
 intro o1 e a w h o ho
 cases o1 with
 | brk s => obtain ⟨g, h⟩ := h; exact Po.go (hk s g) rfl h o ho
 | ret r =>
  obtain rfl := Option.some.inj ho
  refine seqs_exit ?_ h.1
  rcases h.2 with rfl | ⟨j, rfl, _⟩ <;> simp
inductive LB (σ : Type) where
  | next (s : σ)
  | brk (s : σ)
def LB.lr {σ ρ : Type} : LB σ → LR σ ρ
  | .next s => .next s
  | .brk s => .brk s
def loop1 {σ : Type} (f : σ → Option (LB σ)) (s : σ) : Option σ := match loop (ρ := Empty) (fun s => (f s).map LB.lr) s with
  | some (.brk s) => some s
  | _ => none
def DLoop1 (w0 : World) (n : Nat) (I : Hp) (id : Nat) {σ γ : Type} (Γ : σ → γ → Gm) (L : σ → γ → List Asn) (Γb : σ → γ → Gm) (Lb : σ → γ → List Asn) : LB σ → Post
  | .next s => fun e a w => ∃ g, Po w0 n .normal I (Γ s g) (L s g) e a w
  | .brk s => fun e a w => ∃ g, Po w0 n (.exit id) I (Γb s g) (Lb s g) e a w
theorem NoEx.loop1 {id id' : Nat} {w0 n I} {Γ : σ → γ → Gm} {L : σ → γ → List Asn} {Γb : σ → γ → Gm} {Lb : σ → γ → List Asn} (hne : Nat.beq id id' = false) : NoEx id (DLoop1 w0 n I id' Γ L Γb Lb) := by
 intro o a w hd
 cases o with
 | next s => obtain ⟨g, he, _⟩ := hd; cases he
 | brk s => obtain ⟨g, he, _⟩ := hd; injection he with he; subst he; simp at hne
theorem TC.loop1 {id : Nat} {body : Code} {f : σ → Option (LB σ)} {k : σ → Option α} {Γ' : σ → γ → Gm} {L' : σ → γ → List Asn} {Γb : σ → γ → Gm} {Lb : σ → γ → List Asn} (s0 : σ) (g0 : γ)
  (hΓ : Sub Γ (Γ' s0 g0)) (js : List Nat) (hL : ext js L = some (L' s0 g0))
  (hb : ∀ s g, TC P w0 n I (Γ' s g) (L' s g) [body] (f s) (DLoop1 w0 n I id Γ' L' Γb Lb))
  (hk : ∀ s g, TC P w0 n I (Γb s g) (Lb s g) cs (k s) D) :
  TC P w0 n I Γ L (.block id (.loop body) :: cs) ((Sx.loop1 f s0).bind k) D := by
 intro a w hF hS o ho
 obtain ⟨s1, hs1, hk1⟩ := Option.bind_eq_some_iff.1 ho
 refine TC.loopK (α := α) (f := fun s => (f s).map LB.lr) s0 g0 hΓ js hL (Γb := Γb) (Lb := Lb) (k := k) (D := D) ?_ hk a w hF hS o ?_
 ·intro s g a w hF hS o ho
  obtain ⟨x, hx, rfl⟩ := Option.map_eq_some_iff.1 ho
  have := hb s g a w hF hS x hx
  cases x <;> exact this
 have conv : ∀ k s, loopN (ρ := Empty) (fun s => (f s).map LB.lr) k s = some (.brk s1) → loopN (ρ := α) (fun s => (f s).map LB.lr) k s = some (.brk s1) := by
  intro k
  induction k with
  | zero => intro s h; cases h
  | succ k ih =>
   intro s h
   simp only [loopN] at h ⊢
   cases hf : f s with
   | none => rw [hf] at h; cases h
   | some x =>
    rw [hf] at h
    cases x with
    | next s' => exact ih s' h
    | brk s' =>
     have := Option.some.inj h
     injection this with this
     subst this; rfl
 unfold Sx.loop1 at hs1
 split at hs1
 ·rename_i s' hs'
  obtain rfl := Option.some.inj hs1
  have := conv _ _ hs'
  show Option.bind (loopN _ FUEL s0) _ = some o
  rw [this]; exact hk1
 cases hs1
theorem TC.nrm {Γ' : σ → γ → Gm} {L' : σ → γ → List Asn} (s : σ) (g : γ) (hΓ : Sub Γ (Γ' s g)) (js : List Nat) (hL : ext js L = some (L' s g)) : TC P w0 n I Γ L [] (some s) (DNrm w0 n I Γ' L') :=
 fun _ _ hF hS _ ho => by obtain rfl := Option.some.inj ho; exact ⟨g, rfl, hF.sub hΓ, hS.ext js hL⟩
theorem TC.inl {Γ' : σ → γ → Gm} {L' : σ → γ → List Asn} (s : σ) (g : γ) (hΓ : Sub Γ (Γ' s g)) (js : List Nat) (hL : ext js L = some (L' s g)) : TC P w0 n I Γ L [] (some (.inl s)) (DJoin w0 n I Γ' L' D) :=
 fun _ _ hF hS _ ho => by obtain rfl := Option.some.inj ho; exact ⟨g, rfl, hF.sub hΓ, hS.ext js hL⟩
theorem TC.inlB {id : Nat} {Γ' : σ → γ → Gm} {L' : σ → γ → List Asn} (s : σ) (g : γ) (hΓ : Sub Γ (Γ' s g)) (js : List Nat) (hL : ext js L = some (L' s g)) : TC P w0 n I Γ L [] (some (.inl s)) (DBlk w0 n I id Γ' L' D) :=
 fun _ _ hF hS _ ho => by obtain rfl := Option.some.inj ho; exact ⟨g, .inl rfl, hF.sub hΓ, hS.ext js hL⟩
theorem TC.exB {id : Nat} {Γ' : σ → γ → Gm} {L' : σ → γ → List Asn} (s : σ) (g : γ) (hΓ : Sub Γ (Γ' s g)) (js : List Nat) (hL : ext js L = some (L' s g)) : TC P w0 n I Γ L (.exit id :: cs) (some (.inl s)) (DBlk w0 n I id Γ' L' D) :=
 TC.exit fun _ _ hF hS _ ho => by obtain rfl := Option.some.inj ho; exact ⟨g, .inr rfl, hF.sub hΓ, hS.ext js hL⟩
theorem TC.next {id : Nat} {Γ' : σ → γ → Gm} {L' : σ → γ → List Asn} {Γb : σ → γ → Gm} {Lb : σ → γ → List Asn} (s : σ) (g : γ) (hΓ : Sub Γ (Γ' s g)) (js : List Nat) (hL : ext js L = some (L' s g)) : TC P w0 n I Γ L [] (some (.next s)) (DLoop w0 n I id Γ' L' Γb Lb D) :=
 fun _ _ hF hS _ ho => by obtain rfl := Option.some.inj ho; exact ⟨g, rfl, hF.sub hΓ, hS.ext js hL⟩
theorem TC.brk {id : Nat} {Γ' : σ → γ → Gm} {L' : σ → γ → List Asn} {Γb : σ → γ → Gm} {Lb : σ → γ → List Asn} (s : σ) (g : γ) (hΓ : Sub Γ (Γb s g)) (js : List Nat) (hL : ext js L = some (Lb s g)) : TC P w0 n I Γ L (.exit id :: cs) (some (.brk s)) (DLoop w0 n I id Γ' L' Γb Lb D) :=
 TC.exit fun _ _ hF hS _ ho => by obtain rfl := Option.some.inj ho; exact ⟨g, rfl, hF.sub hΓ, hS.ext js hL⟩
theorem TC.next1 {id : Nat} {Γ' : σ → γ → Gm} {L' : σ → γ → List Asn} {Γb : σ → γ → Gm} {Lb : σ → γ → List Asn} (s : σ) (g : γ) (hΓ : Sub Γ (Γ' s g)) (js : List Nat) (hL : ext js L = some (L' s g)) : TC P w0 n I Γ L [] (some (.next s)) (DLoop1 w0 n I id Γ' L' Γb Lb) :=
 fun _ _ hF hS _ ho => by obtain rfl := Option.some.inj ho; exact ⟨g, rfl, hF.sub hΓ, hS.ext js hL⟩
theorem TC.brk1 {id : Nat} {Γ' : σ → γ → Gm} {L' : σ → γ → List Asn} {Γb : σ → γ → Gm} {Lb : σ → γ → List Asn} (s : σ) (g : γ) (hΓ : Sub Γ (Γb s g)) (js : List Nat) (hL : ext js L = some (Lb s g)) : TC P w0 n I Γ L (.exit id :: cs) (some (.brk s)) (DLoop1 w0 n I id Γ' L' Γb Lb) :=
 TC.exit fun _ _ hF hS _ ho => by obtain rfl := Option.some.inj ho; exact ⟨g, rfl, hF.sub hΓ, hS.ext js hL⟩
def Fin (w0 : World) (n : Nat) (I : Hp) (Γ : Gm) (L : List Asn) (e : Exit) (r : α) (D : α → Post) : Prop := ∀ a w, Fr n Γ a → St w0 I L w → D r e a w
theorem Fin.loop {id : Nat} {e : Exit} {r : α} {Γ' : σ → γ → Gm} {L' : σ → γ → List Asn} {Γb : σ → γ → Gm} {Lb : σ → γ → List Asn} (hf : Far id e) (h : Fin w0 n I Γ L e r D) : Fin w0 n I Γ L e (LR.ret r) (DLoop w0 n I id Γ' L' Γb Lb D) := fun a w hF hS => ⟨h a w hF hS, hf⟩
theorem Fin.join {e : Exit} {r : α} {Γ' : σ → γ → Gm} {L' : σ → γ → List Asn} (hf : e ≠ .normal) (h : Fin w0 n I Γ L e r D) : Fin w0 n I Γ L e (Sum.inr r) (DJoin w0 n I Γ' L' D) := fun a w hF hS => ⟨h a w hF hS, hf⟩
theorem Fin.body {fn : Func} {R : α → Value → List Asn → Prop} {r : α} {e : Exit} (h : ∀ a w, Fr n Γ a → St w0 I L w → ∀ o, some r = some o → bodyPost P fn (RetM w0 I (R o)) e a w) : Fin w0 n I Γ L e r (fun o => bodyPost P fn (RetM w0 I (R o))) := fun a w hF hS => h a w hF hS r rfl
theorem Fin.brk {id : Nat} {Γ' : σ → γ → Gm} {L' : σ → γ → List Asn} {Γb : σ → γ → Gm} {Lb : σ → γ → List Asn} (s : σ) (g : γ) (hΓ : Sub Γ (Γb s g)) (js : List Nat) (hL : ext js L = some (Lb s g)) : Fin w0 n I Γ L (.exit id) (LR.brk s) (DLoop w0 n I id Γ' L' Γb Lb D) :=
 fun _ _ hF hS => ⟨g, rfl, hF.sub hΓ, hS.ext js hL⟩
theorem Fin.exB {id : Nat} {Γ' : σ → γ → Gm} {L' : σ → γ → List Asn} (s : σ) (g : γ) (hΓ : Sub Γ (Γ' s g)) (js : List Nat) (hL : ext js L = some (L' s g)) : Fin w0 n I Γ L (.exit id) (Sum.inl s) (DBlk w0 n I id Γ' L' D) :=
 fun _ _ hF hS => ⟨g, .inr rfl, hF.sub hΓ, hS.ext js hL⟩
theorem TC.retF {r : α} (h : Fin w0 n I Γ L .ret r D) : TC P w0 n I Γ L (.ret :: cs) (some r) D :=
 TC.ret fun a w hF hS o ho => by obtain rfl := Option.some.inj ho; exact h a w hF hS
theorem TC.nilF {r : α} (h : Fin w0 n I Γ L .normal r D) : TC P w0 n I Γ L [] (some r) D :=
 fun a w hF hS o ho => by obtain rfl := Option.some.inj ho; exact h a w hF hS
theorem Fin.sel {e : Exit} {r : α} (js : List Nat) {L'} (he : ext js L = some L') (h : Fin w0 n I Γ L' e r D) : Fin w0 n I Γ L e r D := fun a w hF hS => h a w hF (hS.ext js he)
theorem Far.ret {id : Nat} : Far id .ret := .inl rfl
theorem Far.exit {id j : Nat} (h : Nat.beq j id = false) : Far id (.exit j) := .inr ⟨j, rfl, fun e => by subst e; simp at h⟩
theorem wpList_append {Q : Post} : ∀ (xs ys : List Oper) (a : Act) (w : World),
  wpList P ops (fun e a w => match e with | .normal => wpList P ops Q ys a w | e => Q e a w) xs a w → wpList P ops Q (xs ++ ys) a w := by
 intro xs
 induction xs with
 | nil => intro ys a w h; exact h
 | cons o xs ih =>
  intro ys a w h
  have hQ : ∀ {K : Act → World → Prop}, o.wp P a w K (fun e a w => match e with | .normal => wpList P ops Q ys a w | e => Q e a w) → o.wp P a w K Q := by
   intro K hh
   unfold Oper.wp at *
   generalize (execOp a.eval o).run P w = r at *
   cases r with
   | ok nx w' =>
    cases nx <;> simp only [Oper.upon] at hh ⊢ <;>
     first
      | exact hh
      | (refine Calls.mono hh (fun e w'' he => ?_); cases e <;> exact he)
   | halt x w' => cases x <;> simp only [Oper.upon] at hh ⊢ <;> exact hh
  simp only [wpList, List.cons_append] at h ⊢
  split
  ·rename_i hw
   rw [if_pos hw] at h
   rcases h with h | ⟨h1, a0, w1, h2⟩
   ·exact .inl (Oper.wp_mono (ih ys) (hQ h))
   exact .inr ⟨h1, a0, w1, h2⟩
  rename_i hw
  rw [if_neg hw] at h
  exact ih ys _ _ h
theorem TL.cut (k : Nat) {β : Type} {m1 : Option β} {kk : β → Option α} {D1 : β → Post}
  (h1 : TL P w0 n I Γ L ops (os.take k) [] m1 D1)
  (h2 : ∀ o1 e a w, D1 o1 e a w → e = .normal ∧ ∀ o, kk o1 = some o → wpList P ops (seqs P cs (D o)) (os.drop k) a w) :
  TL P w0 n I Γ L ops os cs (m1.bind kk) D := by
 intro a w hF hS o ho
 obtain ⟨o1, ho1, ho2⟩ := Option.bind_eq_some_iff.1 ho
 rw [← List.take_append_drop k os]
 refine wpList_append _ _ _ _ ?_
 have := h1 a w hF hS o1 ho1
 simp only [seqs] at this
 refine wpList_monoQ ?_ _ _ _ this
 intro e a w h
 obtain ⟨rfl, h'⟩ := h2 o1 e a w h
 exact h' o ho2
where
  wpList_monoQ {P : Program} {ops : Array Oper} {Q Q' : Post} (hQ : ∀ e a w, Q e a w → Q' e a w) : ∀ (xs : List Oper) (a : Act) (w : World), wpList P ops Q xs a w → wpList P ops Q' xs a w := by
    intro xs
    induction xs with
    | nil => intro a w h; exact hQ _ _ _ h
    | cons o xs ih =>
      intro a w h
      have hK : ∀ {K : Act → World → Prop}, o.wp P a w K Q → o.wp P a w K Q' := by
        intro K hh
        unfold Oper.wp at *
        generalize (execOp a.eval o).run P w = r at *
        cases r with
        | ok nx w' =>
          cases nx <;> simp only [Oper.upon] at hh ⊢ <;>
            first
              | exact hh
              | (refine Calls.mono hh (fun e w'' he => ?_); cases e <;> first | exact he | exact hQ _ _ _ he | (obtain ⟨a, w, h⟩ := he; exact ⟨a, w, hQ _ _ _ h⟩))
        | halt x w' => cases x <;> simp only [Oper.upon] at hh ⊢ <;> first | exact hh | exact hQ _ _ _ hh
      simp only [wpList] at h ⊢
      split
      · rename_i hw
        rw [if_pos hw] at h
        rcases h with h | ⟨h1, a0, w1, h2⟩
        · exact .inl (Oper.wp_mono ih (hK h))
        · exact .inr ⟨h1, a0, w1, hQ _ _ _ h2⟩
      · rename_i hw
        rw [if_neg hw] at h
        exact ih _ _ h
theorem TL.cutJ (k : Nat) {m1 : Option σ} {kk : σ → Option α} {Γ' : σ → γ → Gm} {L' : σ → γ → List Asn}
  (h1 : TL P w0 n I Γ L ops (os.take k) [] m1 (DNrm w0 n I Γ' L'))
  (h2 : ∀ s g, TL P w0 n I (Γ' s g) (L' s g) ops (os.drop k) cs (kk s) D) : TL P w0 n I Γ L ops os cs (m1.bind kk) D :=
 TL.cut k h1 fun s e a w h => by obtain ⟨g, rfl, hF, hS⟩ := h; exact ⟨rfl, fun o ho => h2 s g a w hF hS o ho⟩
theorem TL.cutU (k : Nat) (Γ' : Gm) (L' : List Asn)
  (h1 : TL P w0 n I Γ L ops (os.take k) [] (some ()) (DNrm w0 n I (fun (_ : Unit) (_ : Unit) => Γ') (fun _ _ => L')))
  (h2 : TL P w0 n I Γ' L' ops (os.drop k) cs m D) : TL P w0 n I Γ L ops os cs m D := by
 intro a w hF hS o ho
 exact TL.cut k (kk := fun _ => m) h1 (fun s e a w h => by obtain ⟨g, rfl, hF, hS⟩ := h; exact ⟨rfl, fun o ho => h2 a w hF hS o ho⟩) a w hF hS o ho
theorem TL.ifb {t : Nat} {b : Bool} {m1 m2 : Option α} (hl : lk Γ t = some (.bool b))
  (k1 : b = true → TL P w0 n I ((t, .bool true) :: Γ) L ops os cs m1 D) (k2 : b = false → TL P w0 n I ((t, .bool false) :: Γ) L ops os cs m2 D) :
  TL P w0 n I Γ L ops os cs (bif b then m1 else m2) D := by
 intro a w hF hS o ho
 cases b with
 | true => exact k1 rfl a w ⟨hF.size, hF.nod, fun t' v' h' => by
   simp only [lk] at h'
   cases hb : Nat.beq t t' with
   | true => rw [hb] at h'; obtain rfl := Nat.eq_of_beq_eq_true hb; obtain rfl := Option.some.inj h'; exact hF.has _ _ hl
   | false => rw [hb] at h'; exact hF.has _ _ h'⟩ hS o ho
 | false => exact k2 rfl a w ⟨hF.size, hF.nod, fun t' v' h' => by
   simp only [lk] at h'
   cases hb : Nat.beq t t' with
   | true => rw [hb] at h'; obtain rfl := Nat.eq_of_beq_eq_true hb; obtain rfl := Option.some.inj h'; exact hF.has _ _ hl
   | false => rw [hb] at h'; exact hF.has _ _ h'⟩ hS o ho
theorem TL.cases {t : Nat} {b : Bool} (hl : lk Γ t = some (.bool b))
  (k1 : b = true → TL P w0 n I ((t, .bool true) :: Γ) L ops os cs m D) (k2 : b = false → TL P w0 n I ((t, .bool false) :: Γ) L ops os cs m D) :
  TL P w0 n I Γ L ops os cs m D := by
 intro a w hF hS o ho
 refine TL.ifb (m1 := m) (m2 := m) hl k1 k2 a w hF hS o ?_
 cases b <;> exact ho
end
end Go.Sx
namespace Go.Sx
open Go.RowKit
section
variable {P : Program} {w0 : World} {n : Nat} {I : Hp} {Γ : Gm} {L : List Asn} {cs : List Code} {α : Type} {m : Option α} {D : α → Post} {ops : Array Oper} {os : List Oper}
variable {d : Nat} {ty : TypeId} {pos : String} {af : Array Edge} {g : Option (Nat × Bool)}
theorem TL.ixstr {T : TypeId} {x ix : Operand} {s : Str} {kd : IntKind} (i : Int) (hb : 0 ≤ i ∧ i < s.length) (hT : P.underlying T = some .string)
  (hg : gd ops Γ ⟨some d, .index T x ix, ty, pos, af, g⟩ = some true) (hn : Nat.blt d n = true) (hx : ev Γ x = some (strv s)) (hi : ev Γ ix = some (.int kd i))
  (k : TL P w0 n I ((d, u8v (gt s i)) :: Γ) L ops os cs m D) : TL P w0 n I Γ L ops (⟨some d, .index T x ix, ty, pos, af, g⟩ :: os) cs m D := by
 refine .val hg rfl (by simpa using hn) (fun a w hF _ => run_v ?_) k
 rw [hF.eval hx, hF.eval hi]
 have h1 : (ByteArray.mk s.toArray)[i.toNat]? = some (gt s i) := by
  have hlt : i.toNat < (ByteArray.mk s.toArray).size := by show i.toNat < s.toArray.size; simp; omega
  rw [getElem?_pos (ByteArray.mk s.toArray) i.toNat hlt]
  have := gt_spec hb
  have h2 : s.toArray[i.toNat]? = some (gt s i) := by simpa using this
  have h3 : (ByteArray.mk s.toArray)[i.toNat] = s.toArray[i.toNat]'hlt := rfl
  rw [h3]
  rw [← h2]; simp
 simp [Instr.index, strv, Sem.run_bind, run_underlying hT, asIntOf, hb.1, h1, u8v]
theorem setCell_heap {w : World} {b o : Nat} {cs : Array Value} {T : TypeId} {fr : Nat × Nat} {v : Value} (h : w.heap[b]? = some (.cells cs T fr)) : (w.setCell ⟨b, o, none⟩ v).heap[b]? = some (.cells (cs.setIfInBounds o v) T fr) := by
 simp [World.setCell, Array.getElem?_modify, h]
theorem setCell_rest {w : World} {b o k : Nat} {v : Value} (h : k ≠ b) : (w.setCell ⟨b, o, none⟩ v).heap[k]? = w.heap[k]? := Below.heap_setCell w ⟨b, o, none⟩ v k h
theorem setRow_rest {w : World} {b k : Nat} {c : Array Value} (h : k ≠ b) : (w.setRow b c).heap[k]? = w.heap[k]? := setRow_other w b k c h
theorem run_storeVar1 {T : TypeId} {w : World} {b o : Nat} {cs : Array Value} {T' : TypeId} {v : Value} (hz : (sizeOf T).run P w = .ok 1 w) (hc : v.cells = #[v]) (h1 : v.oneCell' = true) (h : w.heap[b]? = some (.cells cs T' (0, 0))) (ho : o < cs.size) :
  (storeVar T ⟨b, o, none⟩ v).run P w = .ok () (w.setCell ⟨b, o, none⟩ v) := by
 have hcell : w.cell? ⟨b, o, none⟩ = some cs[o] := by simp [cell_at h, ho]
 have hfro : w.frozen? ⟨b, o, none⟩ = false := by simp [World.frozen?, h]
 have hst : (store (⟨b, o, none⟩ : Addr) v).run P w = .ok () (w.setCell ⟨b, o, none⟩ v) := by
  rw [run_store P w _ v _ h1, hcell]; simp [hfro]
 have hadd : (⟨b, o, none⟩ : Addr).add 0 = ⟨b, o, none⟩ := add_none b o 0
 simp [storeVar, Sem.run_bind, hz, hc, storeCells, hadd, hst]
theorem run_storeVarN {T : TypeId} {w : World} {b o M : Nat} {cs : Array Value} {T' : TypeId} {vs : List Value} (hz : (sizeOf T).run P w = .ok M w) (hM : vs.length = M) (h1 : ∀ v ∈ vs, v.oneCell' = true) (h : w.heap[b]? = some (.cells cs T' (0, 0))) (ho : o + M ≤ cs.size) :
  (storeVar T ⟨b, o, none⟩ (.agg vs.toArray)).run P w = .ok () (w.setRow b (cs.toList.take o ++ vs ++ cs.toList.drop (o + M)).toArray) := by
 have := run_storeCells_at P b o T' vs 0 cs w h (by omega) h1
 rw [hM] at this
 simp only [Nat.add_zero] at this
 simp [storeVar, Sem.run_bind, hz, Value.cells, hM, this]
theorem St.store1 {w : World} {b o : Nat} {T : TypeId} {segs segs' : List Seg} {v : Value} (hS : St w0 I L w) (i : Nat) (hi : L[i]? = some (box b T segs)) (he : (flat segs).set o v = flat segs') : St w0 I (L.set i (box b T segs')) (w.setCell ⟨b, o, none⟩ v) := by
 refine hS.turn hi ?_ rfl rfl rfl (by simp [World.setCell])
 intro ρA hA hh
 simp only [box] at hA; subst hA
 have hb := hh _ (List.mem_singleton.2 rfl)
 refine ⟨[(b, .cells (flat segs').toArray T (0, 0))], rfl, rfl, ?_, ?_⟩
 ·intro p hp'
  obtain rfl := List.mem_singleton.1 hp'
  rw [setCell_heap hb, ← he]
  simp
 intro k hk
 exact setCell_rest (by simpa using hk)
theorem St.storeN {w : World} {b : Nat} {T : TypeId} {segs segs' : List Seg} {cells : List Value} (hS : St w0 I L w) (i : Nat) (hi : L[i]? = some (box b T segs)) (he : cells = flat segs') : St w0 I (L.set i (box b T segs')) (w.setRow b cells.toArray) := by
 subst he
 refine hS.turn hi ?_ rfl rfl rfl (by simp [World.setRow])
 intro ρA hA hh
 simp only [box] at hA; subst hA
 have hb := hh _ (List.mem_singleton.2 rfl)
 refine ⟨[(b, .cells (flat segs').toArray T (0, 0))], rfl, rfl, ?_, ?_⟩
 ·intro p hp'
  obtain rfl := List.mem_singleton.1 hp'
  exact setRow_heap w b _ _ T _ hb
 intro k hk
 exact setRow_rest (by simpa using hk)
theorem St.boxAt {w : World} {b : Nat} {T : TypeId} {segs : List Seg} (hS : St w0 I L w) (i : Nat) (hi : L[i]? = some (box b T segs)) : w.heap[b]? = some (.cells (flat segs).toArray T (0, 0)) := by
 obtain ⟨ρA, hA, hh⟩ := hS.get hi
 simp only [box] at hA; subst hA
 exact hh _ (List.mem_singleton.2 rfl)
theorem run_u {s : Sem Unit} {w w' : World} (h : s.run P w = .ok () w') : (do s; pure Next.skip : Sem Next).run P w = .ok .skip w' := by
 show (Sem.bind s _).run P w = _
 rw [show (Sem.bind s fun _ => (pure Next.skip : Sem Next)) = (s >>= fun _ => pure Next.skip) from rfl, Sem.run_bind, h]
 rfl
theorem TL.st1 {T T' : TypeId} {x y : Operand} {b o : Nat} {u v : Value} {segs : List Seg} (i j : Nat) (hi : L[i]? = some (Sx.box b T' segs)) (hz : ∀ w, (sizeOf T).run P w = .ok 1 w)
  (hj : segs[j]? = some (.one u)) (ho : soff segs j = o) (hc : v.cells = #[v]) (h1 : v.oneCell' = true) (hg : gd ops Γ ⟨none, .store T x y, ty, pos, af, g⟩ = some true) (hx : ev Γ x = some (bp b o)) (hy : ev Γ y = some v)
  (k : TL P w0 n I Γ (L.set i (Sx.box b T' (segs.set j (.one v)))) ops os cs m D) : TL P w0 n I Γ L ops (⟨none, .store T x y, ty, pos, af, g⟩ :: os) cs m D := by
 refine .skipW hg rfl (fun a w hF hS => ?_) k
 have hb := hS.boxAt i hi
 refine ⟨_, ?_, hS.store1 i hi (flat_set_one hj v)⟩
 refine run_u ?_
 rw [hF.eval hx, hF.eval hy]
 simp only [Instr.storeAt, bp, Instr.sureAddr, Sem.run_bind, Sem.run_pure, Result.andThen_ok]
 rw [← ho]
 have h2 := flat_get_one hj
 exact run_storeVar1 (hz w) hc h1 hb (by rw [List.size_toArray]; exact (List.getElem?_eq_some_iff.1 h2).1)
theorem TL.stA {β : Type} {e : β → Value} {t : Nat → β} {T T' : TypeId} {x y : Operand} {b N : Nat} {z : β} {segs : List Seg} (i j q : Nat) (hi : L[i]? = some (Sx.box b T' segs)) (hz : ∀ w, (sizeOf T).run P w = .ok 1 w)
  (hj : segs[j]? = some (.arr N (enf e t))) (hq : q < N) {s o : Nat} (hs : soff segs j = s) (ho : o = s + q) (hc : (e z).cells = #[e z]) (h1 : (e z).oneCell' = true) (hg : gd ops Γ ⟨none, .store T x y, ty, pos, af, g⟩ = some true) (hx : ev Γ x = some (bp b o)) (hy : ev Γ y = some (e z))
  (k : TL P w0 n I Γ (L.set i (Sx.box b T' (segs.set j (.arr N (enf e (upd t q z)))))) ops os cs m D) : TL P w0 n I Γ L ops (⟨none, .store T x y, ty, pos, af, g⟩ :: os) cs m D := by
 subst hs
 refine .skipW hg rfl (fun a w hF hS => ?_) k
 have hb := hS.boxAt i hi
 refine ⟨_, ?_, hS.store1 i hi (flat_set_arr hj hq z)⟩
 refine run_u ?_
 rw [hF.eval hx, hF.eval hy]
 simp only [Instr.storeAt, bp, Instr.sureAddr, Sem.run_bind, Sem.run_pure, Result.andThen_ok]
 rw [ho]
 have h2 := flat_get_arr hj hq
 exact run_storeVar1 (hz w) hc h1 hb (by rw [List.size_toArray]; exact (List.getElem?_eq_some_iff.1 h2).1)
theorem TL.stM {T T' : TypeId} {x y : Operand} {b M : Nat} {segs news : List Seg} (i j c : Nat) (hi : L[i]? = some (Sx.box b T' segs)) (hz : ∀ w, (sizeOf T).run P w = .ok M w) (h1 : ones news)
  (hl : slen news = slen ((segs.drop j).take c)) (hM : slen news = M) {o : Nat} (ho : o = soff segs j) (hg : gd ops Γ ⟨none, .store T x y, ty, pos, af, g⟩ = some true) (hx : ev Γ x = some (bp b o)) (hy : ev Γ y = some (sval news))
  (k : TL P w0 n I Γ (L.set i (Sx.box b T' (segs.take j ++ news ++ segs.drop (j + c)))) ops os cs m D) : TL P w0 n I Γ L ops (⟨none, .store T x y, ty, pos, af, g⟩ :: os) cs m D := by
 subst hM
 refine .skipW hg rfl (fun a w hF hS => ?_) k
 have hb := hS.boxAt i hi
 refine ⟨_, ?_, hS.storeN i hi (flat_splice_mid segs news j c hl)⟩
 refine run_u ?_
 rw [hF.eval hx, hF.eval hy]
 simp only [Instr.storeAt, bp, Instr.sureAddr, Sem.run_bind, Sem.run_pure, Result.andThen_ok]
 rw [ho]
 refine run_storeVarN (hz w) (flat_length _) h1 hb ?_
 rw [List.size_toArray, flat_length, hl]; exact soff_le _ _ _
theorem encs_set {β : Type} (E : FE β) : ∀ (ys : List β) (i : Nat) (y : β), i < ys.length → encs E (ys.set i y) = (encs E ys).take (i * E.sz) ++ E.enc y ++ (encs E ys).drop (i * E.sz + E.sz)
 | [], i, y, h => by simp at h
 | z :: ys, 0, y, _ => by
  simp only [encs, List.set_cons_zero, List.flatMap_cons, Nat.zero_mul, List.take_zero, List.nil_append, Nat.zero_add]
  rw [← E.len z, List.drop_left]
 | z :: ys, i + 1, y, h => by
  have ih := encs_set E ys i y (by simpa using h)
  simp only [encs, List.set_cons_succ, List.flatMap_cons] at ih ⊢
  rw [ih, show (i + 1) * E.sz = (E.enc z).length + i * E.sz by rw [E.len, Nat.add_mul]; omega, List.take_length_add_append, Nat.add_assoc, List.drop_length_add_append]
  simp
theorem TL.stE {β : Type} {E : FE β} {T T' : TypeId} {x y : Operand} {s : SV} {ys : List β} (i q : Nat) (z : β) {v : Value} (hi : L[i]? = some (row E T' s ys)) (hz : ∀ w, (sizeOf T).run P w = .ok 1 w) (hE : E.sz = 1) (hv : E.enc z = [v]) (hc : v.cells = #[v])
  (hq : q < ys.length) {o : Nat} (ho : o = q * E.sz) (hg : gd ops Γ ⟨none, .store T x y, ty, pos, af, g⟩ = some true) (hx : ev Γ x = some (ep s o)) (hy : ev Γ y = some v)
  (k : TL P w0 n I Γ (L.set i (row E T' s (ys.set q z))) ops os cs m D) : TL P w0 n I Γ L ops (⟨none, .store T x y, ty, pos, af, g⟩ :: os) cs m D := by
 refine .skipW hg rfl (fun a w hF hS => ?_) k
 obtain ⟨ρA, hA, hh⟩ := hS.get hi
 have h1 : v.oneCell' = true := E.one z v (by rw [hv]; exact List.mem_singleton.2 rfl)
 rcases hA with ⟨rfl, rfl, rfl⟩ | ⟨b, p, cap, cur, rfl, rfl, h2, h3, h4, h5⟩
 ·simp at hq
 have hb := hh _ (List.mem_singleton.2 rfl)
 have hoq : o = q := by rw [ho, hE, Nat.mul_one]
 have hsz : p + o < cur.size := by rw [hE] at h4; omega
 refine ⟨w.setCell ⟨b, p + o, none⟩ v, ?_, ?_⟩
 ·refine run_u ?_
  rw [hF.eval hx, hF.eval hy]
  simp only [Instr.storeAt, ep, add_none, Instr.sureAddr, Sem.run_bind, Sem.run_pure, Result.andThen_ok]
  exact run_storeVar1 (hz w) hc h1 hb hsz
 refine hS.turn hi ?_ rfl rfl rfl (by simp [World.setCell])
 intro ρB hB hhB
 rcases hB with ⟨hB, _⟩ | ⟨b', p', cap', cur', hs', rfl, _, _, _, _⟩
 ·cases hB
 injection hs' with hs1 hs2 hs3
 injection hs1 with hs1
 injection hs1 with hs1 hs4
 subst hs1 hs3 hs4
 have hb' := hhB _ (List.mem_singleton.2 rfl)
 rw [hb] at hb'
 injection hb' with hb'
 injection hb' with hb'
 subst hb'
 refine ⟨[(b, .cells (cur.setIfInBounds (p + o) v) T' (0, 0))], .inr ⟨b, p, cap, _, by rw [List.length_set], rfl, by rw [List.length_set]; exact h2, h3, by simpa using h4, ?_⟩, rfl, ?_, ?_⟩
 ·rw [List.length_set, encs_set E ys q z hq, ← h5, hv, Array.toList_setIfInBounds, List.drop_set, if_neg (by omega), Nat.add_sub_cancel_left, List.take_set, ho, hE, Nat.mul_one, Nat.mul_one]
  have hlen : q < (List.take ys.length (List.drop p cur.toList)).length := by rw [hE] at h4; simp; omega
  rw [List.set_eq_take_append_cons_drop, if_pos hlen]
  simp
 ·intro r hr
  obtain rfl := List.mem_singleton.1 hr
  exact setCell_heap hb
 intro k hk
 exact setCell_rest (by simpa using hk)
end
end Go.Sx
namespace Go.Sx
open Go.RowKit
def small {α : Type} (n : Nat) (k : Option α) : Option α := if n ≤ 1099511627776 then k else none
def SV.cut (s : SV) (l h c sz : Nat) : SV := ⟨if c = l then s.a else s.a.map (·.add (l * sz)), h - l, c - l⟩
theorem encs_drop {β : Type} (E : FE β) : ∀ (ys : List β) (l : Nat), encs E (ys.drop l) = (encs E ys).drop (l * E.sz)
 | ys, 0 => by simp
 | [], l + 1 => by simp [encs]
 | y :: ys, l + 1 => by
  have ih := encs_drop E ys l
  rw [List.drop_succ_cons, ih, show (l + 1) * E.sz = (E.enc y).length + l * E.sz by rw [E.len, Nat.add_mul]; omega]
  simp only [encs, List.flatMap_cons, List.drop_length_add_append]
theorem encs_take {β : Type} (E : FE β) : ∀ (ys : List β) (l : Nat), l ≤ ys.length → encs E (ys.take l) = (encs E ys).take (l * E.sz)
 | ys, 0, _ => by simp [encs]
 | [], l + 1, h => by simp at h
 | y :: ys, l + 1, h => by
  have ih := encs_take E ys l (by simpa using h)
  rw [List.take_succ_cons, show (l + 1) * E.sz = (E.enc y).length + l * E.sz by rw [E.len, Nat.add_mul]; omega]
  simp only [encs, List.flatMap_cons] at ih ⊢
  rw [ih, List.take_length_add_append]
theorem Reads.cut {β : Type} {E : FE β} {I : Hp} {s : SV} {ys : List β} (hr : Reads E I s ys) {l h c : Nat} (h1 : l ≤ h) (h2 : h ≤ ys.length) (h3 : h ≤ c) (h4 : c ≤ s.c) : Reads E I (s.cut l h c E.sz) ((ys.drop l).take (h - l)) := by
 obtain ⟨r0, r1, r2, r3⟩ := hr
 have hlen : ((ys.drop l).take (h - l)).length = h - l := by simp; omega
 refine ⟨by rw [hlen]; rfl, by simp only [SV.cut]; omega, by simp only [SV.cut]; omega, ?_⟩
 rcases r3 with rfl | ⟨b, o, cs, T, fr, ha, hb, hc⟩
 ·simp at h2; left; simp
 by_cases hcl : c = l
 ·left
  have : h - l = 0 := by omega
  rw [this]; simp
 right
 refine ⟨b, o + l * E.sz, cs, T, fr, by simp [SV.cut, hcl, ha, add_none], hb, ?_⟩
 intro j u hu
 rw [encs_take _ _ _ (by simp; omega), encs_drop, List.getElem?_take] at hu
 split at hu
 ·rw [List.getElem?_drop] at hu
  have := hc _ u hu
  rwa [← Nat.add_assoc] at this
 cases hu
section
variable {P : Program} {w0 : World} {n : Nat} {I : Hp} {Γ : Gm} {L : List Asn} {cs : List Code} {α : Type} {m : Option α} {D : α → Post} {ops : Array Oper} {os : List Oper}
variable {d : Nat} {ty : TypeId} {pos : String} {af : Array Edge} {g : Option (Nat × Bool)}
theorem TL.small {k : Nat} (kk : k ≤ 1099511627776 → TL P w0 n I Γ L ops os cs m D) : TL P w0 n I Γ L ops os cs (Sx.small k m) D := by
 intro a w hF hS r hr
 unfold Sx.small at hr
 split at hr
 ·rename_i hb
  exact kk hb a w hF hS r hr
 cases hr
theorem Rd.cut {β : Type} {E : FE β} {s : SV} {ys : List β} (hr : Rd w0 I L E s ys) {l h : Nat} (h1 : l ≤ h) (h2 : h ≤ ys.length) : Rd w0 I L E (s.cut l h s.c E.sz) ((ys.drop l).take (h - l)) := fun w hS =>
 (hr w hS).cut h1 h2 (by obtain ⟨r0, r1, _⟩ := hr w hS; omega) (Nat.le_refl _)
def bnd (Γ : Gm) : Option Operand → Option (Option Int)
  | none => some none
  | some x => match ev Γ x with
    | some (.int _ i) => some (some i)
    | _ => none
theorem bnd_spec {Γ a x r} (hF : Fr n Γ a) (h : bnd Γ x = some r) : (x.map a.eval = none ∧ r = none) ∨ ∃ k i, x.map a.eval = some (.int k i) ∧ r = some i := by
 cases x with
 | none => simp only [bnd, Option.some.injEq] at h; exact .inl ⟨rfl, h.symm⟩
 | some x =>
  simp only [bnd] at h
  split at h
  ·rename_i k i hx
   obtain rfl := Option.some.inj h
   exact .inr ⟨k, i, by simp [hF.eval hx], rfl⟩
  cases h
theorem TL.slice {T e : TypeId} {x : Operand} {lo hi : Option Operand} {s : SV} {β : Type} {E : FE β} {ys : List β} (li hi' : Option Int) (l h : Nat) (hr : Rd w0 I L E s ys) (hT : P.underlying T = some (.slice e)) (hz : ∀ w, (sizeOf e).run P w = .ok E.sz w)
  (hlo : bnd Γ lo = some li) (hhi : bnd Γ hi = some hi') (hl : (li.getD 0) = (l : Int)) (hh : (hi'.getD (ys.length : Int)) = (h : Int)) (h1 : l ≤ h) (h2 : h ≤ ys.length)
  (hg : gd ops Γ ⟨some d, .slice T x lo hi none, ty, pos, af, g⟩ = some true) (hn : Nat.blt d n = true) (hx : ev Γ x = some s.v)
  (k : TL P w0 n I ((d, (s.cut l h s.c E.sz).v) :: Γ) L ops os cs m D) : TL P w0 n I Γ L ops (⟨some d, .slice T x lo hi none, ty, pos, af, g⟩ :: os) cs m D := by
 refine .val hg rfl (by simpa using hn) (fun a w hF hS => run_v ?_) k
 rw [hF.eval hx]
 obtain ⟨r0, r1, _⟩ := hr w hS
 have hb : (Instr.sliceBounds true s.n s.c (lo.map a.eval) (hi.map a.eval) none).run P w = .ok (l, h, s.c) w := by
  rcases bnd_spec hF hlo with ⟨e1, e2⟩ | ⟨k1, i1, e1, e2⟩ <;> rcases bnd_spec hF hhi with ⟨e3, e4⟩ | ⟨k2, i2, e3, e4⟩ <;> subst e2 e4 <;> simp only [Option.getD_none, Option.getD_some] at hl hh <;> rw [e1, e3]
  ·have : l = 0 := by omega
   subst this
   simp [Instr.sliceBounds]
   omega
  ·have : l = 0 := by omega
   subst this
   simp [Instr.sliceBounds, Instr.sliceBound, asIntOf, show 0 ≤ i2 by omega, show i2 ≤ (s.c : Int) by omega]
   omega
  ·simp [Instr.sliceBounds, Instr.sliceBound, asIntOf, show 0 ≤ i1 by omega, show i1 ≤ (s.n : Int) by omega]
   omega
  simp [Instr.sliceBounds, Instr.sliceBound, asIntOf, show 0 ≤ i2 by omega, show i2 ≤ (s.c : Int) by omega, show 0 ≤ i1 by omega, show i2.toNat = h by omega, show i1.toNat = l by omega]
  all_goals omega
 simp only [Instr.sliceAt, SV.v, Sem.run_bind, run_underlying hT, Result.andThen_ok, Option.map_none, Instr.slice, hb, hz w, Sem.run_pure, SV.cut]
end
end Go.Sx
namespace Go.Sx
open Go.RowKit
theorem encs_rep {β : Type} (E : FE β) (z : β) (k : Nat) : encs E (List.replicate k z) = (List.replicate k (E.enc z)).flatten := by
 simp [encs, List.flatMap_replicate]
theorem range_cycle (z : List Value) (hz : z ≠ []) : ∀ k, (List.range (k * z.length)).map (fun i => z.toArray[i % z.length]!) = (List.replicate k z).flatten
 | 0 => by simp
 | k + 1 => by
  rw [Nat.add_mul, Nat.one_mul, List.range_add, List.map_append, range_cycle z hz k, List.replicate_succ', List.flatten_append]
  congr 1
  simp only [List.flatten_cons, List.flatten_nil, List.append_nil, List.map_map]
  apply List.ext_getElem?
  intro j
  simp only [List.getElem?_map]
  by_cases hj : j < z.length
  ·rw [List.getElem?_range hj]
   have h1 : (k * z.length + j) % z.length = j := by rw [Nat.add_comm, Nat.add_mul_mod_self_right]; exact Nat.mod_eq_of_lt hj
   simp [h1, hj]
  simp [hj]
theorem madeCells_eq (z : List Value) (hz : z ≠ []) (k : Nat) : (madeCells z.toArray (k * z.length)).toList = (List.replicate k z).flatten := by
 rw [← range_cycle z hz k]
 simp [madeCells]
section
variable {P : Program} {w0 : World} {n : Nat} {I : Hp} {Γ : Gm} {L : List Asn} {cs : List Code} {α : Type} {m : Option α} {D : α → Post} {ops : Array Oper} {os : List Oper}
variable {d : Nat} {ty : TypeId} {pos : String} {af : Array Edge} {g : Option (Nat × Bool)}
theorem TL.mkslice {T e : TypeId} {i : TypeInfo} {zv : Value} {x y : Operand} {kd kd' : IntKind} {β : Type} (E : FE β) (z : β) (len : Int) (hT : P.underlying T = some (.slice e)) (hi : P.info? e = some i) (hzv : i.zero = some zv) (hzc : zv.cells = (E.enc z).toArray) (hsz : i.size = E.sz) (hpos : E.enc z ≠ []) (hby : i.bytes ≤ 64)
  (h0 : 0 ≤ len) (h1 : len.toNat ≤ 1099511627776)
  (hg : gd ops Γ ⟨some d, .makeSlice T x y, ty, pos, af, g⟩ = some true) (hn : Nat.blt d n = true) (hx : ev Γ x = some (.int kd len)) (hy : ev Γ y = some (.int kd' len))
  (k : ∀ s, TL P w0 n I ((d, SV.v s) :: Γ) (row E e s (List.replicate len.toNat z) :: L) ops os cs m D) : TL P w0 n I Γ L ops (⟨some d, .makeSlice T x y, ty, pos, af, g⟩ :: os) cs m D := by
 refine .valW (γ := SV) (vf := fun s => s.v) (Lf := fun s => row E e s (List.replicate len.toNat z) :: L) hg rfl (by simpa using hn) (fun a w hF hS => ⟨⟨some ⟨w.heap.size, 0, none⟩, len.toNat, len.toNat⟩, w.alloc (.cells (madeCells zv.cells (len.toNat * i.size)) e), ?_, ?_⟩) k
 ·refine run_v ?_
  rw [hF.eval hx, hF.eval hy]
  have hb : (i.bytes : Int) * len ≤ 281474976710656 := by
   have h2 : len ≤ 1099511627776 := by omega
   have h3 : (i.bytes : Int) * len ≤ 64 * 1099511627776 := Int.mul_le_mul (by omega) h2 h0 (by omega)
   omega
  exact run_make w T e i zv hT hi hzv kd kd' len len h0 (Int.le_refl _) hb (by omega)
 obtain ⟨ρ, hs, ho⟩ := (hS.alloc (.cells (madeCells zv.cells (len.toNat * i.size)) e)).own
 obtain ⟨ρ1, ρ2, rfl, rfl, h2⟩ := hs
 have h3 := hS.alloc (.cells (madeCells zv.cells (len.toNat * i.size)) e)
 refine ⟨h3.below, h3.i0, h3.iw, _, ⟨_, ρ2, rfl, .inr ⟨w.heap.size, 0, len.toNat, _, by rw [List.length_replicate], rfl, by simp, by simp only [maxLen]; omega, ?_, ?_⟩, h2⟩, ho⟩
 ·rw [size_madeCells, hsz]; omega
 have hlen : E.sz = (E.enc z).length := (E.len z).symm
 rw [hzc, hsz, List.length_replicate, encs_rep, hlen, ← madeCells_eq _ hpos, List.drop_zero, List.take_of_length_le]
 rw [Array.length_toList, size_madeCells]; omega
theorem TL.bslice {T e : TypeId} {len : Nat} {parts : Array (Nat × Operand)} {β : Type} (E : FE β) (ys : List β) (cells : Array Value) (hT : P.underlying T = some (.slice e)) (hz : ∀ w, (sizeOf e).run P w = .ok E.sz w) {zv : Value} (hzv : ∀ w, (zeroValue e).run P w = .ok zv w)
  (hl : ys.length = len) (hsm : Nat.ble (len * E.sz) 1000 = true) (hpos : Nat.beq (len * E.sz) 0 = false)
  (vs : List (Nat × Value)) (hvs : parts.toList.map (fun p => (p.1, ev Γ p.2)) = vs.map (fun p => (p.1, some p.2)))
  (hfill : Instr.fill (fun i => some (i * E.sz, E.sz)) (Array.map (fun x => zv.cells[x % zv.cells.size]!) (Array.range (len * E.sz))) vs = some cells) (hc : cells.toList = encs E ys)
  (hg : gd ops Γ ⟨some d, .buildSlice T len parts, ty, pos, af, g⟩ = some true) (hn : Nat.blt d n = true)
  (k : ∀ s, TL P w0 n I ((d, SV.v s) :: Γ) (row E e s ys :: L) ops os cs m D) : TL P w0 n I Γ L ops (⟨some d, .buildSlice T len parts, ty, pos, af, g⟩ :: os) cs m D := by
 refine .valW (γ := SV) (vf := fun s => s.v) (Lf := fun s => row E e s ys :: L) hg rfl (by simpa using hn) (fun a w hF hS => ⟨⟨some ⟨w.heap.size, 0, none⟩, len, len⟩, w.alloc (.cells cells e), ?_, ?_⟩) k
 ·refine run_v ?_
  have hp : (parts.map fun (p : Nat × Operand) => (p.1, a.eval p.2)).toList = vs := by
   rw [Array.toList_map]
   have key : ∀ (ps : List (Nat × Operand)) (us : List (Nat × Value)), ps.map (fun p => (p.1, ev Γ p.2)) = us.map (fun p => (p.1, some p.2)) → ps.map (fun p => (p.1, a.eval p.2)) = us := by
    intro ps
    induction ps with
    | nil => intro us h; cases us with
     | nil => rfl
     | cons u us => simp at h
    | cons p ps ih => intro us h; cases us with
     | nil => simp at h
     | cons u us =>
      simp only [List.map_cons, List.cons.injEq, Prod.mk.injEq] at h ⊢
      obtain ⟨⟨h1, h2⟩, h3⟩ := h
      exact ⟨Prod.ext h1 (hF.eval h2), ih us h3⟩
   exact key _ _ hvs
  have hne : ¬ len * E.sz = 0 := fun e => by rw [e] at hpos; simp at hpos
  have hle : ¬ len * E.sz > 2 ^ 24 := by have := Nat.le_of_ble_eq_true hsm; omega
  simp only [Instr.buildSlice, Sem.run_bind, run_underlying hT, Result.andThen_ok, hz w, hle, hne, if_false, hzv w, hp, hfill, Sem.run_pure]
  rfl
 obtain ⟨ρ, hs, ho⟩ := (hS.alloc (.cells cells e)).own
 obtain ⟨ρ1, ρ2, rfl, rfl, h2⟩ := hs
 have h3 := hS.alloc (.cells cells e)
 have hsize : cells.size = len * E.sz := by rw [← Array.length_toList, hc, encs_length, hl]
 have hm := Nat.le_of_ble_eq_true hsm
 have hlen : len ≤ len * E.sz := by
  have : E.sz ≠ 0 := fun e => by rw [e] at hpos; simp at hpos
  exact Nat.le_mul_of_pos_right _ (by omega)
 refine ⟨h3.below, h3.i0, h3.iw, _, ⟨_, ρ2, rfl, .inr ⟨w.heap.size, 0, len, _, by rw [hl], rfl, by omega, by simp only [maxLen]; omega, by omega, ?_⟩, h2⟩, ho⟩
 rw [List.drop_zero, hl, ← hc, List.take_of_length_le]
 rw [Array.length_toList]; omega
theorem TL.bslice0 {T e : TypeId} {β : Type} (E : FE β) (hT : P.underlying T = some (.slice e)) (hz : ∀ w, (sizeOf e).run P w = .ok E.sz w)
  (hg : gd ops Γ ⟨some d, .buildSlice T 0 #[], ty, pos, af, g⟩ = some true) (hn : Nat.blt d n = true)
  (k : ∀ s, TL P w0 n I ((d, SV.v s) :: Γ) (row E e s [] :: L) ops os cs m D) : TL P w0 n I Γ L ops (⟨some d, .buildSlice T 0 #[], ty, pos, af, g⟩ :: os) cs m D := by
 refine .valW (γ := SV) (vf := fun s => s.v) (Lf := fun s => row E e s [] :: L) hg rfl (by simpa using hn) (fun a w hF hS => ⟨⟨some ⟨w.heap.size, 0, none⟩, 0, 0⟩, w.alloc (.cells #[] e), ?_, ?_⟩) k
 ·refine run_v ?_
  simp only [Instr.buildSlice, Sem.run_bind, run_underlying hT, Result.andThen_ok, hz w, Nat.zero_mul]
  simp [Instr.fill, newRow, newObj, Sem.run, SV.v, Array.range_zero']
 obtain ⟨ρ, hs, ho⟩ := (hS.alloc (.cells #[] e)).own
 obtain ⟨ρ1, ρ2, rfl, rfl, h2⟩ := hs
 have h3 := hS.alloc (.cells #[] e)
 exact ⟨h3.below, h3.i0, h3.iw, _, ⟨_, ρ2, rfl, .inr ⟨w.heap.size, 0, 0, #[], rfl, rfl, Nat.le_refl _, by simp [maxLen], by simp, by simp [encs]⟩, h2⟩, ho⟩
theorem row_nil {β : Type} (E : FE β) (T : TypeId) : row E T ⟨none, 0, 0⟩ ([] : List β) [] := .inl ⟨rfl, rfl, rfl⟩
theorem St.nilrow {w : World} {β : Type} (E : FE β) (T : TypeId) (hS : St w0 I L w) : St w0 I (row E T ⟨none, 0, 0⟩ ([] : List β) :: L) w := by
 obtain ⟨ρ, hs, ho⟩ := hS.own
 exact ⟨hS.below, hS.i0, hS.iw, ρ, ⟨[], ρ, rfl, row_nil E T, hs⟩, ho⟩
theorem TL.nilrow {β : Type} (E : FE β) (T : TypeId) (k : TL P w0 n I Γ (row E T ⟨none, 0, 0⟩ ([] : List β) :: L) ops os cs m D) : TL P w0 n I Γ L ops os cs m D :=
 fun a w hF hS o ho => k a w hF (hS.nilrow E T) o ho
theorem TC.nilrow {β : Type} (E : FE β) (T : TypeId) (k : TC P w0 n I Γ (row E T ⟨none, 0, 0⟩ ([] : List β) :: L) cs m D) : TC P w0 n I Γ L cs m D :=
 fun a w hF hS o ho => k a w hF (hS.nilrow E T) o ho
theorem run_append {w : World} {T e ty : TypeId} {i : TypeInfo} {zv : Value} {β : Type} {E : FE β} {s t : SV} {ys zs : List β} (j : Nat) (hS : St w0 I L w) (hj : L[j]? = some (row E e s ys)) (hr : Reads E (hp w) t zs)
  (hT : P.underlying T = some (.slice e)) (hi : P.info? e = some i) (hzv : i.zero = some zv) (hsz : i.size = E.sz) (hzs : zv.cells.size = E.sz) (hby : i.bytes ≤ 64) (hsm : ys.length + zs.length ≤ 1099511627776) :
  ∃ s' w', (Builtin.append_ #[T, T] ty #[s.v, t.v]).run P w = .ok (SV.v s') w' ∧ St w0 I (L.set j (row E e s' (ys ++ zs))) w' := by
 obtain ⟨t0, t1, t2, t3⟩ := hr
 obtain ⟨ρA, hA, hh⟩ := hS.get hj
 have hbytes : (ys.length + zs.length) * i.bytes ≤ 140737488355328 := by
  have h1 : (ys.length + zs.length) * i.bytes ≤ 1099511627776 * 64 := Nat.mul_le_mul hsm hby
  omega
 -- nothing is appended
 by_cases hzn : zs = []
 ·subst hzn
  refine ⟨s, w, ?_, ?_⟩
  ·have hn0 : t.n = 0 := by simpa using t0
   have hle : s.n ≤ s.c := by
    rcases hA with ⟨rfl, _⟩ | ⟨b, o, cap, cur, rfl, _, h1, _⟩
    ·exact Nat.le_refl _
    exact h1
   cases hta : t.a <;> cases hsa : s.a <;> simp [Builtin.append_, SV.v, hta, hsa, hn0, run_underlying hT, sizeOf, typeInfo, hi, Builtin.lenOf, hle, Builtin.firstCells, loadCells, loadCellsFrom, storeCells]
  rw [List.append_nil]
  have hj2 : j < L.length := (List.getElem?_eq_some_iff.1 hj).1
  rw [← (List.getElem?_eq_some_iff.1 hj).2, List.set_getElem_self]
  exact hS
 obtain ⟨q, p, src, T', fr, hta, hw, hc⟩ := t3.resolve_left hzn
 have htv : t.v = .slice (some ⟨q, p, none⟩) zs.length t.c := by simp [SV.v, hta, t0]
 have hnews : ∀ (w2 : World), (hp w q = hp w2 q) → ∀ k u, (encs E zs)[k]? = some u → w2.cell? ((⟨q, p, none⟩ : Addr).add k) = some u := by
  intro w2 he k u hu
  rw [add_none, cell_at (by rw [show w2.heap[q]? = hp w2 q from rfl, ← he]; exact hw)]
  exact hc k u hu
 have hzl : 0 < zs.length := by cases zs with
  | nil => exact absurd rfl hzn
  | cons z zs => simp
 have hlen : (encs E zs).length = zs.length * i.size := by rw [encs_length, hsz]
 -- a new row
 have fresh : ∀ (olds : List Value) (cap : Nat), olds = encs E ys → ys.length + zs.length ≤ cap → cap ≤ maxLen →
   St w0 I (L.set j (row E e ⟨some ⟨w.heap.size, 0, none⟩, ys.length + zs.length, cap⟩ (ys ++ zs))) (w.drew.alloc (.cells (olds.toArray ++ (encs E zs).toArray ++ Builtin.zeroCells zv.cells (cap - (ys.length + zs.length))) e)) := by
  intro olds cap ho hcap hmax
  have h1 := (hS.drew).alloc (.cells (olds.toArray ++ (encs E zs).toArray ++ Builtin.zeroCells zv.cells (cap - (ys.length + zs.length))) e)
  obtain ⟨ρ, hs, hown⟩ := h1.own
  obtain ⟨ρ1, ρ2, rfl, rfl, h2⟩ := hs
  obtain ⟨σ1, σA, σ2, rfl, hAA, hset, _⟩ := h2.focus hj
  refine ⟨h1.below, h1.i0, h1.iw, σ1 ++ [(w.heap.size, .cells (olds.toArray ++ (encs E zs).toArray ++ Builtin.zeroCells zv.cells (cap - (ys.length + zs.length))) e)] ++ σ2, hset _ _ (.inr ⟨w.heap.size, 0, cap, _, by rw [List.length_append], rfl, by rw [List.length_append]; exact hcap, hmax, ?_, ?_⟩), ?_, ?_⟩
  ·simp only [Array.size_append, List.size_toArray, size_zeroCells, hzs, ho, encs_length, Nat.zero_add]
   rw [← Nat.add_mul, ← Nat.add_mul]
   exact Nat.mul_le_mul_right _ (by omega)
  ·rw [List.drop_zero, List.length_append, ho, encs_append]
   simp only [Array.toList_append, List.append_assoc]
   rw [← List.append_assoc, List.take_left']
   rw [List.length_append, encs_length, encs_length, Nat.add_mul]
  ·have hnd := hown.nodup
   simp only [List.map_append, List.map_cons, List.singleton_append, List.nodup_cons, List.append_assoc] at hnd ⊢
   obtain ⟨hn1, hn2⟩ := hnd
   simp only [List.mem_append] at hn1
   rw [List.nodup_append] at hn2 ⊢
   obtain ⟨a1, a2, a3⟩ := hn2
   rw [List.nodup_append] at a2
   refine ⟨a1, List.nodup_cons.2 ⟨fun hm => hn1 (.inr (.inr hm)), a2.2.1⟩, ?_⟩
   intro x hx y hy
   rcases List.mem_cons.1 hy with rfl | hy
   ·rintro rfl; exact hn1 (.inl hx)
   exact a3 x hx y (List.mem_append.2 (.inr hy))
  intro r hr
  simp only [List.mem_append, List.mem_singleton] at hr
  refine hown.here r ?_
  rcases hr with (hr | hr) | hr
  ·exact List.mem_append.2 (.inr (List.mem_append.2 (.inl (List.mem_append.2 (.inl hr)))))
  ·subst hr; exact List.mem_append.2 (.inl (List.mem_singleton.2 rfl))
  exact List.mem_append.2 (.inr (List.mem_append.2 (.inr hr)))
 rcases hA with ⟨rfl, rfl, rfl⟩ | ⟨b, o, cap, cur, rfl, rfl, h1, h2, h3, h4⟩
 ·-- onto nil
  refine ⟨_, _, ?_, fresh [] (grownCap w zs.length 0 e) (by simp [encs]) (by simpa using grownCap_ge w zs.length 0 e) (grownCap_le_maxLen w _ _ e (by simp only [maxLen]; simp at hsm; omega))⟩
  have := run_append_nil (P := P) w T ty e i zv hT hi hzv ⟨q, p, none⟩ zs.length t.c (encs E zs) hlen (hnews w rfl) hzl (by simp at hsm; omega) (by simp at hbytes; omega)
  rw [htv]
  simpa [SV.v] using this
 have hb := hh _ (List.mem_singleton.2 rfl)
 by_cases hroom : ys.length + zs.length ≤ cap
 ·-- in place
  refine ⟨⟨some ⟨b, o, none⟩, ys.length + zs.length, cap⟩, w.setRow b (cur.toList.take (o + ys.length * E.sz) ++ encs E zs ++ cur.toList.drop (o + ys.length * E.sz + (encs E zs).length)).toArray, ?_, ?_⟩
  ·have hf := run_firstCells_some (P := P) w E.sz zs.length ⟨q, p, none⟩ zs.length t.c (encs E zs) (by rw [encs_length]) (hnews w rfl)
   have hfit : o + ys.length * E.sz + (encs E zs).length ≤ cur.size := by
    rw [encs_length, Nat.add_assoc, ← Nat.add_mul]
    exact Nat.le_trans (Nat.add_le_add_left (Nat.mul_le_mul_right _ hroom) _) h3
   have hst := run_storeCells_at P b (o + ys.length * E.sz) e (encs E zs) 0 cur w hb (by omega) (encs_one E zs)
   simp only [Nat.add_zero] at hst
   rw [htv]
   simp [Builtin.append_, SV.v, run_underlying hT, sizeOf, typeInfo, hi, Builtin.lenOf, hroom, hsz, hf, add_none, hst]
  refine hS.turn hj ?_ rfl rfl rfl (by simp [World.setRow])
  intro ρB hB hhB
  rcases hB with ⟨hB, _⟩ | ⟨b', o', cap', cur', hs', rfl, _, _, _, _⟩
  ·cases hB
  injection hs' with hs1 hs2 hs3
  injection hs1 with hs1
  injection hs1 with hs1 hs4
  subst hs1 hs3 hs4
  have hb' := hhB _ (List.mem_singleton.2 rfl)
  rw [hb] at hb'
  injection hb' with hb'
  injection hb' with hb'
  subst hb'
  refine ⟨[(b, .cells (cur.toList.take (o + ys.length * E.sz) ++ encs E zs ++ cur.toList.drop (o + ys.length * E.sz + (encs E zs).length)).toArray e (0, 0))], .inr ⟨b, o, cap, _, by rw [List.length_append], rfl, by rw [List.length_append]; exact hroom, h2, ?_, ?_⟩, rfl, ?_, ?_⟩
  ·have hfit : o + ys.length * E.sz + (encs E zs).length ≤ cur.size := by
    rw [encs_length, Nat.add_assoc, ← Nat.add_mul]
    exact Nat.le_trans (Nat.add_le_add_left (Nat.mul_le_mul_right _ hroom) _) h3
   simp only [List.size_toArray, List.length_append, List.length_take, List.length_drop, Array.length_toList]
   omega
  ·have hol : o ≤ cur.toList.length := by rw [Array.length_toList]; omega
   have e1 : cur.toList.take (o + ys.length * E.sz) = cur.toList.take o ++ encs E ys := by
    rw [← h4, List.take_add]
   simp only [e1, List.append_assoc, List.length_append, encs_append]
   rw [List.drop_append_of_le_length (by rw [List.length_take]; omega), List.drop_of_length_le (by rw [List.length_take]; omega), List.nil_append, ← List.append_assoc, List.take_left']
   rw [List.length_append, encs_length, encs_length, Nat.add_mul]
  ·intro r hr
   obtain rfl := List.mem_singleton.1 hr
   exact setRow_heap w b _ _ e _ hb
  intro k hk
  exact setRow_rest (by simpa using hk)
 -- grown
 have holds : ∀ k u, (encs E ys)[k]? = some u → w.cell? ((⟨b, o, none⟩ : Addr).add k) = some u := by
  intro k u hu
  rw [← h4, List.getElem?_take] at hu
  split at hu
  ·rw [add_none, cell_at hb]
   simpa using hu
  cases hu
 have := run_append_grow (P := P) w T ty e i zv hT hi hzv ⟨b, o, none⟩ ys.length cap (encs E ys) (by rw [encs_length, hsz]) holds ⟨q, p, none⟩ zs.length t.c (encs E zs) hlen (hnews w rfl) (by omega) (by omega) (growslice_fits (by omega) hbytes)
 refine ⟨_, _, ?_, fresh (encs E ys) (grownCap w (ys.length + zs.length) cap e) rfl (grownCap_ge w _ _ e) (grownCap_le_maxLen w _ _ e (by simp only [maxLen]; omega))⟩
 rw [htv]
 simpa [SV.v] using this
theorem TL.append {T e : TypeId} {i : TypeInfo} {zv : Value} {β : Type} {E : FE β} {x y : Operand} {s t : SV} {ys zs : List β} (j : Nat) (hj : L[j]? = some (row E e s ys)) (hr : Rd w0 I L E t zs)
  (hT : P.underlying T = some (.slice e)) (hi : P.info? e = some i) (hzv : i.zero = some zv) (hsz : i.size = E.sz) (hzs : zv.cells.size = E.sz) (hby : i.bytes ≤ 64) (hsm : ys.length + zs.length ≤ 1099511627776)
  (hg : gd ops Γ ⟨some d, .call { callee := .builtin .append, args := #[x, y], argTypes := #[T, T] }, ty, pos, af, g⟩ = some true) (hn : Nat.blt d n = true) (hx : ev Γ x = some s.v) (hy : ev Γ y = some t.v)
  (k : ∀ s', TL P w0 n I ((d, SV.v s') :: Γ) (L.set j (row E e s' (ys ++ zs))) ops os cs m D) : TL P w0 n I Γ L ops (⟨some d, .call { callee := .builtin .append, args := #[x, y], argTypes := #[T, T] }, ty, pos, af, g⟩ :: os) cs m D := by
 refine .valW (γ := SV) (vf := fun s => s.v) (Lf := fun s' => L.set j (row E e s' (ys ++ zs))) hg rfl (by simpa using hn) (fun a w hF hS => ?_) k
 obtain ⟨s', w', h1, h2⟩ := run_append (P := P) (ty := ty) j hS hj (hr w hS) hT hi hzv hsz hzs hby hsm
 refine ⟨s', w', ?_, h2⟩
 unfold execOp
 simp only [resolve, invoke, builtin, Sem.run_bind, Sem.run_pure, Result.andThen_ok, List.map_toArray, List.map_cons, List.map_nil, hF.eval hx, hF.eval hy, h1]
end
end Go.Sx
