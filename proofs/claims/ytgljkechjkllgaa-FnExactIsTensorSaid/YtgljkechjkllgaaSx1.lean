/- Sx1: a small calculus over the kit's wp: frames as short lists of slots, memory as a list of owned pieces beside what never changes; a pure program and the code are consumed step by step. -/
import Derived.Tactics
import Derived.Below
import Derived.Laws.Rows
import Derived.Laws.OwnMore
import Derived.WalkKit
namespace Go.Sx
open Go.RowKit

/-! ### slots -/
abbrev Gm := List (Nat × Value)

def lk : Gm → Nat → Option Value
  | [], _ => none
  | (k, v) :: r, t => bif Nat.beq k t then some v else lk r t

def ev (Γ : Gm) : Operand → Option Value
  | .tmp t => lk Γ t
  | .const v => some v
  | .global g => some (.pointer (some ⟨g, 0, none⟩))
  | .func f => some (.func (.func f) #[] #[])

def evs (Γ : Gm) : List Operand → Option (List Value)
  | [] => some []
  | x :: xs => match ev Γ x, evs Γ xs with
    | some v, some vs => some (v :: vs)
    | _, _ => none

structure Fr (n : Nat) (Γ : Gm) (a : Act) : Prop where
  size : a.tmps.size = n
  nod : a.defers = []
  has : ∀ t v, lk Γ t = some v → a.tmps[t]? = some v

theorem Fr.eval {n Γ a x v} (h : Fr n Γ a) (hx : ev Γ x = some v) : a.eval x = v := by
  cases x with
  | tmp t =>
    have h1 := h.has t v hx
    show a.tmps.getD t undef = v
    simp [h1]
  | const c => exact Option.some.inj hx
  | global g => exact Option.some.inj hx
  | func f => exact Option.some.inj hx

theorem Fr.evals {n Γ a} (h : Fr n Γ a) : ∀ {xs vs}, evs Γ xs = some vs → xs.map a.eval = vs
  | [], vs, hx => by simpa [evs] using hx
  | x :: xs, vs, hx => by
    unfold evs at hx
    split at hx
    · rename_i v vs' h1 h2
      obtain rfl := Option.some.inj hx
      simp [h.eval h1, Fr.evals h h2]
    · cases hx

theorem Fr.put {n Γ a d v} (h : Fr n Γ a) (hd : d < n) : Fr n ((d, v) :: Γ) (a.put (some d) v) := by
  refine ⟨by simp [Act.put, h.size], h.nod, ?_⟩
  intro t u hu
  simp only [lk] at hu
  cases hb : Nat.beq d t with
  | true =>
    rw [hb] at hu
    obtain rfl := Nat.eq_of_beq_eq_true hb
    obtain rfl := Option.some.inj hu
    simp [Act.put, h.size, hd]
  | false =>
    rw [hb] at hu
    have hne : d ≠ t := fun e => by subst e; simp at hb
    have := h.has t u hu
    simp [Act.put, hne, this]

/-- All of Γ' stands in Γ. -/
def Sub (Γ : Gm) : Gm → Prop
  | [] => True
  | (t, v) :: r => lk Γ t = some v ∧ Sub Γ r

theorem Fr.sub {n Γ Γ' a} (h : Fr n Γ a) (hs : Sub Γ Γ') : Fr n Γ' a := by
  refine ⟨h.size, h.nod, ?_⟩
  induction Γ' with
  | nil => intro t v ht; cases ht
  | cons p r ih =>
    obtain ⟨k, u⟩ := p
    intro t v ht
    simp only [lk] at ht
    cases hb : Nat.beq k t with
    | true =>
      rw [hb] at ht
      obtain rfl := Nat.eq_of_beq_eq_true hb
      obtain rfl := Option.some.inj ht
      exact h.has _ _ hs.1
    | false => rw [hb] at ht; exact ih hs.2 t v ht

/-! ### memory -/
abbrev Hp := Nat → Option Obj
def hp (w : World) : Hp := fun b => w.heap[b]?
def Hle (I J : Hp) : Prop := ∀ b o, I b = some o → J b = some o
theorem Hle.refl (I : Hp) : Hle I I := fun _ _ h => h
theorem Hle.trans {I J K : Hp} (h : Hle I J) (k : Hle J K) : Hle I K := fun b o x => k b o (h b o x)

abbrev Frag := List (Nat × Obj)
abbrev Asn := Frag → Prop

def Sat : List Asn → Frag → Prop
  | [], ρ => ρ = []
  | A :: L, ρ => ∃ ρ1 ρ2, ρ = ρ1 ++ ρ2 ∧ A ρ1 ∧ Sat L ρ2

/-- The owned pieces of memory, apart from one another and from what never changes. -/
structure Own (I : Hp) (w : World) (ρ : Frag) : Prop where
  nodup : (ρ.map (·.1)).Nodup
  here : ∀ p ∈ ρ, I p.1 = none ∧ w.heap[p.1]? = some p.2

structure St (w0 : World) (I : Hp) (L : List Asn) (w : World) : Prop where
  below : Below w0.heap.size w0 w
  i0 : Hle (hp w0) I
  iw : Hle I (hp w)
  own : ∃ ρ, Sat L ρ ∧ Own I w ρ

theorem Sat.append {L L' : List Asn} : ∀ {ρ ρ'}, Sat L ρ → Sat L' ρ' → Sat (L ++ L') (ρ ++ ρ') := by
  induction L with
  | nil => intro ρ ρ' h h'; simp only [Sat] at h; subst h; simpa using h'
  | cons A L ih =>
    rintro ρ ρ' ⟨ρ1, ρ2, rfl, h1, h2⟩ h'
    exact ⟨ρ1, ρ2 ++ ρ', by simp, h1, ih h2 h'⟩

/-- One piece taken out, to be put back changed. -/
theorem Sat.focus {L : List Asn} : ∀ {i : Nat} {A : Asn} {ρ}, Sat L ρ → L[i]? = some A →
    ∃ ρ1 ρA ρ2, ρ = ρ1 ++ ρA ++ ρ2 ∧ A ρA ∧ (∀ A' ρA', A' ρA' → Sat (L.set i A') (ρ1 ++ ρA' ++ ρ2)) ∧ Sat (L.eraseIdx i) (ρ1 ++ ρ2) := by
  induction L with
  | nil => intro i A ρ _ h; simp at h
  | cons B L ih =>
    rintro i A ρ ⟨ρ1, ρ2, rfl, h1, h2⟩ hi
    cases i with
    | zero =>
      simp at hi; subst hi
      exact ⟨[], ρ1, ρ2, by simp, h1, fun A' ρA' h => ⟨ρA', ρ2, by simp, h, h2⟩, by simpa using h2⟩
    | succ i =>
      obtain ⟨σ1, σA, σ2, rfl, hA, hset, her⟩ := ih h2 (by simpa using hi)
      refine ⟨ρ1 ++ σ1, σA, σ2, by simp, hA, fun A' ρA' h => ⟨ρ1, σ1 ++ ρA' ++ σ2, by simp, h1, hset A' ρA' h⟩, ?_⟩
      simp only [List.eraseIdx_cons_succ, List.append_assoc]
      exact ⟨ρ1, σ1 ++ σ2, rfl, h1, her⟩

theorem St.mono {w0 I J L w} (h : St w0 J L w) (hIJ : Hle I J) (h0 : Hle (hp w0) I) : St w0 I L w := by
  obtain ⟨ρ, hs, ho⟩ := h.own
  refine ⟨h.below, h0, hIJ.trans h.iw, ρ, hs, ho.nodup, fun p hp' => ⟨?_, (ho.here p hp').2⟩⟩
  cases hc : I p.1 with
  | none => rfl
  | some o => have := hIJ _ _ hc; rw [(ho.here p hp').1] at this; cases this

theorem St.start (w : World) : St w (hp w) [] w := ⟨.refl _ _, .refl _, .refl _, [], rfl, by simp, by simp⟩

theorem own_lt {I w ρ} (h : Own I w ρ) {p} (hp' : p ∈ ρ) : p.1 < w.heap.size := by
  have := (h.here p hp').2
  exact (Array.getElem?_eq_some_iff.1 this).1

/-- Behind a call that leaves all as it was and makes new pieces. -/
theorem St.call {w0 I L w w' L'} (h : St w0 I L w) (h' : St w (hp w) L' w') : St w0 I (L' ++ L) w' := by
  obtain ⟨ρ, hs, ho⟩ := h.own
  obtain ⟨ρ', hs', ho'⟩ := h'.own
  have keep : ∀ b o, w.heap[b]? = some o → w'.heap[b]? = some o := fun b o hb => h'.iw b o hb
  refine ⟨h.below.trans (h'.below.mono h.below.size), h.i0, h.iw.trans h'.iw, ρ' ++ ρ, hs'.append hs, ?_, ?_⟩
  · rw [List.map_append, List.nodup_append]
    refine ⟨ho'.nodup, ho.nodup, ?_⟩
    rintro a ha b hb rfl
    obtain ⟨p, hp1, rfl⟩ := List.mem_map.1 ha
    obtain ⟨q, hq1, hq2⟩ := List.mem_map.1 hb
    have h1 := (ho'.here p hp1).1
    have h2 := (ho.here q hq1).2
    rw [hq2] at h2
    simp only [hp] at h1
    rw [h1] at h2; cases h2
  · intro p hp'
    rcases List.mem_append.1 hp' with hm | hm
    · refine ⟨?_, (ho'.here p hm).2⟩
      cases hc : I p.1 with
      | none => rfl
      | some o =>
        have := h.iw _ _ hc
        have h1 := (ho'.here p hm).1
        rw [this] at h1; cases h1
    · exact ⟨(ho.here p hm).1, keep _ _ (ho.here p hm).2⟩

theorem hp_alloc (w : World) (o : Obj) : Hle (hp w) (hp (w.alloc o)) := fun b x h => by
  have hlt := (Array.getElem?_eq_some_iff.1 h).1
  show (w.heap.push o)[b]? = some x
  rw [Array.getElem?_push, if_neg (by omega)]; exact h

theorem St.alloc {w0 I L w} (h : St w0 I L w) (o : Obj) : St w0 I ((fun ρ => ρ = [(w.heap.size, o)]) :: L) (w.alloc o) := by
  obtain ⟨ρ, hs, ho⟩ := h.own
  refine ⟨h.below.alloc h.below.size o, h.i0, h.iw.trans (hp_alloc w o), (w.heap.size, o) :: ρ, ⟨[(w.heap.size, o)], ρ, rfl, rfl, hs⟩, ?_, ?_⟩
  · simp only [List.map_cons, List.nodup_cons]
    refine ⟨fun hm => ?_, ho.nodup⟩
    obtain ⟨q, hq1, hq2⟩ := List.mem_map.1 hm
    have := own_lt ho hq1
    omega
  · intro p hp'
    rcases List.mem_cons.1 hp' with rfl | hm
    · refine ⟨?_, by show (w.heap.push o)[w.heap.size]? = _; simp⟩
      cases hc : I w.heap.size with
      | none => rfl
      | some x => have := h.iw _ _ hc; simp [hp] at this
    · exact ⟨(ho.here p hm).1, hp_alloc w o _ _ (ho.here p hm).2⟩

theorem St.drew {w0 I L w} (h : St w0 I L w) : St w0 I L w.drew := by
  obtain ⟨ρ, hs, ho⟩ := h.own
  exact ⟨h.below.drew, h.i0, h.iw, ρ, hs, ho.nodup, ho.here⟩

/-- The world turned at one owned piece alone. -/
theorem St.turn {w0 I L w w'} {i : Nat} {A : Asn} (h : St w0 I L w) (hi : L[i]? = some A) {A' : Asn}
    (ht : ∀ ρA, A ρA → (∀ p ∈ ρA, w.heap[p.1]? = some p.2) → ∃ ρA', A' ρA' ∧ ρA'.map (·.1) = ρA.map (·.1) ∧ (∀ p ∈ ρA', w'.heap[p.1]? = some p.2) ∧
      (∀ b, b ∉ ρA.map (·.1) → w'.heap[b]? = w.heap[b]?))
    (hos : w'.os = w.os) (htape : w'.tape = w.tape) (hout : w'.output = w.output) (hsz : w.heap.size ≤ w'.heap.size) : St w0 I (L.set i A') w' := by
  obtain ⟨ρ, hs, ho⟩ := h.own
  obtain ⟨ρ1, ρA, ρ2, rfl, hA, hset, _⟩ := hs.focus hi
  obtain ⟨ρA', hA', hk, hh, hrest⟩ := ht ρA hA (fun p hp' => (ho.here p (by simp [hp'])).2)
  have hI : ∀ b o, I b = some o → b ∉ ρA.map (·.1) := by
    intro b o hb hm
    obtain ⟨q, hq1, hq2⟩ := List.mem_map.1 hm
    have := (ho.here q (by simp [hq1])).1
    rw [hq2, hb] at this; cases this
  refine ⟨⟨hos.trans h.below.os, htape.trans h.below.tape, hout.trans h.below.output, Nat.le_trans h.below.size hsz, ?_⟩, h.i0, ?_, _, hset A' ρA' hA', ?_, ?_⟩
  · intro k hk'
    rw [← h.below.block k hk']
    refine hrest k ?_
    have : w0.heap[k]? = some (w0.heap[k]) := by simp [hk']
    exact hI k _ (h.i0 k _ this)
  · intro b o hb
    show w'.heap[b]? = some o
    rw [hrest b (hI b o hb)]
    exact h.iw b o hb
  · have := ho.nodup
    simp only [List.map_append, hk] at this ⊢
    exact this
  · intro p hp'
    simp only [List.append_assoc, List.mem_append] at hp'
    have hnd := ho.nodup
    simp only [List.map_append, List.append_assoc] at hnd
    rw [List.nodup_append] at hnd
    obtain ⟨_, hnd2, hd1⟩ := hnd
    rw [List.nodup_append] at hnd2
    obtain ⟨_, _, hd2⟩ := hnd2
    rcases hp' with hm | hm | hm
    · have hx := ho.here p (by simp [hm])
      refine ⟨hx.1, ?_⟩
      rw [hrest p.1 (fun hc => hd1 p.1 (List.mem_map_of_mem hm) p.1 (List.mem_append.2 (.inl hc)) rfl)]
      exact hx.2
    · refine ⟨?_, hh p hm⟩
      have : p.1 ∈ ρA'.map (·.1) := List.mem_map_of_mem hm
      rw [hk] at this
      obtain ⟨q, hq1, hq2⟩ := List.mem_map.1 this
      have := (ho.here q (by simp [hq1])).1
      rw [hq2] at this; exact this
    · have hx := ho.here p (by simp [hm])
      refine ⟨hx.1, ?_⟩
      rw [hrest p.1 (fun hc => hd2 p.1 hc p.1 (List.mem_map_of_mem hm) rfl)]
      exact hx.2

theorem St.get {w0 I L w} {i : Nat} {A : Asn} (h : St w0 I L w) (hi : L[i]? = some A) : ∃ ρA, A ρA ∧ (∀ p ∈ ρA, w.heap[p.1]? = some p.2) := by
  obtain ⟨ρ, hs, ho⟩ := h.own
  obtain ⟨ρ1, ρA, ρ2, rfl, hA, _, _⟩ := hs.focus hi
  exact ⟨ρA, hA, fun p hp' => (ho.here p (by simp [hp'])).2⟩

theorem St.drop {w0 I L w} {i : Nat} {A : Asn} (h : St w0 I L w) (hi : L[i]? = some A) : St w0 I (L.eraseIdx i) w := by
  obtain ⟨ρ, hs, ho⟩ := h.own
  obtain ⟨ρ1, ρA, ρ2, rfl, hA, _, he⟩ := hs.focus hi
  refine ⟨h.below, h.i0, h.iw, _, he, ?_, fun p hp' => ho.here p ?_⟩
  · refine ho.nodup.sublist ?_
    simp only [List.map_append, List.append_assoc]
    exact List.Sublist.append_left (List.sublist_append_right _ _) _
  · simp only [List.mem_append] at hp' ⊢
    rcases hp' with hm | hm
    · exact .inl (.inl hm)
    · exact .inr hm

/-! ### the judgement -/
def seqs (P : Program) : List Code → (Exit → Act → World → Prop) → Exit → Act → World → Prop
  | [], Q => Q
  | c :: cs, Q => Exit.then (c.wp P (seqs P cs Q)) Q

theorem seqs_exit {P cs Q e a w} (he : e ≠ .normal) (h : Q e a w) : seqs P cs Q e a w := by
  cases cs with
  | nil => exact h
  | cons c cs => cases e <;> first | exact absurd rfl he | exact h

/-- Code items are run from a frame and a memory as told: where the pure program m tells o, the end is as D o says. -/
def TC (P : Program) (w0 : World) (n : Nat) (I : Hp) (Γ : Gm) (L : List Asn) (cs : List Code) {α : Type} (m : Option α) (D : α → Exit → Act → World → Prop) : Prop :=
  ∀ a w, Fr n Γ a → St w0 I L w → ∀ o, m = some o → seqs P cs (D o) .normal a w

def TL (P : Program) (w0 : World) (n : Nat) (I : Hp) (Γ : Gm) (L : List Asn) (ops : Array Oper) (os : List Oper) (cs : List Code) {α : Type} (m : Option α) (D : α → Exit → Act → World → Prop) : Prop :=
  ∀ a w, Fr n Γ a → St w0 I L w → ∀ o, m = some o → wpList P ops (seqs P cs (D o)) os a w

section
variable {P : Program} {w0 : World} {n : Nat} {I : Hp} {Γ : Gm} {L : List Asn} {cs : List Code} {α : Type} {m : Option α} {D : α → Exit → Act → World → Prop} {ops : Array Oper} {os : List Oper}

theorem TC.wk {Γ'} (hs : Sub Γ Γ') (k : TC P w0 n I Γ' L cs m D) : TC P w0 n I Γ L cs m D :=
  fun a w hF hS o ho => k a w (hF.sub hs) hS o ho
theorem TL.wk {Γ'} (hs : Sub Γ Γ') (k : TL P w0 n I Γ' L ops os cs m D) : TL P w0 n I Γ L ops os cs m D :=
  fun a w hF hS o ho => k a w (hF.sub hs) hS o ho
theorem TC.drop (i : Nat) {A} (hi : L[i]? = some A) (k : TC P w0 n I Γ (L.eraseIdx i) cs m D) : TC P w0 n I Γ L cs m D :=
  fun a w hF hS o ho => k a w hF (hS.drop hi) o ho
theorem TL.drop (i : Nat) {A} (hi : L[i]? = some A) (k : TL P w0 n I Γ (L.eraseIdx i) ops os cs m D) : TL P w0 n I Γ L ops os cs m D :=
  fun a w hF hS o ho => k a w hF (hS.drop hi) o ho

theorem TC.seq {x y : Code} (k : TC P w0 n I Γ L (x :: y :: cs) m D) : TC P w0 n I Γ L (.seq x y :: cs) m D := by
  intro a w hF hS o ho
  have := k a w hF hS o ho
  refine wp_seq (wp_mono this ?_)
  intro e a' w' h
  cases e <;> first | exact h | exact seqs_exit (by simp) h

theorem TC.skip (k : TC P w0 n I Γ L cs m D) : TC P w0 n I Γ L (.skip :: cs) m D :=
  fun a w hF hS o ho => wp_skip (k a w hF hS o ho)

theorem TC.region {id : Nat} {ops : Array Oper} (k : TL P w0 n I Γ L ops ops.toList cs m D) : TC P w0 n I Γ L (.region id ops false :: cs) m D :=
  fun a w hF hS o ho => wp_region_list (k a w hF hS o ho)

theorem TL.done (k : TC P w0 n I Γ L cs m D) : TL P w0 n I Γ L ops [] cs m D :=
  fun a w hF hS o ho => wpList_nil (k a w hF hS o ho)

theorem TC.cond {c : Operand} {x y : Code} {b : Bool} {m1 m2 : Option α} (hc : ev Γ c = some (.bool b))
    (k1 : b = true → TC P w0 n I Γ L (x :: cs) m1 D) (k2 : b = false → TC P w0 n I Γ L (y :: cs) m2 D) :
    TC P w0 n I Γ L (.cond c x y :: cs) (bif b then m1 else m2) D := by
  intro a w hF hS o ho
  refine wp_cond_split (hF.eval hc) ?_ ?_
  · intro hb; subst hb; exact k1 rfl a w hF hS o ho
  · intro hb; subst hb; exact k2 rfl a w hF hS o ho

/-- A condition that is known. -/
theorem TC.cond_true {c : Operand} {x y : Code} (hc : ev Γ c = some (.bool true)) (k : TC P w0 n I Γ L (x :: cs) m D) : TC P w0 n I Γ L (.cond c x y :: cs) m D :=
  fun a w hF hS o ho => wp_cond_true (hF.eval hc) (k a w hF hS o ho)
theorem TC.cond_false {c : Operand} {x y : Code} (hc : ev Γ c = some (.bool false)) (k : TC P w0 n I Γ L (y :: cs) m D) : TC P w0 n I Γ L (.cond c x y :: cs) m D :=
  fun a w hF hS o ho => wp_cond_false (hF.eval hc) (k a w hF hS o ho)

theorem TC.ret {Q : α → Exit → Act → World → Prop} (h : ∀ a w, Fr n Γ a → St w0 I L w → ∀ o, m = some o → Q o .ret a w) : TC P w0 n I Γ L (.ret :: cs) m Q :=
  fun a w hF hS o ho => wp_ret (seqs_exit (by simp) (h a w hF hS o ho))

theorem TC.exit {id : Nat} {Q : α → Exit → Act → World → Prop} (h : ∀ a w, Fr n Γ a → St w0 I L w → ∀ o, m = some o → Q o (.exit id) a w) : TC P w0 n I Γ L (.exit id :: cs) m Q :=
  fun a w hF hS o ho => wp_exit (seqs_exit (by simp) (h a w hF hS o ho))

theorem TC.nil {Q : α → Exit → Act → World → Prop} (h : ∀ a w, Fr n Γ a → St w0 I L w → ∀ o, m = some o → Q o .normal a w) : TC P w0 n I Γ L [] m Q := h

/-- A piece of code with a pure program of its own, and what follows. -/
theorem TC.bind {β : Type} {c : Code} {m1 : Option β} {k : β → Option α} {D1 : β → Exit → Act → World → Prop}
    (h1 : TC P w0 n I Γ L [c] m1 D1)
    (h2 : ∀ o1 e a w, D1 o1 e a w → ∀ o, k o1 = some o → seqs P cs (D o) e a w) :
    TC P w0 n I Γ L (c :: cs) (m1.bind k) D := by
  intro a w hF hS o ho
  obtain ⟨o1, ho1, ho2⟩ := Option.bind_eq_some_iff.1 ho
  exact wp_mono (h1 a w hF hS o1 ho1) (fun e a w h => h2 o1 e a w h o ho2)

/-- How a piece ends: by exit e, with a frame and a memory as told. -/
def Po (w0 : World) (n : Nat) (ex : Exit) (I : Hp) (Γ : Gm) (L : List Asn) (e : Exit) (a : Act) (w : World) : Prop :=
  e = ex ∧ Fr n Γ a ∧ St w0 I L w

theorem Po.go {ex : Exit} (k : TC P w0 n I Γ L cs m D) (hex : ex = .normal) {e a w} (h : Po w0 n ex I Γ L e a w) : ∀ o, m = some o → seqs P cs (D o) e a w := by
  obtain ⟨rfl, hF, hS⟩ := h
  subst hex
  exact fun o ho => k a w hF hS o ho
end

/-! ### loops -/
inductive LR (σ ρ : Type) where
  | next (s : σ)
  | brk (s : σ)
  | ret (r : ρ)

inductive LO (σ ρ : Type) where
  | brk (s : σ)
  | ret (r : ρ)

def FUEL : Nat := 9223372036854775808

def loopN {σ ρ : Type} (f : σ → Option (LR σ ρ)) : Nat → σ → Option (LO σ ρ)
  | 0, _ => none
  | k + 1, s => match f s with
    | none => none
    | some (.next s') => loopN f k s'
    | some (.brk s') => some (.brk s')
    | some (.ret r) => some (.ret r)

def loop {σ ρ : Type} (f : σ → Option (LR σ ρ)) (s : σ) : Option (LO σ ρ) := loopN f FUEL s

theorem wp_loop_k {P : Program} {Q : Exit → Act → World → Prop} {c : Code} (J : Nat → Act → World → Prop) (zero : ∀ a w, ¬ J 0 a w)
    (round : ∀ k a w, J (k + 1) a w → c.wp P (Exit.then (J k) Q) a w) {k : Nat} {a : Act} {w : World} (h : J k a w) : (Code.loop c).wp P Q a w := by
  intro b ks cs
  have key : ∀ k a w, J k a w → ∃ e a' w', Q e a' w' ∧ Arrives P (lone (b.at a (.code c :: .inLoop c :: ks)) cs w) b ks cs e a' w' := by
    intro k
    induction k with
    | zero => intro a w h; exact absurd h (zero a w)
    | succ k ih =>
      intro a w hJ
      obtain ⟨e, a₁, w₁, hq, harr⟩ := round k a w hJ b (.inLoop c :: ks) cs
      cases e with
      | normal =>
        obtain ⟨e₂, a₂, w₂, hq₂, harr₂⟩ := ih a₁ w₁ hq
        exact ⟨e₂, a₂, w₂, hq₂, .of_steps (Steps.trans harr (.one step_inLoop)) harr₂⟩
      | exit id => exact ⟨_, a₁, w₁, hq, .pass (x := .inLoop c) rfl (fun _ _ => .inl (by simp)) harr⟩
      | goto l => exact ⟨_, a₁, w₁, hq, .pass (x := .inLoop c) rfl (fun _ _ => .inl (by simp)) harr⟩
      | ret => exact ⟨_, a₁, w₁, hq, .pass (x := .inLoop c) rfl (fun _ _ => .inl (by simp)) harr⟩
      | panic ch => exact ⟨_, a₁, w₁, hq, .pass (x := .inLoop c) rfl (fun _ _ => .inl (by simp)) harr⟩
      | outgrown => exact ⟨_, a₁, w₁, hq, .pass (x := .inLoop c) rfl (fun _ _ => .inl (by simp)) harr⟩
  obtain ⟨e, a', w', hq, harr⟩ := key k a w h
  exact ⟨e, a', w', hq, .of_steps (.one step_loop) harr⟩

section
variable {P : Program} {w0 : World} {n : Nat} {σ ρ γ : Type}

/-- A loop in its block. s: what it carries; g: what else may differ from round to round. -/
theorem TC.loop {id : Nat} {body : Code} {I : Hp} {f : σ → Option (LR σ ρ)} {Γ : σ → γ → Gm} {L : σ → γ → List Asn} {Γb : σ → γ → Gm} {Lb : σ → γ → List Asn} {R : ρ → Exit → Act → World → Prop}
    (hR : ∀ r e a w, R r e a w → e = .ret ∨ (∃ j, e = .exit j ∧ j ≠ id))
    (hb : ∀ s g, TC P w0 n I (Γ s g) (L s g) [body] (f s) fun
      | .next s' => fun e a w => ∃ g', Po w0 n .normal I (Γ s' g') (L s' g') e a w
      | .brk s' => fun e a w => ∃ g', Po w0 n (.exit id) I (Γb s' g') (Lb s' g') e a w
      | .ret r => R r) (s : σ) (g : γ) :
    TC P w0 n I (Γ s g) (L s g) [.block id (.loop body)] (Sx.loop f s) fun
      | .brk s' => fun e a w => ∃ g', Po w0 n .normal I (Γb s' g') (Lb s' g') e a w
      | .ret r => R r := by
  intro a w hF hS o ho
  unfold Sx.loop at ho
  show (Code.block id (.loop body)).wp P _ a w
  refine wp_block ?_
  refine wp_loop_k (fun k a w => ∃ s g, Fr n (Γ s g) a ∧ St w0 I (L s g) w ∧ loopN f k s = some o) ?_ ?_ ⟨s, g, hF, hS, ho⟩
  · rintro a w ⟨s, g, _, _, h⟩; simp [loopN] at h
  · rintro k a w ⟨s, g, hF, hS, hk⟩
    simp only [loopN] at hk
    cases hf : f s with
    | none => simp [hf] at hk
    | some x =>
      rw [hf] at hk
      have h1 := hb s g a w hF hS x hf
      refine wp_mono h1 ?_
      intro e a' w' h
      cases x with
      | next s' =>
        obtain ⟨g', rfl, hF', hS'⟩ := h
        exact ⟨s', g', hF', hS', hk⟩
      | brk s' =>
        obtain ⟨g', rfl, hF', hS'⟩ := h
        obtain rfl := Option.some.inj hk
        show Exit.inBlock id _ (.exit id) a' w'
        simp only [Exit.inBlock, if_true]
        exact ⟨g', rfl, hF', hS'⟩
      | ret r =>
        obtain rfl := Option.some.inj hk
        rcases hR r e a' w' h with rfl | ⟨j, rfl, hj⟩
        · exact h
        · show Exit.inBlock id _ (.exit j) a' w'
          simp only [Exit.inBlock, hj, if_false]
          exact h
end

end Go.Sx
