/- Sx4: pieces chosen and let go, ends of blocks, joins and loops. -/
import Derived.Test.YtgljkechjkllgaaSx3
namespace Go.Sx
open Go.RowKit

/-! ### ends -/
abbrev Post := Exit → Act → World → Prop
def Far (id : Nat) (e : Exit) : Prop := e = .ret ∨ ∃ j, e = .exit j ∧ j ≠ id
def DLoop (w0 : World) (n : Nat) (I : Hp) (id : Nat) {σ γ α : Type} (Γ : σ → γ → Gm) (L : σ → γ → List Asn) (Γb : σ → γ → Gm) (Lb : σ → γ → List Asn) (D : α → Post) : LR σ α → Post
  | .next s => fun e a w => ∃ g, Po w0 n .normal I (Γ s g) (L s g) e a w
  | .brk s => fun e a w => ∃ g, Po w0 n (.exit id) I (Γb s g) (Lb s g) e a w
  | .ret r => fun e a w => D r e a w ∧ Far id e
def DAft (w0 : World) (n : Nat) (I : Hp) (id : Nat) {σ γ α : Type} (Γb : σ → γ → Gm) (Lb : σ → γ → List Asn) (D : α → Post) : LO σ α → Post
  | .brk s => fun e a w => ∃ g, Po w0 n .normal I (Γb s g) (Lb s g) e a w
  | .ret r => fun e a w => D r e a w ∧ Far id e
def DJoin (w0 : World) (n : Nat) (I : Hp) {σ γ α : Type} (Γ : σ → γ → Gm) (L : σ → γ → List Asn) (D : α → Post) : σ ⊕ α → Post
  | .inl s => fun e a w => ∃ g, Po w0 n .normal I (Γ s g) (L s g) e a w
  | .inr o => fun e a w => D o e a w ∧ e ≠ .normal
def DBlk (w0 : World) (n : Nat) (I : Hp) (id : Nat) {σ γ α : Type} (Γ : σ → γ → Gm) (L : σ → γ → List Asn) (D : α → Post) : σ ⊕ α → Post
  | .inl s => fun e a w => ∃ g, (e = .normal ∨ e = .exit id) ∧ Fr n (Γ s g) a ∧ St w0 I (L s g) w
  | .inr o => fun e a w => D o e a w ∧ Far id e
/-- No end of this kind. -/
def NoEx (id : Nat) {α : Type} (D : α → Post) : Prop := ∀ o a w, ¬ D o (.exit id) a w

theorem NoEx.body {id : Nat} {α : Type} {P : Program} {fn : Func} {R : α → Ending → World → Prop} : NoEx id (fun o => bodyPost P fn (R o)) := fun _ _ _ h => h
theorem NoEx.loop {id id' : Nat} {α σ γ : Type} {w0 n I} {Γ : σ → γ → Gm} {L : σ → γ → List Asn} {Γb : σ → γ → Gm} {Lb : σ → γ → List Asn} {D : α → Post} (hne : Nat.beq id id' = false) (h : NoEx id D) : NoEx id (DLoop w0 n I id' Γ L Γb Lb D) := by
  intro o a w hd
  cases o with
  | next s => obtain ⟨g, he, _⟩ := hd; cases he
  | brk s => obtain ⟨g, he, _⟩ := hd; injection he with he; subst he; simp at hne
  | ret r => exact h r a w hd.1
theorem NoEx.join {id : Nat} {α σ γ : Type} {w0 n I} {Γ : σ → γ → Gm} {L : σ → γ → List Asn} {D : α → Post} (h : NoEx id D) : NoEx id (DJoin w0 n I Γ L D) := by
  intro o a w hd
  cases o with
  | inl s => obtain ⟨g, he, _⟩ := hd; cases he
  | inr r => exact h r a w hd.1
theorem NoEx.blk {id id' : Nat} {α σ γ : Type} {w0 n I} {Γ : σ → γ → Gm} {L : σ → γ → List Asn} {D : α → Post} (hne : Nat.beq id id' = false) (h : NoEx id D) : NoEx id (DBlk w0 n I id' Γ L D) := by
  intro o a w hd
  cases o with
  | inl s =>
    obtain ⟨g, he, _⟩ := hd
    rcases he with he | he
    · cases he
    · injection he with he; subst he; simp at hne
  | inr r => exact h r a w hd.1

section
variable {P : Program} {w0 : World} {n : Nat} {I : Hp} {Γ : Gm} {L : List Asn} {cs : List Code} {α : Type} {m : Option α} {D : α → Post} {ops : Array Oper} {os : List Oper} {σ γ : Type}

theorem TC.sel (js : List Nat) {L'} (he : ext js L = some L') (k : TC P w0 n I Γ L' cs m D) : TC P w0 n I Γ L cs m D := fun a w hF hS o ho => k a w hF (hS.ext js he) o ho
theorem TL.sel (js : List Nat) {L'} (he : ext js L = some L') (k : TL P w0 n I Γ L' ops os cs m D) : TL P w0 n I Γ L ops os cs m D := fun a w hF hS o ho => k a w hF (hS.ext js he) o ho

/-- A block that nothing leaves by its own exit. -/
theorem TC.block {id : Nat} {c : Code} (hN : NoEx id D) (k : TC P w0 n I Γ L (c :: cs) m D) : TC P w0 n I Γ L (.block id c :: cs) m D := by
  intro a w hF hS o ho
  refine wp_block (wp_mono (k a w hF hS o ho) ?_)
  intro e a' w' h
  cases e with
  | exit j =>
    have h' : D o (.exit j) a' w' := by cases cs <;> exact h
    by_cases hj : j = id
    · subst hj; exact absurd h' (hN o a' w')
    · simp only [Exit.inBlock, hj, if_false]; exact h
  | _ => exact h

/-- What follows a piece that ends by a state, or leaves; a loop that ends, or leaves. -/
def jn {σ α : Type} (k : σ → Option α) : σ ⊕ α → Option α
  | .inl s => k s
  | .inr o => some o
def ln {σ α : Type} (k : σ → Option α) : LO σ α → Option α
  | .brk s => k s
  | .ret r => some r

/-- What stands behind a piece that ends by a state, or leaves. -/
theorem DJoin.go {Γ' : σ → γ → Gm} {L' : σ → γ → List Asn} {D' : σ ⊕ α → Post} {k : σ → Option α}
    (hD : ∀ x e a w, D' x e a w → DJoin w0 n I Γ' L' D x e a w)
    (hk : ∀ s g, TC P w0 n I (Γ' s g) (L' s g) cs (k s) D) :
    ∀ (o1 : σ ⊕ α) e a w, D' o1 e a w → ∀ o, jn k o1 = some o → seqs P cs (D o) e a w := by
  intro o1 e a w h o ho
  replace h := hD _ _ _ _ h
  cases o1 with
  | inl s => obtain ⟨g, h⟩ := h; exact Po.go (hk s g) rfl h o ho
  | inr o' => obtain rfl := Option.some.inj ho; exact seqs_exit h.2 h.1

/-- A piece, joined. -/
theorem TC.join {c : Code} {m1 : Option (σ ⊕ α)} {k : σ → Option α} {Γ' : σ → γ → Gm} {L' : σ → γ → List Asn}
    (h1 : TC P w0 n I Γ L [c] m1 (DJoin w0 n I Γ' L' D)) (hk : ∀ s g, TC P w0 n I (Γ' s g) (L' s g) cs (k s) D) :
    TC P w0 n I Γ L (c :: cs) (m1.bind (jn k)) D :=
  TC.bind h1 (DJoin.go (fun _ _ _ _ h => h) hk)

/-- A piece that does not leave. -/
def DNrm (w0 : World) (n : Nat) (I : Hp) {σ γ : Type} (Γ : σ → γ → Gm) (L : σ → γ → List Asn) : σ → Post := fun s e a w => ∃ g, Po w0 n .normal I (Γ s g) (L s g) e a w
theorem NoEx.nrm {id : Nat} {w0 n I} {Γ : σ → γ → Gm} {L : σ → γ → List Asn} : NoEx id (DNrm w0 n I Γ L) := by rintro o a w ⟨g, he, _⟩; cases he
theorem TC.join1 {c : Code} {m1 : Option σ} {k : σ → Option α} {Γ' : σ → γ → Gm} {L' : σ → γ → List Asn}
    (h1 : TC P w0 n I Γ L [c] m1 (DNrm w0 n I Γ' L')) (hk : ∀ s g, TC P w0 n I (Γ' s g) (L' s g) cs (k s) D) :
    TC P w0 n I Γ L (c :: cs) (m1.bind k) D :=
  TC.bind h1 fun s e a w h o ho => by obtain ⟨g, h⟩ := h; exact Po.go (hk s g) rfl h o ho

/-- A block left by its own exit, too. -/
theorem TC.blockJ {id : Nat} {c : Code} {m1 : Option (σ ⊕ α)} {k : σ → Option α} {Γ' : σ → γ → Gm} {L' : σ → γ → List Asn}
    (h1 : TC P w0 n I Γ L [c] m1 (DBlk w0 n I id Γ' L' D)) (hk : ∀ s g, TC P w0 n I (Γ' s g) (L' s g) cs (k s) D) :
    TC P w0 n I Γ L (.block id c :: cs) (m1.bind (jn k)) D := by
  refine TC.join (Γ' := Γ') (L' := L') ?_ hk
  intro a w hF hS o ho
  refine wp_block (wp_mono (h1 a w hF hS o ho) ?_)
  intro e a' w' h
  cases o with
  | inl s =>
    obtain ⟨g, he, hF', hS'⟩ := h
    rcases he with rfl | rfl
    · exact ⟨g, rfl, hF', hS'⟩
    · show Exit.inBlock id _ (.exit id) a' w'
      simp only [Exit.inBlock, if_true]
      exact ⟨g, rfl, hF', hS'⟩
  | inr o =>
    obtain ⟨hD, hf⟩ := h
    rcases hf with rfl | ⟨j, rfl, hj⟩
    · exact ⟨hD, by simp⟩
    · show Exit.inBlock id _ (.exit j) a' w'
      simp only [Exit.inBlock, hj, if_false]
      exact ⟨hD, by simp⟩

/-- A loop, and what stands behind it. -/
theorem TC.loopK {id : Nat} {body : Code} {f : σ → Option (LR σ α)} {k : σ → Option α} {Γ' : σ → γ → Gm} {L' : σ → γ → List Asn} {Γb : σ → γ → Gm} {Lb : σ → γ → List Asn} (s0 : σ) (g0 : γ)
    (hΓ : Sub Γ (Γ' s0 g0)) (js : List Nat) (hL : ext js L = some (L' s0 g0))
    (hb : ∀ s g, TC P w0 n I (Γ' s g) (L' s g) [body] (f s) (DLoop w0 n I id Γ' L' Γb Lb D))
    (hk : ∀ s g, TC P w0 n I (Γb s g) (Lb s g) cs (k s) D) :
    TC P w0 n I Γ L (.block id (.loop body) :: cs) ((Sx.loop f s0).bind (ln k)) D := by
  refine TC.wk hΓ (TC.sel js hL ?_)
  refine TC.bind (TC.loop (R := fun r e a w => D r e a w ∧ Far id e) (Γ := Γ') (L := L') (Γb := Γb) (Lb := Lb) ?_ ?_ s0 g0) ?_
  · rintro r e a w ⟨_, h⟩; exact h
  · intro s g a w hF hS o ho
    have := hb s g a w hF hS o ho
    cases o <;> exact this
  · intro o1 e a w h o ho
    cases o1 with
    | brk s => obtain ⟨g, h⟩ := h; exact Po.go (hk s g) rfl h o ho
    | ret r =>
      obtain rfl := Option.some.inj ho
      refine seqs_exit ?_ h.1
      rcases h.2 with rfl | ⟨j, rfl, _⟩ <;> simp

/-- A loop that is left by its end alone. -/
inductive LB (σ : Type) where
  | next (s : σ)
  | brk (s : σ)
def LB.lr {σ ρ : Type} : LB σ → LR σ ρ
  | .next s => .next s
  | .brk s => .brk s
def loop1 {σ : Type} (f : σ → Option (LB σ)) (s : σ) : Option σ := match loop (ρ := Empty) (fun s => (f s).map LB.lr) s with
  | some (.brk s) => some s
  | _ => none
def DLoop1 (w0 : World) (n : Nat) (I : Hp) (id : Nat) {σ γ : Type} (Γ : σ → γ → Gm) (L : σ → γ → List Asn) (Γb : σ → γ → Gm) (Lb : σ → γ → List Asn) : LB σ → Post
  | .next s => fun e a w => ∃ g, Po w0 n .normal I (Γ s g) (L s g) e a w
  | .brk s => fun e a w => ∃ g, Po w0 n (.exit id) I (Γb s g) (Lb s g) e a w
theorem NoEx.loop1 {id id' : Nat} {w0 n I} {Γ : σ → γ → Gm} {L : σ → γ → List Asn} {Γb : σ → γ → Gm} {Lb : σ → γ → List Asn} (hne : Nat.beq id id' = false) : NoEx id (DLoop1 w0 n I id' Γ L Γb Lb) := by
  intro o a w hd
  cases o with
  | next s => obtain ⟨g, he, _⟩ := hd; cases he
  | brk s => obtain ⟨g, he, _⟩ := hd; injection he with he; subst he; simp at hne
theorem TC.loop1 {id : Nat} {body : Code} {f : σ → Option (LB σ)} {k : σ → Option α} {Γ' : σ → γ → Gm} {L' : σ → γ → List Asn} {Γb : σ → γ → Gm} {Lb : σ → γ → List Asn} (s0 : σ) (g0 : γ)
    (hΓ : Sub Γ (Γ' s0 g0)) (js : List Nat) (hL : ext js L = some (L' s0 g0))
    (hb : ∀ s g, TC P w0 n I (Γ' s g) (L' s g) [body] (f s) (DLoop1 w0 n I id Γ' L' Γb Lb))
    (hk : ∀ s g, TC P w0 n I (Γb s g) (Lb s g) cs (k s) D) :
    TC P w0 n I Γ L (.block id (.loop body) :: cs) ((Sx.loop1 f s0).bind k) D := by
  intro a w hF hS o ho
  obtain ⟨s1, hs1, hk1⟩ := Option.bind_eq_some_iff.1 ho
  refine TC.loopK (α := α) (f := fun s => (f s).map LB.lr) s0 g0 hΓ js hL (Γb := Γb) (Lb := Lb) (k := k) (D := D) ?_ hk a w hF hS o ?_
  · intro s g a w hF hS o ho
    obtain ⟨x, hx, rfl⟩ := Option.map_eq_some_iff.1 ho
    have := hb s g a w hF hS x hx
    cases x <;> exact this
  · have conv : ∀ k s, loopN (ρ := Empty) (fun s => (f s).map LB.lr) k s = some (.brk s1) → loopN (ρ := α) (fun s => (f s).map LB.lr) k s = some (.brk s1) := by
      intro k
      induction k with
      | zero => intro s h; cases h
      | succ k ih =>
        intro s h
        simp only [loopN] at h ⊢
        cases hf : f s with
        | none => rw [hf] at h; cases h
        | some x =>
          rw [hf] at h
          cases x with
          | next s' => exact ih s' h
          | brk s' =>
            have := Option.some.inj h
            injection this with this
            subst this; rfl
    unfold Sx.loop1 at hs1
    split at hs1
    · rename_i s' hs'
      obtain rfl := Option.some.inj hs1
      have := conv _ _ hs'
      show Option.bind (loopN _ FUEL s0) _ = some o
      rw [this]; exact hk1
    · cases hs1

/-! ### ends, as the generator types them -/
theorem TC.nrm {Γ' : σ → γ → Gm} {L' : σ → γ → List Asn} (s : σ) (g : γ) (hΓ : Sub Γ (Γ' s g)) (js : List Nat) (hL : ext js L = some (L' s g)) : TC P w0 n I Γ L [] (some s) (DNrm w0 n I Γ' L') :=
  fun _ _ hF hS _ ho => by obtain rfl := Option.some.inj ho; exact ⟨g, rfl, hF.sub hΓ, hS.ext js hL⟩
theorem TC.inl {Γ' : σ → γ → Gm} {L' : σ → γ → List Asn} (s : σ) (g : γ) (hΓ : Sub Γ (Γ' s g)) (js : List Nat) (hL : ext js L = some (L' s g)) : TC P w0 n I Γ L [] (some (.inl s)) (DJoin w0 n I Γ' L' D) :=
  fun _ _ hF hS _ ho => by obtain rfl := Option.some.inj ho; exact ⟨g, rfl, hF.sub hΓ, hS.ext js hL⟩
theorem TC.inlB {id : Nat} {Γ' : σ → γ → Gm} {L' : σ → γ → List Asn} (s : σ) (g : γ) (hΓ : Sub Γ (Γ' s g)) (js : List Nat) (hL : ext js L = some (L' s g)) : TC P w0 n I Γ L [] (some (.inl s)) (DBlk w0 n I id Γ' L' D) :=
  fun _ _ hF hS _ ho => by obtain rfl := Option.some.inj ho; exact ⟨g, .inl rfl, hF.sub hΓ, hS.ext js hL⟩
theorem TC.exB {id : Nat} {Γ' : σ → γ → Gm} {L' : σ → γ → List Asn} (s : σ) (g : γ) (hΓ : Sub Γ (Γ' s g)) (js : List Nat) (hL : ext js L = some (L' s g)) : TC P w0 n I Γ L (.exit id :: cs) (some (.inl s)) (DBlk w0 n I id Γ' L' D) :=
  TC.exit fun _ _ hF hS _ ho => by obtain rfl := Option.some.inj ho; exact ⟨g, .inr rfl, hF.sub hΓ, hS.ext js hL⟩
theorem TC.next {id : Nat} {Γ' : σ → γ → Gm} {L' : σ → γ → List Asn} {Γb : σ → γ → Gm} {Lb : σ → γ → List Asn} (s : σ) (g : γ) (hΓ : Sub Γ (Γ' s g)) (js : List Nat) (hL : ext js L = some (L' s g)) : TC P w0 n I Γ L [] (some (.next s)) (DLoop w0 n I id Γ' L' Γb Lb D) :=
  fun _ _ hF hS _ ho => by obtain rfl := Option.some.inj ho; exact ⟨g, rfl, hF.sub hΓ, hS.ext js hL⟩
theorem TC.brk {id : Nat} {Γ' : σ → γ → Gm} {L' : σ → γ → List Asn} {Γb : σ → γ → Gm} {Lb : σ → γ → List Asn} (s : σ) (g : γ) (hΓ : Sub Γ (Γb s g)) (js : List Nat) (hL : ext js L = some (Lb s g)) : TC P w0 n I Γ L (.exit id :: cs) (some (.brk s)) (DLoop w0 n I id Γ' L' Γb Lb D) :=
  TC.exit fun _ _ hF hS _ ho => by obtain rfl := Option.some.inj ho; exact ⟨g, rfl, hF.sub hΓ, hS.ext js hL⟩
theorem TC.next1 {id : Nat} {Γ' : σ → γ → Gm} {L' : σ → γ → List Asn} {Γb : σ → γ → Gm} {Lb : σ → γ → List Asn} (s : σ) (g : γ) (hΓ : Sub Γ (Γ' s g)) (js : List Nat) (hL : ext js L = some (L' s g)) : TC P w0 n I Γ L [] (some (.next s)) (DLoop1 w0 n I id Γ' L' Γb Lb) :=
  fun _ _ hF hS _ ho => by obtain rfl := Option.some.inj ho; exact ⟨g, rfl, hF.sub hΓ, hS.ext js hL⟩
theorem TC.brk1 {id : Nat} {Γ' : σ → γ → Gm} {L' : σ → γ → List Asn} {Γb : σ → γ → Gm} {Lb : σ → γ → List Asn} (s : σ) (g : γ) (hΓ : Sub Γ (Γb s g)) (js : List Nat) (hL : ext js L = some (Lb s g)) : TC P w0 n I Γ L (.exit id :: cs) (some (.brk s)) (DLoop1 w0 n I id Γ' L' Γb Lb) :=
  TC.exit fun _ _ hF hS _ ho => by obtain rfl := Option.some.inj ho; exact ⟨g, rfl, hF.sub hΓ, hS.ext js hL⟩

/-- An end that lies further out: what holds of it there, and that it is far. -/
def Fin (w0 : World) (n : Nat) (I : Hp) (Γ : Gm) (L : List Asn) (e : Exit) (r : α) (D : α → Post) : Prop := ∀ a w, Fr n Γ a → St w0 I L w → D r e a w
theorem Fin.loop {id : Nat} {e : Exit} {r : α} {Γ' : σ → γ → Gm} {L' : σ → γ → List Asn} {Γb : σ → γ → Gm} {Lb : σ → γ → List Asn} (hf : Far id e) (h : Fin w0 n I Γ L e r D) : Fin w0 n I Γ L e (LR.ret r) (DLoop w0 n I id Γ' L' Γb Lb D) := fun a w hF hS => ⟨h a w hF hS, hf⟩
theorem Fin.join {e : Exit} {r : α} {Γ' : σ → γ → Gm} {L' : σ → γ → List Asn} (hf : e ≠ .normal) (h : Fin w0 n I Γ L e r D) : Fin w0 n I Γ L e (Sum.inr r) (DJoin w0 n I Γ' L' D) := fun a w hF hS => ⟨h a w hF hS, hf⟩
theorem Fin.blk {id : Nat} {e : Exit} {r : α} {Γ' : σ → γ → Gm} {L' : σ → γ → List Asn} (hf : Far id e) (h : Fin w0 n I Γ L e r D) : Fin w0 n I Γ L e (Sum.inr r) (DBlk w0 n I id Γ' L' D) := fun a w hF hS => ⟨h a w hF hS, hf⟩
theorem Fin.body {fn : Func} {R : α → Value → List Asn → Prop} {r : α} {e : Exit} (h : ∀ a w, Fr n Γ a → St w0 I L w → ∀ o, some r = some o → bodyPost P fn (RetM w0 I (R o)) e a w) : Fin w0 n I Γ L e r (fun o => bodyPost P fn (RetM w0 I (R o))) := fun a w hF hS => h a w hF hS r rfl
/-- Ends at the place itself: the next round of an outer loop, its break, an outer block's exit. -/
theorem Fin.brk {id : Nat} {Γ' : σ → γ → Gm} {L' : σ → γ → List Asn} {Γb : σ → γ → Gm} {Lb : σ → γ → List Asn} (s : σ) (g : γ) (hΓ : Sub Γ (Γb s g)) (js : List Nat) (hL : ext js L = some (Lb s g)) : Fin w0 n I Γ L (.exit id) (LR.brk s) (DLoop w0 n I id Γ' L' Γb Lb D) :=
  fun _ _ hF hS => ⟨g, rfl, hF.sub hΓ, hS.ext js hL⟩
theorem Fin.exB {id : Nat} {Γ' : σ → γ → Gm} {L' : σ → γ → List Asn} (s : σ) (g : γ) (hΓ : Sub Γ (Γ' s g)) (js : List Nat) (hL : ext js L = some (L' s g)) : Fin w0 n I Γ L (.exit id) (Sum.inl s) (DBlk w0 n I id Γ' L' D) :=
  fun _ _ hF hS => ⟨g, .inr rfl, hF.sub hΓ, hS.ext js hL⟩
theorem TC.retF {r : α} (h : Fin w0 n I Γ L .ret r D) : TC P w0 n I Γ L (.ret :: cs) (some r) D :=
  TC.ret fun a w hF hS o ho => by obtain rfl := Option.some.inj ho; exact h a w hF hS
theorem TC.exitF {id : Nat} {r : α} (h : Fin w0 n I Γ L (.exit id) r D) : TC P w0 n I Γ L (.exit id :: cs) (some r) D :=
  TC.exit fun a w hF hS o ho => by obtain rfl := Option.some.inj ho; exact h a w hF hS
theorem TC.nilF {r : α} (h : Fin w0 n I Γ L .normal r D) : TC P w0 n I Γ L [] (some r) D :=
  fun a w hF hS o ho => by obtain rfl := Option.some.inj ho; exact h a w hF hS
theorem Fin.sel {e : Exit} {r : α} (js : List Nat) {L'} (he : ext js L = some L') (h : Fin w0 n I Γ L' e r D) : Fin w0 n I Γ L e r D := fun a w hF hS => h a w hF (hS.ext js he)
theorem Far.ret {id : Nat} : Far id .ret := .inl rfl
theorem Far.exit {id j : Nat} (h : Nat.beq j id = false) : Far id (.exit j) := .inr ⟨j, rfl, fun e => by subst e; simp at h⟩

/-! ### inside a region -/
theorem wpList_append {Q : Post} : ∀ (xs ys : List Oper) (a : Act) (w : World),
    wpList P ops (fun e a w => match e with | .normal => wpList P ops Q ys a w | e => Q e a w) xs a w → wpList P ops Q (xs ++ ys) a w := by
  intro xs
  induction xs with
  | nil => intro ys a w h; exact h
  | cons o xs ih =>
    intro ys a w h
    have hQ : ∀ {K : Act → World → Prop}, o.wp P a w K (fun e a w => match e with | .normal => wpList P ops Q ys a w | e => Q e a w) → o.wp P a w K Q := by
      intro K hh
      unfold Oper.wp at *
      generalize (execOp a.eval o).run P w = r at *
      cases r with
      | ok nx w' =>
        cases nx <;> simp only [Oper.upon] at hh ⊢ <;>
          first
            | exact hh
            | (refine Calls.mono hh (fun e w'' he => ?_); cases e <;> exact he)
      | halt x w' => cases x <;> simp only [Oper.upon] at hh ⊢ <;> exact hh
    simp only [wpList, List.cons_append] at h ⊢
    split
    · rename_i hw
      rw [if_pos hw] at h
      rcases h with h | ⟨h1, a0, w1, h2⟩
      · exact .inl (Oper.wp_mono (ih ys) (hQ h))
      · exact .inr ⟨h1, a0, w1, h2⟩
    · rename_i hw
      rw [if_neg hw] at h
      exact ih ys _ _ h

/-- The first k operations by themselves. -/
theorem TL.cut (k : Nat) {β : Type} {m1 : Option β} {kk : β → Option α} {D1 : β → Post}
    (h1 : TL P w0 n I Γ L ops (os.take k) [] m1 D1)
    (h2 : ∀ o1 e a w, D1 o1 e a w → e = .normal ∧ ∀ o, kk o1 = some o → wpList P ops (seqs P cs (D o)) (os.drop k) a w) :
    TL P w0 n I Γ L ops os cs (m1.bind kk) D := by
  intro a w hF hS o ho
  obtain ⟨o1, ho1, ho2⟩ := Option.bind_eq_some_iff.1 ho
  rw [← List.take_append_drop k os]
  refine wpList_append _ _ _ _ ?_
  have := h1 a w hF hS o1 ho1
  simp only [seqs] at this
  refine wpList_monoQ ?_ _ _ _ this
  intro e a w h
  obtain ⟨rfl, h'⟩ := h2 o1 e a w h
  exact h' o ho2
where
  wpList_monoQ {P : Program} {ops : Array Oper} {Q Q' : Post} (hQ : ∀ e a w, Q e a w → Q' e a w) : ∀ (xs : List Oper) (a : Act) (w : World), wpList P ops Q xs a w → wpList P ops Q' xs a w := by
    intro xs
    induction xs with
    | nil => intro a w h; exact hQ _ _ _ h
    | cons o xs ih =>
      intro a w h
      have hK : ∀ {K : Act → World → Prop}, o.wp P a w K Q → o.wp P a w K Q' := by
        intro K hh
        unfold Oper.wp at *
        generalize (execOp a.eval o).run P w = r at *
        cases r with
        | ok nx w' =>
          cases nx <;> simp only [Oper.upon] at hh ⊢ <;>
            first
              | exact hh
              | (refine Calls.mono hh (fun e w'' he => ?_); cases e <;> first | exact he | exact hQ _ _ _ he | (obtain ⟨a, w, h⟩ := he; exact ⟨a, w, hQ _ _ _ h⟩))
        | halt x w' => cases x <;> simp only [Oper.upon] at hh ⊢ <;> first | exact hh | exact hQ _ _ _ hh
      simp only [wpList] at h ⊢
      split
      · rename_i hw
        rw [if_pos hw] at h
        rcases h with h | ⟨h1, a0, w1, h2⟩
        · exact .inl (Oper.wp_mono ih (hK h))
        · exact .inr ⟨h1, a0, w1, hQ _ _ _ h2⟩
      · rename_i hw
        rw [if_neg hw] at h
        exact ih _ _ h

/-- A part of a region that is joined: what it tells is a state. -/
theorem TL.cutJ (k : Nat) {m1 : Option σ} {kk : σ → Option α} {Γ' : σ → γ → Gm} {L' : σ → γ → List Asn}
    (h1 : TL P w0 n I Γ L ops (os.take k) [] m1 (DNrm w0 n I Γ' L'))
    (h2 : ∀ s g, TL P w0 n I (Γ' s g) (L' s g) ops (os.drop k) cs (kk s) D) : TL P w0 n I Γ L ops os cs (m1.bind kk) D :=
  TL.cut k h1 fun s e a w h => by obtain ⟨g, rfl, hF, hS⟩ := h; exact ⟨rfl, fun o ho => h2 s g a w hF hS o ho⟩
/-- The same where it tells nothing. -/
theorem TL.cutU (k : Nat) (Γ' : Gm) (L' : List Asn)
    (h1 : TL P w0 n I Γ L ops (os.take k) [] (some ()) (DNrm w0 n I (fun (_ : Unit) (_ : Unit) => Γ') (fun _ _ => L')))
    (h2 : TL P w0 n I Γ' L' ops (os.drop k) cs m D) : TL P w0 n I Γ L ops os cs m D := by
  intro a w hF hS o ho
  exact TL.cut k (kk := fun _ => m) h1 (fun s e a w h => by obtain ⟨g, rfl, hF, hS⟩ := h; exact ⟨rfl, fun o ho => h2 a w hF hS o ho⟩) a w hF hS o ho

/-- A test by cases. -/
theorem TL.ifb {t : Nat} {b : Bool} {m1 m2 : Option α} (hl : lk Γ t = some (.bool b))
    (k1 : b = true → TL P w0 n I ((t, .bool true) :: Γ) L ops os cs m1 D) (k2 : b = false → TL P w0 n I ((t, .bool false) :: Γ) L ops os cs m2 D) :
    TL P w0 n I Γ L ops os cs (bif b then m1 else m2) D := by
  intro a w hF hS o ho
  cases b with
  | true => exact k1 rfl a w ⟨hF.size, hF.nod, fun t' v' h' => by
      simp only [lk] at h'
      cases hb : Nat.beq t t' with
      | true => rw [hb] at h'; obtain rfl := Nat.eq_of_beq_eq_true hb; obtain rfl := Option.some.inj h'; exact hF.has _ _ hl
      | false => rw [hb] at h'; exact hF.has _ _ h'⟩ hS o ho
  | false => exact k2 rfl a w ⟨hF.size, hF.nod, fun t' v' h' => by
      simp only [lk] at h'
      cases hb : Nat.beq t t' with
      | true => rw [hb] at h'; obtain rfl := Nat.eq_of_beq_eq_true hb; obtain rfl := Option.some.inj h'; exact hF.has _ _ hl
      | false => rw [hb] at h'; exact hF.has _ _ h'⟩ hS o ho
theorem TL.cases {t : Nat} {b : Bool} (hl : lk Γ t = some (.bool b))
    (k1 : b = true → TL P w0 n I ((t, .bool true) :: Γ) L ops os cs m D) (k2 : b = false → TL P w0 n I ((t, .bool false) :: Γ) L ops os cs m D) :
    TL P w0 n I Γ L ops os cs m D := by
  intro a w hF hS o ho
  refine TL.ifb (m1 := m) (m2 := m) hl k1 k2 a w hF hS o ?_
  cases b <;> exact ho
end
end Go.Sx
