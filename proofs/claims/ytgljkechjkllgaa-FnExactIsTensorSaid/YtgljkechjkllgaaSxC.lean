/- SxC: calls of functions that write to pieces that are handed to them. -/
import Derived.Test.YtgljkechjkllgaaSxB
namespace Go.Sx
open Go.RowKit

theorem Sat.parts {LA LB : List Asn} : ∀ {ρ}, Sat (LA ++ LB) ρ → ∃ ρA ρB, ρ = ρA ++ ρB ∧ Sat LA ρA ∧ Sat LB ρB := by
  induction LA with
  | nil => intro ρ h; exact ⟨[], ρ, rfl, rfl, h⟩
  | cons A LA ih =>
    rintro ρ ⟨ρ1, ρ2, rfl, h1, h2⟩
    obtain ⟨ρA, ρB, rfl, hA, hB⟩ := ih h2
    exact ⟨ρ1 ++ ρA, ρB, by simp, ⟨ρ1, ρA, rfl, h1, hA⟩, hB⟩

/-- Pieces that are only looked at. -/
def Held (LB : List Asn) (J : Hp) : Prop := ∃ ρB, Sat LB ρB ∧ ∀ p ∈ ρB, J p.1 = some p.2
theorem Held.piece {LB : List Asn} {J : Hp} (h : Held LB J) {k : Nat} {A : Asn} (hk : LB[k]? = some A) : ∃ ρA, A ρA ∧ ∀ p ∈ ρA, J p.1 = some p.2 := by
  obtain ⟨ρB, hs, hh⟩ := h
  obtain ⟨ρ1, ρA, ρ2, rfl, hA, _, _⟩ := hs.focus hk
  exact ⟨ρA, hA, fun p hp' => hh p (by simp [hp'])⟩
theorem Held.reads {β : Type} {E : FE β} {LB : List Asn} {J : Hp} {T : TypeId} {s : SV} {ys : List β} (h : Held LB J) (k : Nat) (hk : LB[k]? = some (row E T s ys)) : Reads E J s ys := by
  obtain ⟨ρA, hA, hh⟩ := h.piece hk
  exact row_reads hA hh
theorem Held.at {LB : List Asn} {J : Hp} {T : TypeId} {b : Nat} {segs : List Seg} (h : Held LB J) (k : Nat) (hk : LB[k]? = some (box b T segs)) : At J b segs := by
  obtain ⟨ρA, hA, hh⟩ := h.piece hk
  simp only [box] at hA
  subst hA
  exact ⟨T, (0, 0), hh _ (List.mem_singleton.2 rfl)⟩

theorem St.split {w0 : World} {I : Hp} {LA LB : List Asn} {w : World} (h : St w0 I (LA ++ LB) w) :
    ∃ I', Hle I I' ∧ Held LB I' ∧ St w0 I' LA w ∧ ∀ L' w', St w0 I' L' w' → St w0 I (L' ++ LB) w' := by
  obtain ⟨ρ, hs, ho⟩ := h.own
  obtain ⟨ρA, ρB, rfl, hA, hB⟩ := hs.parts
  have hnd := ho.nodup
  rw [List.map_append, List.nodup_append] at hnd
  obtain ⟨n1, n2, n3⟩ := hnd
  have hB1 : ∀ p ∈ ρB, I p.1 = none ∧ w.heap[p.1]? = some p.2 := fun p hp' => ho.here p (List.mem_append.2 (.inr hp'))
  have hA1 : ∀ p ∈ ρA, I p.1 = none ∧ w.heap[p.1]? = some p.2 := fun p hp' => ho.here p (List.mem_append.2 (.inl hp'))
  let I' : Hp := fun b => if b ∈ ρB.map (·.1) then w.heap[b]? else I b
  have hle : Hle I I' := by
    intro b o hb
    show (if b ∈ ρB.map (·.1) then w.heap[b]? else I b) = some o
    rw [if_neg]
    · exact hb
    · intro hm
      obtain ⟨p, hp1, rfl⟩ := List.mem_map.1 hm
      rw [(hB1 p hp1).1] at hb; cases hb
  have hI'B : ∀ p ∈ ρB, I' p.1 = some p.2 := by
    intro p hp'
    show (if p.1 ∈ ρB.map (·.1) then w.heap[p.1]? else I p.1) = some p.2
    rw [if_pos (List.mem_map_of_mem hp')]
    exact (hB1 p hp').2
  refine ⟨I', hle, ⟨ρB, hB, hI'B⟩, ⟨h.below, h.i0.trans hle, ?_, ρA, hA, n1, ?_⟩, ?_⟩
  · intro b o hb
    have hb' : (if b ∈ ρB.map (·.1) then w.heap[b]? else I b) = some o := hb
    split at hb'
    · exact hb'
    · exact h.iw b o hb'
  · intro p hp'
    refine ⟨?_, (hA1 p hp').2⟩
    show (if p.1 ∈ ρB.map (·.1) then w.heap[p.1]? else I p.1) = none
    rw [if_neg (fun hm => n3 p.1 (List.mem_map_of_mem hp') p.1 hm rfl)]
    exact (hA1 p hp').1
  · intro L' w' h'
    obtain ⟨ρ', hs', ho'⟩ := h'.own
    refine ⟨h'.below, h.i0, hle.trans h'.iw, ρ' ++ ρB, hs'.append hB, ?_, ?_⟩
    · rw [List.map_append, List.nodup_append]
      refine ⟨ho'.nodup, n2, ?_⟩
      rintro a ha b hb rfl
      obtain ⟨p, hp1, rfl⟩ := List.mem_map.1 ha
      obtain ⟨q, hq1, hq2⟩ := List.mem_map.1 hb
      have h1 := (ho'.here p hp1).1
      have h2 := hI'B q hq1
      rw [hq2, h1] at h2; cases h2
    · intro p hp'
      rcases List.mem_append.1 hp' with hm | hm
      · refine ⟨?_, (ho'.here p hm).2⟩
        cases hc : I p.1 with
        | none => rfl
        | some o => have := hle _ _ hc; rw [(ho'.here p hm).1] at this; cases this
      · exact ⟨(hB1 p hm).1, h'.iw _ _ (hI'B p hm)⟩

section
variable {P : Program} {w0 : World} {n : Nat} {I : Hp} {Γ : Gm} {L : List Asn} {cs : List Code} {α : Type} {m : Option α} {D : α → Post} {ops : Array Oper} {os : List Oper}
variable {d : Nat} {ty : TypeId} {pos : String} {af : Array Edge} {g : Option (Nat × Bool)}

theorem TL.callX {β : Type} {f : FuncId} {args : Array Operand} {ts : Array TypeId} {vs : List Value} {mf : Option β} {kont : β → Option α} {R : β → Value → List Asn → Prop} (perm : List Nat) (LA LB : List Asn) (hp : ext perm L = some (LA ++ LB))
    (hcall : ∀ (args : Array Value) (w : World), (callFunc f args).run P w = .ok (.enter f args) w)
    (hg : gd ops Γ ⟨some d, .call { callee := .value (.func f), args := args, argTypes := ts }, ty, pos, af, g⟩ = some true) (hn : Nat.blt d n = true) (hx : evs Γ args.toList = some vs)
    (hc : ∀ w I', Hle I I' → Held LB I' → St w0 I' LA w → ∀ r, mf = some r → Calls P f vs.toArray w (RetM w0 I' (R r)))
    (k : ∀ r v L', R r v L' → TL P w0 n I ((d, v) :: Γ) (L' ++ LB) ops os cs (kont r) D) :
    TL P w0 n I Γ L ops (⟨some d, .call { callee := .value (.func f), args := args, argTypes := ts }, ty, pos, af, g⟩ :: os) cs (mf.bind kont) D := by
  intro a w hF hS r hr
  obtain ⟨r1, hr1, hr2⟩ := Option.bind_eq_some_iff.1 hr
  refine TL.core (m := some r) (D := D) hg (fun a w hF hS r' hr' => ?_) a w hF hS r rfl
  obtain rfl := Option.some.inj hr'
  unfold Oper.wp
  rw [run_call hcall hF hx, Oper.upon_enter]
  obtain ⟨I', h1, h2, h3, h4⟩ := (hS.ext perm hp).split
  refine (hc w I' h1 h2 h3 r1 hr1).mono ?_
  rintro e w' ⟨v, L', rfl, hR, hS'⟩
  exact k r1 v L' hR _ _ (hF.put (by simpa using hn)) (h4 L' w' hS') _ hr2
theorem TL.callX0 {β : Type} {f : FuncId} {args : Array Operand} {ts : Array TypeId} {vs : List Value} {mf : Option β} {kont : β → Option α} {R : β → Value → List Asn → Prop} (perm : List Nat) (LA LB : List Asn) (hp : ext perm L = some (LA ++ LB))
    (hcall : ∀ (args : Array Value) (w : World), (callFunc f args).run P w = .ok (.enter f args) w)
    (hg : gd ops Γ ⟨none, .call { callee := .value (.func f), args := args, argTypes := ts }, ty, pos, af, g⟩ = some true) (hx : evs Γ args.toList = some vs)
    (hc : ∀ w I', Hle I I' → Held LB I' → St w0 I' LA w → ∀ r, mf = some r → Calls P f vs.toArray w (RetM w0 I' (R r)))
    (k : ∀ r v L', R r v L' → TL P w0 n I Γ (L' ++ LB) ops os cs (kont r) D) :
    TL P w0 n I Γ L ops (⟨none, .call { callee := .value (.func f), args := args, argTypes := ts }, ty, pos, af, g⟩ :: os) cs (mf.bind kont) D := by
  intro a w hF hS r hr
  obtain ⟨r1, hr1, hr2⟩ := Option.bind_eq_some_iff.1 hr
  refine TL.core (m := some r) (D := D) hg (fun a w hF hS r' hr' => ?_) a w hF hS r rfl
  obtain rfl := Option.some.inj hr'
  unfold Oper.wp
  rw [run_call hcall hF hx, Oper.upon_enter]
  obtain ⟨I', h1, h2, h3, h4⟩ := (hS.ext perm hp).split
  refine (hc w I' h1 h2 h3 r1 hr1).mono ?_
  rintro e w' ⟨v, L', rfl, hR, hS'⟩
  exact k r1 v L' hR _ _ hF (h4 L' w' hS') _ hr2
end
end Go.Sx
