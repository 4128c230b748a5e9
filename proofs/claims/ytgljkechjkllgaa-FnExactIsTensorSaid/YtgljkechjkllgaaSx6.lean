/- Sx6: slices made, appended to, cut; literals; strings; function values. -/
import Derived.Test.YtgljkechjkllgaaSx5
import Derived.Laws.Slices
namespace Go.Sx
open Go.RowKit

/-- A length is asked to be moderate. -/
def small {α : Type} (n : Nat) (k : Option α) : Option α := if n ≤ 1099511627776 then k else none

def SV.cut (s : SV) (l h c sz : Nat) : SV := ⟨if c = l then s.a else s.a.map (·.add (l * sz)), h - l, c - l⟩

theorem encs_drop {β : Type} (E : FE β) : ∀ (ys : List β) (l : Nat), encs E (ys.drop l) = (encs E ys).drop (l * E.sz)
  | ys, 0 => by simp
  | [], l + 1 => by simp [encs]
  | y :: ys, l + 1 => by
    have ih := encs_drop E ys l
    rw [List.drop_succ_cons, ih, show (l + 1) * E.sz = (E.enc y).length + l * E.sz by rw [E.len, Nat.add_mul]; omega]
    simp only [encs, List.flatMap_cons, List.drop_length_add_append]
theorem encs_take {β : Type} (E : FE β) : ∀ (ys : List β) (l : Nat), l ≤ ys.length → encs E (ys.take l) = (encs E ys).take (l * E.sz)
  | ys, 0, _ => by simp [encs]
  | [], l + 1, h => by simp at h
  | y :: ys, l + 1, h => by
    have ih := encs_take E ys l (by simpa using h)
    rw [List.take_succ_cons, show (l + 1) * E.sz = (E.enc y).length + l * E.sz by rw [E.len, Nat.add_mul]; omega]
    simp only [encs, List.flatMap_cons] at ih ⊢
    rw [ih, List.take_length_add_append]

theorem Reads.cut {β : Type} {E : FE β} {I : Hp} {s : SV} {ys : List β} (hr : Reads E I s ys) {l h c : Nat} (h1 : l ≤ h) (h2 : h ≤ ys.length) (h3 : h ≤ c) (h4 : c ≤ s.c) : Reads E I (s.cut l h c E.sz) ((ys.drop l).take (h - l)) := by
  obtain ⟨r0, r1, r2, r3⟩ := hr
  have hlen : ((ys.drop l).take (h - l)).length = h - l := by simp; omega
  refine ⟨by rw [hlen]; rfl, by simp only [SV.cut]; omega, by simp only [SV.cut]; omega, ?_⟩
  rcases r3 with rfl | ⟨b, o, cs, T, fr, ha, hb, hc⟩
  · simp at h2; left; simp
  · by_cases hcl : c = l
    · left
      have : h - l = 0 := by omega
      rw [this]; simp
    · right
      refine ⟨b, o + l * E.sz, cs, T, fr, by simp [SV.cut, hcl, ha, add_none], hb, ?_⟩
      intro j u hu
      rw [encs_take _ _ _ (by simp; omega), encs_drop, List.getElem?_take] at hu
      split at hu
      · rw [List.getElem?_drop] at hu
        have := hc _ u hu
        rwa [← Nat.add_assoc] at this
      · cases hu

section
variable {P : Program} {w0 : World} {n : Nat} {I : Hp} {Γ : Gm} {L : List Asn} {cs : List Code} {α : Type} {m : Option α} {D : α → Post} {ops : Array Oper} {os : List Oper}
variable {d : Nat} {ty : TypeId} {pos : String} {af : Array Edge} {g : Option (Nat × Bool)}

theorem TL.small {k : Nat} (kk : k ≤ 1099511627776 → TL P w0 n I Γ L ops os cs m D) : TL P w0 n I Γ L ops os cs (Sx.small k m) D := by
  intro a w hF hS r hr
  unfold Sx.small at hr
  split at hr
  · rename_i hb
    exact kk hb a w hF hS r hr
  · cases hr

theorem Rd.cut {β : Type} {E : FE β} {s : SV} {ys : List β} (hr : Rd w0 I L E s ys) {l h : Nat} (h1 : l ≤ h) (h2 : h ≤ ys.length) : Rd w0 I L E (s.cut l h s.c E.sz) ((ys.drop l).take (h - l)) := fun w hS =>
  (hr w hS).cut h1 h2 (by obtain ⟨r0, r1, _⟩ := hr w hS; omega) (Nat.le_refl _)

/-- How the bounds of a slice expression are told. -/
def bnd (Γ : Gm) : Option Operand → Option (Option Int)
  | none => some none
  | some x => match ev Γ x with
    | some (.int _ i) => some (some i)
    | _ => none
theorem bnd_spec {Γ a x r} (hF : Fr n Γ a) (h : bnd Γ x = some r) : (x.map a.eval = none ∧ r = none) ∨ ∃ k i, x.map a.eval = some (.int k i) ∧ r = some i := by
  cases x with
  | none => simp only [bnd, Option.some.injEq] at h; exact .inl ⟨rfl, h.symm⟩
  | some x =>
    simp only [bnd] at h
    split at h
    · rename_i k i hx
      obtain rfl := Option.some.inj h
      exact .inr ⟨k, i, by simp [hF.eval hx], rfl⟩
    · cases h

/-- A cut of a slice without a third index. -/
theorem TL.slice {T e : TypeId} {x : Operand} {lo hi : Option Operand} {s : SV} {β : Type} {E : FE β} {ys : List β} (li hi' : Option Int) (l h : Nat) (hr : Rd w0 I L E s ys) (hT : P.underlying T = some (.slice e)) (hz : ∀ w, (sizeOf e).run P w = .ok E.sz w)
    (hlo : bnd Γ lo = some li) (hhi : bnd Γ hi = some hi') (hl : (li.getD 0) = (l : Int)) (hh : (hi'.getD (ys.length : Int)) = (h : Int)) (h1 : l ≤ h) (h2 : h ≤ ys.length)
    (hg : gd ops Γ ⟨some d, .slice T x lo hi none, ty, pos, af, g⟩ = some true) (hn : Nat.blt d n = true) (hx : ev Γ x = some s.v)
    (k : TL P w0 n I ((d, (s.cut l h s.c E.sz).v) :: Γ) L ops os cs m D) : TL P w0 n I Γ L ops (⟨some d, .slice T x lo hi none, ty, pos, af, g⟩ :: os) cs m D := by
  refine .val hg rfl (by simpa using hn) (fun a w hF hS => run_v ?_) k
  rw [hF.eval hx]
  obtain ⟨r0, r1, _⟩ := hr w hS
  have hb : (Instr.sliceBounds true s.n s.c (lo.map a.eval) (hi.map a.eval) none).run P w = .ok (l, h, s.c) w := by
    rcases bnd_spec hF hlo with ⟨e1, e2⟩ | ⟨k1, i1, e1, e2⟩ <;> rcases bnd_spec hF hhi with ⟨e3, e4⟩ | ⟨k2, i2, e3, e4⟩ <;> subst e2 e4 <;> simp only [Option.getD_none, Option.getD_some] at hl hh <;> rw [e1, e3]
    · have : l = 0 := by omega
      subst this
      simp [Instr.sliceBounds]
      omega
    · have : l = 0 := by omega
      subst this
      simp [Instr.sliceBounds, Instr.sliceBound, asIntOf, show 0 ≤ i2 by omega, show i2 ≤ (s.c : Int) by omega]
      omega
    · simp [Instr.sliceBounds, Instr.sliceBound, asIntOf, show 0 ≤ i1 by omega, show i1 ≤ (s.n : Int) by omega]
      omega
    · simp [Instr.sliceBounds, Instr.sliceBound, asIntOf, show 0 ≤ i2 by omega, show i2 ≤ (s.c : Int) by omega, show 0 ≤ i1 by omega, show i2.toNat = h by omega, show i1.toNat = l by omega]
      all_goals omega
  simp only [Instr.sliceAt, SV.v, Sem.run_bind, run_underlying hT, Result.andThen_ok, Option.map_none, Instr.slice, hb, hz w, Sem.run_pure, SV.cut]

theorem Rd.cut3 {β : Type} {E : FE β} {s : SV} {ys : List β} (hr : Rd w0 I L E s ys) {l h c : Nat} (h1 : l ≤ h) (h2 : h ≤ c) (h3 : c ≤ ys.length) : Rd w0 I L E (s.cut l h c E.sz) ((ys.drop l).take (h - l)) := fun w hS =>
  (hr w hS).cut h1 (by omega) h2 (by obtain ⟨r0, r1, _⟩ := hr w hS; omega)
/-- A cut of a slice with three indices, all within its length. -/
theorem TL.slice3 {T e : TypeId} {x y z : Operand} {lo : Option Operand} {s : SV} {β : Type} {E : FE β} {ys : List β} {li : Option Int} {hi' mi : Int} {l h c : Nat} (hr : Rd w0 I L E s ys) (hT : P.underlying T = some (.slice e)) (hz : ∀ w, (sizeOf e).run P w = .ok E.sz w)
    (hlo : bnd Γ lo = some li) (hhi : bnd Γ (some y) = some (some hi')) (hmi : bnd Γ (some z) = some (some mi)) (hl : (li.getD 0) = (l : Int)) (hh : hi' = (h : Int)) (hc : mi = (c : Int)) (h1 : l ≤ h) (h2 : h ≤ c) (h3 : c ≤ ys.length)
    (hg : gd ops Γ ⟨some d, .slice T x lo (some y) (some z), ty, pos, af, g⟩ = some true) (hn : Nat.blt d n = true) (hx : ev Γ x = some s.v)
    (k : TL P w0 n I ((d, (s.cut l h c E.sz).v) :: Γ) L ops os cs m D) : TL P w0 n I Γ L ops (⟨some d, .slice T x lo (some y) (some z), ty, pos, af, g⟩ :: os) cs m D := by
  refine .val hg rfl (by simpa using hn) (fun a w hF hS => run_v ?_) k
  rw [hF.eval hx]
  obtain ⟨r0, r1, _⟩ := hr w hS
  have hb : (Instr.sliceBounds true s.n s.c (lo.map a.eval) ((some y).map a.eval) ((some z).map a.eval)).run P w = .ok (l, h, c) w := by
    rcases bnd_spec hF hhi with ⟨_, e2⟩ | ⟨k2, i2, e3, e4⟩
    · cases e2
    rcases bnd_spec hF hmi with ⟨_, e2⟩ | ⟨k3, i3, e5, e6⟩
    · cases e2
    injection e4 with e4
    injection e6 with e6
    subst e4 e6
    rcases bnd_spec hF hlo with ⟨e1, e2⟩ | ⟨k1, i1, e1, e2⟩ <;> subst e2 <;> simp only [Option.getD_none, Option.getD_some] at hl <;> rw [e1, e3, e5]
    · have : l = 0 := by omega
      subst this
      simp [Instr.sliceBounds, Instr.sliceBound, asIntOf, show 0 ≤ hi' by omega, show 0 ≤ mi by omega, show mi ≤ (s.c : Int) by omega, show hi'.toNat = h by omega, show mi.toNat = c by omega]
      intro hcc; omega
    · simp [Instr.sliceBounds, Instr.sliceBound, asIntOf, show 0 ≤ hi' by omega, show 0 ≤ mi by omega, show mi ≤ (s.c : Int) by omega, show hi'.toNat = h by omega, show mi.toNat = c by omega, show 0 ≤ i1 by omega, show i1.toNat = l by omega]
      rw [if_pos (by omega), if_pos (by omega)]
  simp only [Instr.sliceAt, SV.v, Sem.run_bind, run_underlying hT, Result.andThen_ok, Option.map_some, Instr.slice] at hb ⊢
  simp only [hb, hz w, Result.andThen_ok, Sem.run_pure, SV.cut, Sem.run_bind]
end
end Go.Sx
