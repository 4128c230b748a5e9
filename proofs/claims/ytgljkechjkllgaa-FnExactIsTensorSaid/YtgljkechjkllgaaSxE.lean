/- SxE: slices of slices. -/
import Derived.Test.YtgljkechjkllgaaSxD
namespace Go.Sx
open Go.RowKit

instance : Inhabited SV := ⟨⟨none, 0, 0⟩⟩

/-! ### rows of one's own, apart from one another -/
def rows {α : Type} (E : FE α) (T : TypeId) : List SV → List (List α) → Asn
  | [], [] => fun ρ => ρ = []
  | s :: ss, ys :: yss => fun ρ => ∃ ρ1 ρ2, ρ = ρ1 ++ ρ2 ∧ row E T s ys ρ1 ∧ rows E T ss yss ρ2
  | _, _ => fun _ => False

section
variable {α : Type} {E : FE α} {T : TypeId}
theorem rows_length : ∀ {ss : List SV} {yss : List (List α)} {ρ}, rows E T ss yss ρ → ss.length = yss.length
  | [], [], _, _ => rfl
  | [], _ :: _, _, h => h.elim
  | _ :: _, [], _, h => h.elim
  | _ :: ss, _ :: yss, _, h => by
    obtain ⟨ρ1, ρ2, rfl, _, h2⟩ := h
    simp [rows_length h2]
theorem rows_append : ∀ {ss ts : List SV} {yss zss : List (List α)} {ρ ρ'}, rows E T ss yss ρ → rows E T ts zss ρ' → rows E T (ss ++ ts) (yss ++ zss) (ρ ++ ρ')
  | [], _, [], _, _, _, h, h' => by
    have : _ = [] := h
    subst this; exact h'
  | [], _, _ :: _, _, _, _, h, _ => h.elim
  | _ :: _, _, [], _, _, _, h, _ => h.elim
  | s :: ss, ts, ys :: yss, zss, _, ρ', h, h' => by
    obtain ⟨ρ1, ρ2, rfl, h1, h2⟩ := h
    exact ⟨ρ1, ρ2 ++ ρ', by simp, h1, rows_append h2 h'⟩
theorem rows_one {s : SV} {ys : List α} {ρ} (h : row E T s ys ρ) : rows E T [s] [ys] ρ := ⟨ρ, [], by simp, h, rfl⟩
theorem rows_focus : ∀ {ss : List SV} {yss : List (List α)} {ρ} {j : Nat}, rows E T ss yss ρ → j < yss.length →
    ∃ s ys ρ1 ρA ρ2, ss[j]? = some s ∧ yss[j]? = some ys ∧ ρ = ρ1 ++ ρA ++ ρ2 ∧ row E T s ys ρA ∧ ∀ s' ys' ρA', row E T s' ys' ρA' → rows E T (ss.set j s') (yss.set j ys') (ρ1 ++ ρA' ++ ρ2)
  | [], [], _, _, _, hj => by simp at hj
  | [], _ :: _, _, _, h, _ => h.elim
  | _ :: _, [], _, _, h, _ => h.elim
  | s :: ss, ys :: yss, _, 0, h, _ => by
    obtain ⟨ρ1, ρ2, rfl, h1, h2⟩ := h
    exact ⟨s, ys, [], ρ1, ρ2, rfl, rfl, by simp, h1, fun s' ys' ρA' h' => ⟨ρA', ρ2, by simp, h', h2⟩⟩
  | s :: ss, ys :: yss, _, j + 1, h, hj => by
    obtain ⟨ρ1, ρ2, rfl, h1, h2⟩ := h
    obtain ⟨u, zs, σ1, σA, σ2, e1, e2, rfl, hA, hset⟩ := rows_focus (j := j) h2 (by simpa using hj)
    exact ⟨u, zs, ρ1 ++ σ1, σA, σ2, by simpa using e1, by simpa using e2, by simp, hA, fun s' ys' ρA' h' => ⟨ρ1, σ1 ++ ρA' ++ σ2, by simp, h1, hset s' ys' ρA' h'⟩⟩
theorem rows_nil : ∀ k, rows E T (List.replicate k ⟨none, 0, 0⟩) (List.replicate k ([] : List α)) []
  | 0 => rfl
  | k + 1 => ⟨[], [], rfl, row_nil E T, rows_nil k⟩

/-- A slice of slices of one's own. T: of the elements of the rows; T2: of the rows. -/
def mat (E : FE α) (T T2 : TypeId) (s : SV) (ss : List SV) (yss : List (List α)) : Asn := fun ρ => ∃ ρ1 ρ2, ρ = ρ1 ++ ρ2 ∧ row Ev T2 s ss ρ1 ∧ rows E T ss yss ρ2
/-- All rows but row j, and how that row is put back. -/
def rowsX (E : FE α) (T : TypeId) (j : Nat) (ss : List SV) (yss : List (List α)) : Asn := fun ρ => j < yss.length ∧ ss.length = yss.length ∧
  ∃ σ1 σ2, ρ = σ1 ++ σ2 ∧ ∀ s' ys' σA, row E T s' ys' σA → rows E T (ss.set j s') (yss.set j ys') (σ1 ++ σA ++ σ2)
def matX (E : FE α) (T T2 : TypeId) (j : Nat) (s : SV) (ss : List SV) (yss : List (List α)) : Asn := fun ρ => ∃ ρ1 ρ2, ρ = ρ1 ++ ρ2 ∧ row Ev T2 s ss ρ1 ∧ rowsX E T j ss yss ρ2

/-- What is only read. -/
def ReadsM (E : FE α) (I : Hp) (s : SV) (ss : List SV) (yss : List (List α)) : Prop :=
  Reads Ev I s ss ∧ ss.length = yss.length ∧ ∀ (j : Nat) (u : SV) (ys : List α), ss[j]? = some u → yss[j]? = some ys → Reads E I u ys
theorem ReadsM.mono {I J : Hp} {s ss} {yss : List (List α)} (h : ReadsM E I s ss yss) (hIJ : Hle I J) : ReadsM E J s ss yss :=
  ⟨h.1.mono hIJ, h.2.1, fun j u ys h1 h2 => (h.2.2 j u ys h1 h2).mono hIJ⟩
def RdM (w0 : World) (I : Hp) (L : List Asn) (E : FE α) (s : SV) (ss : List SV) (yss : List (List α)) : Prop := ∀ w, St w0 I L w → ReadsM E (hp w) s ss yss
theorem RdM.old {w0 I L s ss} {yss : List (List α)} (h : ReadsM E I s ss yss) : RdM w0 I L E s ss yss := fun _ hS => h.mono hS.iw
theorem rows_reads {I : Hp} : ∀ {ss : List SV} {yss : List (List α)} {ρ}, rows E T ss yss ρ → (∀ p ∈ ρ, I p.1 = some p.2) → ∀ (j : Nat) u ys, ss[j]? = some u → yss[j]? = some ys → Reads E I u ys
  | [], [], _, _, _, _, _, _, h1, _ => by simp at h1
  | [], _ :: _, _, h, _, _, _, _, _, _ => h.elim
  | _ :: _, [], _, h, _, _, _, _, _, _ => h.elim
  | s :: ss, ys :: yss, _, h, hh, j, u, zs, h1, h2 => by
    obtain ⟨ρ1, ρ2, rfl, hr, h3⟩ := h
    cases j with
    | zero =>
      simp at h1 h2; subst h1 h2
      exact row_reads hr fun p hp' => hh p (List.mem_append.2 (.inl hp'))
    | succ j => exact rows_reads h3 (fun p hp' => hh p (List.mem_append.2 (.inr hp'))) j u zs (by simpa using h1) (by simpa using h2)
theorem mat_reads {T2 s ss} {yss : List (List α)} {ρ} {I : Hp} (h : mat E T T2 s ss yss ρ) (hh : ∀ p ∈ ρ, I p.1 = some p.2) : ReadsM E I s ss yss := by
  obtain ⟨ρ1, ρ2, rfl, h1, h2⟩ := h
  exact ⟨row_reads h1 fun p hp' => hh p (List.mem_append.2 (.inl hp')), rows_length h2, rows_reads h2 fun p hp' => hh p (List.mem_append.2 (.inr hp'))⟩
theorem RdM.mat {w0 I L T2 s ss} {yss : List (List α)} (i : Nat) (hi : L[i]? = some (mat E T T2 s ss yss)) : RdM w0 I L E s ss yss := by
  intro w hS
  obtain ⟨ρA, hA, hh⟩ := hS.get hi
  exact mat_reads hA hh
theorem RdM.out {w0 I L s ss} {yss : List (List α)} (h : RdM w0 I L E s ss yss) : Rd w0 I L Ev s ss := fun w hS => (h w hS).1
theorem RdM.inn {w0 I L s ss} {yss : List (List α)} (h : RdM w0 I L E s ss yss) {i : Int} (hi : 0 ≤ i ∧ i < yss.length) : Rd w0 I L E (gt ss i) (gt yss i) := by
  intro w hS
  obtain ⟨_, h2, h3⟩ := h w hS
  exact h3 i.toNat _ _ (gt_spec (by rw [h2]; exact hi)) (gt_spec hi)
theorem RdM.nil {w0 I L} (E : FE α) : RdM w0 I L E ⟨none, 0, 0⟩ [] [] := fun _ _ => ⟨⟨rfl, Nat.le_refl _, by simp [maxLen], .inl rfl⟩, rfl, fun j u ys h => by simp at h⟩
theorem RdM.cut {w0 I L s ss} {yss : List (List α)} (hr : RdM w0 I L E s ss yss) {l h : Nat} (h1 : l ≤ h) (h2 : h ≤ yss.length) : RdM w0 I L E (s.cut l h s.c Ev.sz) ((ss.drop l).take (h - l)) ((yss.drop l).take (h - l)) := by
  intro w hS
  obtain ⟨a1, a2, a3⟩ := hr w hS
  refine ⟨Rd.cut (fun w hS => (hr w hS).1) h1 (by omega) w hS, by simp [a2], ?_⟩
  intro j u ys hj hj2
  rw [List.getElem?_take] at hj hj2
  split at hj
  · rename_i hlt
    rw [if_pos hlt, List.getElem?_drop] at hj2
    rw [List.getElem?_drop] at hj
    exact a3 _ _ _ hj hj2
  · cases hj
theorem Held.readsM {LB : List Asn} {J : Hp} {T2 : TypeId} {s ss} {yss : List (List α)} (h : Held LB J) (k : Nat) (hk : LB[k]? = some (Sx.mat E T T2 s ss yss)) : ReadsM E J s ss yss := by
  obtain ⟨ρA, hA, hh⟩ := h.piece hk
  exact mat_reads hA hh
end

/-! ### pieces cut and joined -/
theorem St.perm {w0 I w} {L : List Asn} {ρ ρ' : Frag} (h : St w0 I L w) (ho : Own I w ρ) (hp : ρ.Perm ρ') {L' : List Asn} (hs : Sat L' ρ') : St w0 I L' w :=
  ⟨h.below, h.i0, h.iw, ρ', hs, ((hp.map (·.1)).nodup_iff).1 ho.nodup, fun p hm => ho.here p (hp.mem_iff.2 hm)⟩
theorem St.cutp {w0 I w} {L : List Asn} (i : Nat) {A B C : Asn} (hi : L[i]? = some A) (hab : ∀ ρ, A ρ → ∃ ρ1 ρ2, ρ.Perm (ρ1 ++ ρ2) ∧ B ρ1 ∧ C ρ2) (h : St w0 I L w) : St w0 I (B :: L.set i C) w := by
  obtain ⟨ρ, hs, ho⟩ := h.own
  obtain ⟨ρ1, ρA, ρ2, rfl, hA, hset, _⟩ := hs.focus hi
  obtain ⟨σ1, σ2, hp, hB, hC⟩ := hab ρA hA
  refine h.perm ho (ρ' := σ1 ++ (ρ1 ++ σ2 ++ ρ2)) ?_ ⟨σ1, _, rfl, hB, hset C σ2 hC⟩
  refine ((hp.append_left ρ1).append_right ρ2).trans ?_
  rw [← List.append_assoc, ← List.append_assoc, ← List.append_assoc]
  exact (List.perm_append_comm.append_right σ2).append_right ρ2
theorem St.joinp {w0 I w} {L : List Asn} (i k : Nat) {A B C : Asn} (hi : L[i]? = some B) (hk : (L.set i emp)[k]? = some C) (hab : ∀ ρ1 ρ2, B ρ1 → C ρ2 → A (ρ1 ++ ρ2)) (h : St w0 I L w) : St w0 I ((L.set i emp).set k A) w := by
  obtain ⟨ρ, hs, ho⟩ := h.own
  obtain ⟨ρ1, ρB, ρ2, rfl, hB, hset, _⟩ := hs.focus hi
  have h1 := hset emp [] rfl
  obtain ⟨σ1, σC, σ2, he, hC, hset2, _⟩ := h1.focus hk
  refine h.perm ho (ρ' := σ1 ++ (ρB ++ σC) ++ σ2) ?_ (hset2 A (ρB ++ σC) (hab _ _ hB hC))
  have e1 : (ρ1 ++ ρB ++ ρ2).Perm (ρB ++ (ρ1 ++ ρ2)) := by
    rw [← List.append_assoc]
    exact List.perm_append_comm.append_right ρ2
  have e2 : ρ1 ++ ρ2 = σ1 ++ σC ++ σ2 := by simpa using he
  rw [e2] at e1
  refine e1.trans ?_
  rw [← List.append_assoc, ← List.append_assoc, ← List.append_assoc]
  exact (List.perm_append_comm.append_right σC).append_right σ2

section
variable {P : Program} {w0 : World} {n : Nat} {I : Hp} {Γ : Gm} {L : List Asn} {cs : List Code} {β : Type} {m : Option β} {D : β → Post} {ops : Array Oper} {os : List Oper} {α : Type} {E : FE α} {T T2 : TypeId}

theorem St.matopen {w : World} {s ss} {yss : List (List α)} (i : Nat) (j : Int) (hi : L[i]? = some (mat E T T2 s ss yss)) (hj : 0 ≤ j ∧ j < yss.length) (h : St w0 I L w) : St w0 I (row E T (gt ss j) (gt yss j) :: L.set i (matX E T T2 j.toNat s ss yss)) w := by
  refine St.cutp i hi ?_ h
  rintro ρ ⟨ρ1, ρ2, rfl, h1, h2⟩
  have hlen := rows_length h2
  obtain ⟨u, ys, σ1, σA, σ2, e1, e2, rfl, hA, hset⟩ := rows_focus (j := j.toNat) h2 (by omega)
  have g1 := gt_spec (ys := ss) (i := j) (by rw [hlen]; exact hj)
  have g2 := gt_spec (ys := yss) (i := j) hj
  rw [e1] at g1
  rw [e2] at g2
  obtain rfl := Option.some.inj g1
  obtain rfl := Option.some.inj g2
  refine ⟨σA, ρ1 ++ (σ1 ++ σ2), ?_, hA, ρ1, σ1 ++ σ2, rfl, h1, by omega, hlen, σ1, σ2, rfl, hset⟩
  have e : ρ1 ++ (σ1 ++ σA ++ σ2) = (ρ1 ++ σ1) ++ σA ++ σ2 := by simp
  rw [e]
  refine (List.perm_append_comm.append_right σ2).trans ?_
  simp
theorem St.matclose {w : World} {s : SV} {ss : List SV} {yss : List (List α)} {j : Nat} {s' : SV} {ys' : List α} (i k : Nat) (hi : L[i]? = some (row E T s' ys')) (hk : (L.set i emp)[k]? = some (matX E T T2 j s ss yss)) (hs : ss[j]? = some s') (h : St w0 I L w) :
    St w0 I ((L.set i emp).set k (mat E T T2 s ss (yss.set j ys'))) w := by
  obtain ⟨ρ, hs0, ho⟩ := h.own
  obtain ⟨ρ1, ρB, ρ2, rfl, hB, hset, _⟩ := hs0.focus hi
  have h1 := hset emp [] rfl
  obtain ⟨σ1, σC, σ2, he, hC, hset2, _⟩ := h1.focus hk
  obtain ⟨τ1, τ2, rfl, t1, t2, t3, υ1, υ2, rfl, t4⟩ := hC
  have hss : ss.set j s' = ss := by
    apply List.ext_getElem?
    intro q
    rw [List.getElem?_set]
    by_cases hq : j = q
    · subst hq
      rw [if_pos rfl, hs]
      have := (List.getElem?_eq_some_iff.1 hs).1
      simp [this]
    · rw [if_neg hq]
  have hm : mat E T T2 s ss (yss.set j ys') (τ1 ++ (υ1 ++ ρB ++ υ2)) := ⟨τ1, _, rfl, t1, by have := t4 s' ys' ρB hB; rw [hss] at this; exact this⟩
  refine h.perm ho (ρ' := σ1 ++ (τ1 ++ (υ1 ++ ρB ++ υ2)) ++ σ2) ?_ (hset2 _ _ hm)
  have e1 : (ρ1 ++ ρB ++ ρ2).Perm (ρB ++ (ρ1 ++ ρ2)) := by
    rw [← List.append_assoc]
    exact List.perm_append_comm.append_right ρ2
  have e2 : ρ1 ++ ρ2 = σ1 ++ (τ1 ++ (υ1 ++ υ2)) ++ σ2 := by simpa using he
  rw [e2] at e1
  refine e1.trans ?_
  have e3 : σ1 ++ (τ1 ++ (υ1 ++ ρB ++ υ2)) ++ σ2 = (σ1 ++ τ1 ++ υ1) ++ ρB ++ (υ2 ++ σ2) := by simp
  have e4 : ρB ++ (σ1 ++ (τ1 ++ (υ1 ++ υ2)) ++ σ2) = ρB ++ (σ1 ++ τ1 ++ υ1) ++ (υ2 ++ σ2) := by simp
  rw [e3, e4]
  exact List.perm_append_comm.append_right _

theorem TL.matopen {s ss} {yss : List (List α)} (i : Nat) (j : Int) (hi : L[i]? = some (mat E T T2 s ss yss)) (hj : 0 ≤ j ∧ j < yss.length) (k : TL P w0 n I Γ (row E T (gt ss j) (gt yss j) :: L.set i (matX E T T2 j.toNat s ss yss)) ops os cs m D) : TL P w0 n I Γ L ops os cs m D :=
  fun a w hF hS o ho => k a w hF (hS.matopen i j hi hj) o ho
theorem TL.matclose {s : SV} {ss : List SV} {yss : List (List α)} {j : Nat} {s' : SV} {ys' : List α} (i k : Nat) (hi : L[i]? = some (row E T s' ys')) (hk : (L.set i emp)[k]? = some (matX E T T2 j s ss yss)) (hs : ss[j]? = some s')
    (kk : TL P w0 n I Γ ((L.set i emp).set k (mat E T T2 s ss (yss.set j ys'))) ops os cs m D) : TL P w0 n I Γ L ops os cs m D :=
  fun a w hF hS o ho => kk a w hF (hS.matclose i k hi hk hs) o ho
theorem TC.matclose {s : SV} {ss : List SV} {yss : List (List α)} {j : Nat} {s' : SV} {ys' : List α} (i k : Nat) (hi : L[i]? = some (row E T s' ys')) (hk : (L.set i emp)[k]? = some (matX E T T2 j s ss yss)) (hs : ss[j]? = some s')
    (kk : TC P w0 n I Γ ((L.set i emp).set k (mat E T T2 s ss (yss.set j ys'))) cs m D) : TC P w0 n I Γ L cs m D :=
  fun a w hF hS o ho => kk a w hF (hS.matclose i k hi hk hs) o ho

/-- Rows that are gathered: none; one more; all, with the row of their values. -/
theorem TL.rows0 (E : FE α) (T : TypeId) (k : TL P w0 n I Γ (rows E T [] [] :: L) ops os cs m D) : TL P w0 n I Γ L ops os cs m D := by
  intro a w hF hS o ho
  refine k a w hF ?_ o ho
  obtain ⟨ρ, hs, hown⟩ := hS.own
  exact ⟨hS.below, hS.i0, hS.iw, ρ, ⟨[], ρ, rfl, rfl, hs⟩, hown⟩
theorem TL.joinp (i k : Nat) {A B C : Asn} (hi : L[i]? = some B) (hk : (L.set i emp)[k]? = some C) (hab : ∀ ρ1 ρ2, B ρ1 → C ρ2 → A (ρ1 ++ ρ2)) (kk : TL P w0 n I Γ ((L.set i emp).set k A) ops os cs m D) : TL P w0 n I Γ L ops os cs m D :=
  fun a w hF hS o ho => kk a w hF (hS.joinp i k hi hk hab) o ho
theorem TL.cutp (i : Nat) {A B C : Asn} (hi : L[i]? = some A) (hab : ∀ ρ, A ρ → ∃ ρ1 ρ2, ρ.Perm (ρ1 ++ ρ2) ∧ B ρ1 ∧ C ρ2) (kk : TL P w0 n I Γ (B :: L.set i C) ops os cs m D) : TL P w0 n I Γ L ops os cs m D :=
  fun a w hF hS o ho => kk a w hF (hS.cutp i hi hab) o ho
theorem TL.rowsPush {ss : List SV} {yss : List (List α)} {s : SV} {ys : List α} (i k : Nat) (hi : L[i]? = some (rows E T ss yss)) (hk : (L.set i emp)[k]? = some (row E T s ys)) (kk : TL P w0 n I Γ ((L.set i emp).set k (rows E T (ss ++ [s]) (yss ++ [ys]))) ops os cs m D) : TL P w0 n I Γ L ops os cs m D :=
  TL.joinp i k hi hk (fun _ _ h1 h2 => rows_append h1 (rows_one h2)) kk
theorem TL.matmk {s : SV} {ss : List SV} {yss : List (List α)} (i k : Nat) (hi : L[i]? = some (row Ev T2 s ss)) (hk : (L.set i emp)[k]? = some (rows E T ss yss)) (kk : TL P w0 n I Γ ((L.set i emp).set k (mat E T T2 s ss yss)) ops os cs m D) : TL P w0 n I Γ L ops os cs m D :=
  TL.joinp i k hi hk (fun ρ1 ρ2 h1 h2 => ⟨ρ1, ρ2, rfl, h1, h2⟩) kk
theorem TL.rowsPut {ss : List SV} {yss : List (List α)} {j : Nat} {s : SV} {ys : List α} (i k : Nat) (hi : L[i]? = some (row E T s ys)) (hk : (L.set i emp)[k]? = some (rowsX E T j ss yss)) (kk : TL P w0 n I Γ ((L.set i emp).set k (rows E T (ss.set j s) (yss.set j ys))) ops os cs m D) : TL P w0 n I Γ L ops os cs m D := by
  intro a w hF hS o ho
  refine kk a w hF ?_ o ho
  obtain ⟨ρ, hs0, hown⟩ := hS.own
  obtain ⟨ρ1, ρB, ρ2, rfl, hB, hset, _⟩ := hs0.focus hi
  have h1 := hset emp [] rfl
  obtain ⟨σ1, σC, σ2, he, hC, hset2, _⟩ := h1.focus hk
  obtain ⟨t2, t3, υ1, υ2, rfl, t4⟩ := hC
  refine hS.perm hown (ρ' := σ1 ++ (υ1 ++ ρB ++ υ2) ++ σ2) ?_ (hset2 _ _ (t4 s ys ρB hB))
  have e1 : (ρ1 ++ ρB ++ ρ2).Perm (ρB ++ (ρ1 ++ ρ2)) := by
    rw [← List.append_assoc]
    exact List.perm_append_comm.append_right ρ2
  have e2 : ρ1 ++ ρ2 = σ1 ++ (υ1 ++ υ2) ++ σ2 := by simpa using he
  rw [e2] at e1
  refine e1.trans ?_
  have e3 : σ1 ++ (υ1 ++ ρB ++ υ2) ++ σ2 = (σ1 ++ υ1) ++ ρB ++ (υ2 ++ σ2) := by simp
  have e4 : ρB ++ (σ1 ++ (υ1 ++ υ2) ++ σ2) = ρB ++ (σ1 ++ υ1) ++ (υ2 ++ σ2) := by simp
  rw [e3, e4]
  exact List.perm_append_comm.append_right _
theorem TL.matcut {s : SV} {ss : List SV} {yss : List (List α)} (i : Nat) (hi : L[i]? = some (mat E T T2 s ss yss)) (kk : TL P w0 n I Γ (row Ev T2 s ss :: L.set i (rows E T ss yss)) ops os cs m D) : TL P w0 n I Γ L ops os cs m D :=
  TL.cutp i hi (fun ρ ⟨ρ1, ρ2, h, h1, h2⟩ => ⟨ρ1, ρ2, by rw [h], h1, h2⟩) kk
theorem TL.matXcut {j : Nat} {s : SV} {ss : List SV} {yss : List (List α)} (i : Nat) (hi : L[i]? = some (matX E T T2 j s ss yss)) (kk : TL P w0 n I Γ (row Ev T2 s ss :: L.set i (rowsX E T j ss yss)) ops os cs m D) : TL P w0 n I Γ L ops os cs m D :=
  TL.cutp i hi (fun ρ ⟨ρ1, ρ2, h, h1, h2⟩ => ⟨ρ1, ρ2, by rw [h], h1, h2⟩) kk
/-- A row let go, its place open. -/
theorem TL.hole {ss : List SV} {yss : List (List α)} (i : Nat) (j : Int) (hi : L[i]? = some (rows E T ss yss)) (hj : 0 ≤ j ∧ j < yss.length) (kk : TL P w0 n I Γ (L.set i (rowsX E T j.toNat ss yss)) ops os cs m D) : TL P w0 n I Γ L ops os cs m D := by
  intro a w hF hS o ho
  have h2 : St w0 I ((fun _ => True) :: L.set i (rowsX E T j.toNat ss yss)) w := by
    refine St.cutp i hi ?_ hS
    intro ρ h
    have hlen := rows_length h
    obtain ⟨u, ys, σ1, σA, σ2, _, _, rfl, hA, hset⟩ := rows_focus (j := j.toNat) h (by omega)
    refine ⟨σA, σ1 ++ σ2, ?_, trivial, by omega, hlen, σ1, σ2, rfl, hset⟩
    rw [← List.append_assoc]
    exact List.perm_append_comm.append_right σ2
  exact kk a w hF (h2.drop (i := 0) rfl) o ho
/-- As many nil rows. -/
theorem TL.rowsRep (E : FE α) (T : TypeId) (q : Nat) (k : TL P w0 n I Γ (rows E T (List.replicate q ⟨none, 0, 0⟩) (List.replicate q []) :: L) ops os cs m D) : TL P w0 n I Γ L ops os cs m D := by
  intro a w hF hS o ho
  refine k a w hF ?_ o ho
  obtain ⟨ρ, hs, hown⟩ := hS.own
  exact ⟨hS.below, hS.i0, hS.iw, ρ, ⟨[], ρ, rfl, rows_nil q, hs⟩, hown⟩
theorem St.nilmat {w : World} (E : FE α) (T T2 : TypeId) (hS : St w0 I L w) : St w0 I (mat E T T2 ⟨none, 0, 0⟩ [] [] :: L) w := by
  obtain ⟨ρ, hs, hown⟩ := hS.own
  exact ⟨hS.below, hS.i0, hS.iw, ρ, ⟨[], ρ, rfl, ⟨[], [], rfl, row_nil Ev T2, rfl⟩, hs⟩, hown⟩
theorem TL.nilmat (E : FE α) (T T2 : TypeId) (k : TL P w0 n I Γ (mat E T T2 ⟨none, 0, 0⟩ [] [] :: L) ops os cs m D) : TL P w0 n I Γ L ops os cs m D :=
  fun a w hF hS o ho => k a w hF (hS.nilmat E T T2) o ho
theorem TC.nilmat (E : FE α) (T T2 : TypeId) (k : TC P w0 n I Γ (mat E T T2 ⟨none, 0, 0⟩ [] [] :: L) cs m D) : TC P w0 n I Γ L cs m D :=
  fun a w hF hS o ho => k a w hF (hS.nilmat E T T2) o ho
/-- How many rows. -/
theorem TL.lenM {d : Nat} {ty : TypeId} {pos : String} {af : Array Edge} {g : Option (Nat × Bool)} {T3 e : TypeId} {x : Operand} {s : SV} {ss : List SV} {yss : List (List α)} (hr : RdM w0 I L E s ss yss) (hT : P.underlying T3 = some (.slice e))
    (hg : gd ops Γ ⟨some d, .call { callee := .builtin .len, args := #[x], argTypes := #[T3] }, ty, pos, af, g⟩ = some true) (hn : Nat.blt d n = true) (hx : ev Γ x = some s.v)
    (k : TL P w0 n I ((d, .int .i64 yss.length) :: Γ) L ops os cs m D) : TL P w0 n I Γ L ops (⟨some d, .call { callee := .builtin .len, args := #[x], argTypes := #[T3] }, ty, pos, af, g⟩ :: os) cs m D := by
  intro a w hF hS o ho
  have hl := (hr w hS).2.1
  rw [← hl] at k
  exact TL.len hr.out hT hg hn hx k a w hF hS o ho

variable {d : Nat} {ty : TypeId} {pos : String} {af : Array Edge} {g : Option (Nat × Bool)}
theorem TL.matlen {s ss} {yss : List (List α)} (i : Nat) (hi : L[i]? = some (mat E T T2 s ss yss)) (k : ss.length = yss.length → TL P w0 n I Γ L ops os cs m D) : TL P w0 n I Γ L ops os cs m D := by
  intro a w hF hS o ho
  obtain ⟨ρA, hA, _⟩ := hS.get hi
  obtain ⟨ρ1, ρ2, _, _, h2⟩ := hA
  exact k (rows_length h2) a w hF hS o ho
theorem TL.matXlen {j : Nat} {s ss} {yss : List (List α)} (i : Nat) (hi : L[i]? = some (matX E T T2 j s ss yss)) (k : ss.length = yss.length → TL P w0 n I Γ L ops os cs m D) : TL P w0 n I Γ L ops os cs m D := by
  intro a w hF hS o ho
  obtain ⟨ρA, hA, _⟩ := hS.get hi
  obtain ⟨ρ1, ρ2, _, _, _, h2, _⟩ := hA
  exact k h2 a w hF hS o ho
theorem TL.ixsM {T3 : TypeId} {x ix : Operand} {s : SV} {ss : List SV} {yss : List (List α)} {sz : Nat} {e : TypeId} {kd : IntKind} (i : Int) (r : Nat) (hr : RdM w0 I L E s ss yss) (hb : 0 ≤ i ∧ i < yss.length) (hT : P.underlying T3 = some (.slice e)) (hz : ∀ w, (sizeOf e).run P w = .ok sz w)
    (hg : gd ops Γ ⟨some d, .indexAddr T3 x ix, ty, pos, af, g⟩ = some true) (hn : Nat.blt d n = true) (hx : ev Γ x = some s.v) (hi : ev Γ ix = some (.int kd i)) (hrr : i.toNat * sz = r)
    (k : TL P w0 n I ((d, ep s r) :: Γ) L ops os cs m D) : TL P w0 n I Γ L ops (⟨some d, .indexAddr T3 x ix, ty, pos, af, g⟩ :: os) cs m D := by
  intro a w hF hS o ho
  have hl := (hr w hS).2.1
  exact TL.ixs i r hr.out (by rw [hl]; exact hb) hT hz hg hn hx hi hrr k a w hF hS o ho
theorem TL.loadM2 {T3 : TypeId} {x : Operand} {s : SV} {ss : List SV} {yss : List (List α)} (hr : RdM w0 I L E s ss yss) (ha : ∀ w, (isAgg T3).run P w = .ok false w) (i : Int) (hb : 0 ≤ i ∧ i < yss.length)
    {o : Nat} (ho : o = i.toNat) (hg : gd ops Γ ⟨some d, .load T3 x, ty, pos, af, g⟩ = some true) (hn : Nat.blt d n = true) (hx : ev Γ x = some (ep s o))
    (k : TL P w0 n I ((d, (gt ss i).v) :: Γ) L ops os cs m D) : TL P w0 n I Γ L ops (⟨some d, .load T3 x, ty, pos, af, g⟩ :: os) cs m D := by
  intro a w hF hS r hr'
  have hl := (hr w hS).2.1
  exact TL.loadE hr.out ha i.toNat 0 (gt_spec (by rw [hl]; exact hb)) (v := (gt ss i).v) rfl (by rw [ho]; show i.toNat = i.toNat * 1 + 0; omega) hg hn hx k a w hF hS r hr'
theorem TL.sliceM {T3 e : TypeId} {x : Operand} {lo hi : Option Operand} {s : SV} {ss : List SV} {yss : List (List α)} (li hi' : Option Int) (l h : Nat) (hr : RdM w0 I L E s ss yss) (hT : P.underlying T3 = some (.slice e)) (hz : ∀ w, (sizeOf e).run P w = .ok Ev.sz w)
    (hlo : bnd Γ lo = some li) (hhi : bnd Γ hi = some hi') (hl : (li.getD 0) = (l : Int)) (hh : (hi'.getD (yss.length : Int)) = (h : Int)) (h1 : l ≤ h) (h2 : h ≤ yss.length)
    (hg : gd ops Γ ⟨some d, .slice T3 x lo hi none, ty, pos, af, g⟩ = some true) (hn : Nat.blt d n = true) (hx : ev Γ x = some s.v)
    (k : TL P w0 n I ((d, (s.cut l h s.c Ev.sz).v) :: Γ) L ops os cs m D) : TL P w0 n I Γ L ops (⟨some d, .slice T3 x lo hi none, ty, pos, af, g⟩ :: os) cs m D := by
  intro a w hF hS r hr'
  have e := (hr w hS).2.1
  exact TL.slice li hi' l h hr.out hT hz hlo hhi hl (by rw [e]; exact hh) h1 (by rw [e]; exact h2) hg hn hx k a w hF hS r hr'
theorem TL.ixsX {T3 : TypeId} {x ix : Operand} {s : SV} {ss : List SV} {yss : List (List α)} {sz : Nat} {e : TypeId} {kd : IntKind} {j : Nat} (i : Int) (r p : Nat) (hp : L[p]? = some (matX E T T2 j s ss yss)) (hb : 0 ≤ i ∧ i < yss.length) (hT : P.underlying T3 = some (.slice e)) (hz : ∀ w, (sizeOf e).run P w = .ok sz w)
    (hg : gd ops Γ ⟨some d, .indexAddr T3 x ix, ty, pos, af, g⟩ = some true) (hn : Nat.blt d n = true) (hx : ev Γ x = some s.v) (hi : ev Γ ix = some (.int kd i)) (hrr : i.toNat * sz = r)
    (k : TL P w0 n I ((d, ep s r) :: Γ) L ops os cs m D) : TL P w0 n I Γ L ops (⟨some d, .indexAddr T3 x ix, ty, pos, af, g⟩ :: os) cs m D := by
  refine TL.matXlen p hp fun hl => ?_
  have hr : Rd w0 I L Ev s ss := by
    intro w hS
    obtain ⟨ρA, hA, hh⟩ := hS.get hp
    obtain ⟨ρ1, ρ2, rfl, h1, _⟩ := hA
    exact row_reads h1 fun q hq => hh q (List.mem_append.2 (.inl hq))
  exact TL.ixs i r hr (by rw [hl]; exact hb) hT hz hg hn hx hi hrr k
theorem TL.bindE {γ : Type} {mf : Option γ} {kont : γ → Option β} (kk : ∀ r, mf = some r → TL P w0 n I Γ L ops os cs (kont r) D) : TL P w0 n I Γ L ops os cs (mf.bind kont) D := by
  intro a w hF hS r hr
  obtain ⟨r1, hr1, hr2⟩ := Option.bind_eq_some_iff.1 hr
  exact kk r1 hr1 a w hF hS r hr2
end
end Go.Sx
