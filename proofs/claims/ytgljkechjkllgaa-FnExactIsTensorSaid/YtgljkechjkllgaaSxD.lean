/- SxD: regions whose order is open, with operations that make or turn memory. -/
import Derived.Test.YtgljkechjkllgaaSxC
namespace Go.Sx
open Go.RowKit

/-! ### ghosts: what an operation's run has found, told later -/
abbrev GF := Nat → List SV
/-- The ghosts of operation i, set. -/
def gset (g : GF) (i : Nat) (l : List (List SV)) : GF := fun k => bif Nat.beq (k / 8) i then l.getD (k % 8) [] else g k
def gs (l : List SV) : SV := l.headD ⟨none, 0, 0⟩
def nb (l : List Bool) (i : Nat) : Bool := l.getD i false
def emp : Asn := fun ρ => ρ = []
theorem St.addEmp {w0 I L w} (h : St w0 I L w) : St w0 I (Sx.emp :: L) w := by
  obtain ⟨ρ, hs, ho⟩ := h.own
  exact ⟨h.below, h.i0, h.iw, ρ, ⟨[], ρ, rfl, rfl, hs⟩, ho⟩

theorem St.emps {w0 I L w} (h : St w0 I L w) : ∀ k, St w0 I (List.replicate k Sx.emp ++ L) w
  | 0 => h
  | k + 1 => (St.emps h k).addEmp

def AllB : List (Option Bool) → (List Bool → Prop) → Prop
  | [], F => F []
  | some b :: r, F => AllB r fun l => F (b :: l)
  | none :: r, F => ∀ b, AllB r fun l => F (b :: l)
theorem AllB.use : ∀ {con : List (Option Bool)} {F : List Bool → Prop} {l : List Bool}, AllB con F → l.length = con.length → (∀ (k : Nat) (b : Bool), con[k]? = some (some b) → l[k]? = some b) → F l := by
  intro con
  induction con with
  | nil =>
    intro F l h hl _
    have : l = [] := by simpa using hl
    subst this; exact h
  | cons c con ih =>
    intro F l h hl hc
    cases l with
    | nil => simp at hl
    | cons x l =>
      have hrest : ∀ (k : Nat) (b : Bool), con[k]? = some (some b) → l[k]? = some b := fun k b hk => by simpa using hc (k + 1) b (by simpa using hk)
      cases c with
      | none => exact ih (F := fun l => F (x :: l)) (h x) (by simpa using hl) hrest
      | some b =>
        have h0 := hc 0 b rfl
        simp at h0; subst h0
        exact ih (F := fun l => F (x :: l)) h (by simpa using hl) hrest

def EachI (F : Nat → Prop) : Nat → Prop
  | 0 => True
  | k + 1 => EachI F k ∧ F k
theorem EachI.get {F : Nat → Prop} : ∀ {k i : Nat}, EachI F k → i < k → F i
  | k + 1, i, h, hi => by
    by_cases he : i = k
    · subst he; exact h.2
    · exact EachI.get h.1 (by omega)

/-- The list of what surely comes before: closed, so that who is listed has it listed. -/
def clOk (ops : Array Oper) (cl : List (List Nat)) : Bool :=
  (ops.toList.zip cl).all fun p => p.2.all fun j => p.1.after.toList.any fun e => Region.binds .any e && (Nat.beq e.on j || (cl.getD e.on []).any (Nat.beq j))
/-- What is known of the list when operation i is its next. -/
def conOk (cl : List (List Nat)) (i : Nat) (con : List (Option Bool)) : Bool :=
  con.zipIdx.all fun p => match p.1 with
    | none => true
    | some true => (cl.getD i []).any (Nat.beq p.2)
    | some false => Nat.beq p.2 i || (cl.getD p.2 []).any (Nat.beq i)
def hide (cl : List (List Nat)) (i : Nat) (vs : List Value) : List Value := vs.zipIdx.map fun p => bif Nat.beq p.2 i || (cl.getD p.2 []).any (Nat.beq i) then undef else p.1

/-- Slots that a later operation overwrites: (slot, what it holds before, the operation). -/
abbrev Olds := List (Nat × Value × Nat)
def oldG (cl : List (List Nat)) (i : Nat) (G1 : Olds) : Gm := G1.filterMap fun p => bif Nat.beq i p.2.2 || (cl.getD p.2.2 []).any (Nat.beq i) then some (p.1, p.2.1) else none
def oldOk (ops : Array Oper) (G1 : Olds) : Bool := G1.all fun p => match (ops[p.2.2]?).bind (·.dst) with
  | some d => Nat.beq d p.1
  | none => false
def olds (G1 : Olds) : Gm := G1.map fun p => (p.1, p.2.1)
theorem Sub.mem {Γ : Gm} : ∀ {l : Gm}, Sub Γ l → ∀ {t v}, (t, v) ∈ l → lk Γ t = some v
  | [], _, _, _, h => by cases h
  | (k, u) :: r, hs, t, v, h => by
    rcases List.mem_cons.1 h with h | h
    · injection h with h1 h2
      subst h1 h2; exact hs.1
    · exact Sub.mem hs.2 h

section
variable {P : Program} {w0 : World} {n : Nat} {I : Hp} {Γ : Gm} {cs : List Code} {α : Type} {m : Option α} {D : α → Post} {ops : Array Oper}

def DrawsG (P : Program) (w0 : World) (n : Nat) (I : Hp) (Γ : Gm) (G1 : Olds) (cl : List (List Nat)) (cont : List Bool → GF → List Asn) (ops : Array Oper) (vs : GF → List Value) (i : Nat) (o : Oper) (l : List Bool) : Prop :=
  ∀ g, TL P w0 n I (depsG ops (vs g) o ++ (oldG cl i G1 ++ Γ)) (cont l g) ops [o] [] (some ()) (DNrm w0 n I (fun (_ : Unit) (x : List (List SV)) => match o.dst, (vs (gset g i x))[i]? with | some d, some v => [(d, v)] | _, _ => []) (fun _ x => cont (l.set i true) (gset g i x)))
def EachG (cl : List (List Nat)) (N : Nat) (F : Nat → Oper → List Bool → Prop) : Nat → List Oper → List (List (Option Bool)) → Prop
  | _, [], _ => True
  | i, o :: os, c :: cs => (Nat.beq c.length N && conOk cl i c) = true ∧ AllB c (F i o) ∧ EachG cl N F (i + 1) os cs
  | _, _ :: _, [] => False
theorem EachG.get {cl : List (List Nat)} {N : Nat} {F : Nat → Oper → List Bool → Prop} : ∀ {os : List Oper} {cons : List (List (Option Bool))} {i j : Nat} {o : Oper}, EachG cl N F i os cons → os[j]? = some o →
    ∃ c : List (Option Bool), c.length = N ∧ conOk cl (i + j) c = true ∧ AllB c (F (i + j) o)
  | [], _, _, _, _, _, h => by simp at h
  | o :: os, [], _, _, _, h, _ => h.elim
  | o :: os, c :: cs, i, 0, _, h, e => by
    simp at e; subst e
    have := h.1
    simp only [Bool.and_eq_true] at this
    exact ⟨c, Nat.eq_of_beq_eq_true this.1, this.2, h.2.1⟩
  | _ :: os, _ :: cs, i, j + 1, o, h, e => by
    have := EachG.get (i := i + 1) (j := j) h.2.2 (by simpa using e)
    rwa [Nat.add_assoc, Nat.add_comm 1 j] at this

structure GInv (w0 : World) (n : Nat) (I : Hp) (Γ : Gm) (G1 : Olds) (cont : List Bool → GF → List Asn) (ops : Array Oper) (vs : GF → List Value) (cl : List (List Nat)) (listed : Array Bool) (g : GF) (a : Act) (w : World) : Prop where
  fr : Fr n Γ a
  outs : ∀ i o d v, listed.getD i false = true → ops[i]? = some o → o.dst = some d → (vs g)[i]? = some v → a.tmps[d]? = some v
  old : ∀ p ∈ G1, listed.getD p.2.2 false = false → a.tmps[p.1]? = some p.2.1
  st : St w0 I (cont listed.toList g) w
  sz : listed.size = ops.size
  cls : ∀ i, listed.getD i false = true → ∀ j ∈ cl.getD i [], listed.getD j false = true

theorem hide_get {cl : List (List Nat)} {i j : Nat} {vs us : List Value} (h : hide cl i vs = hide cl i us) (hji : j ≠ i) (hc : i ∉ cl.getD j []) : vs[j]? = us[j]? := by
  have h1 := congrArg (fun l : List Value => l[j]?) h
  have hf : (Nat.beq j i || (cl.getD j []).any (Nat.beq i)) = false := by
    rw [Bool.or_eq_false_iff]
    refine ⟨?_, ?_⟩
    · cases hb : Nat.beq j i with
      | false => rfl
      | true => exact absurd (Nat.eq_of_beq_eq_true hb) hji
    · rw [List.any_eq_false]
      intro x hx hb
      have := Nat.eq_of_beq_eq_true hb
      subst this
      exact hc hx
  simp only [hide, List.getElem?_map, List.getElem?_zipIdx, Nat.zero_add] at h1
  cases hv : vs[j]? with
  | none => cases hu : us[j]? with
    | none => rfl
    | some u => rw [hv, hu] at h1; simp at h1
  | some v => cases hu : us[j]? with
    | none => rw [hv, hu] at h1; simp at h1
    | some u =>
      rw [hv, hu] at h1
      simp only [Option.map_some, hf, cond_false, Option.some.injEq] at h1
      rw [h1]

theorem draws_G {Q : Post} {G1 : Olds} {cont : List Bool → GF → List Asn} {vs : GF → List Value} (cl : List (List Nat)) (cons : List (List (Option Bool))) (hlen : ∀ g, (vs g).length = ops.size) (hll : cl.length = ops.size) (hb : backward ops = true) (hcl : clOk ops cl = true) (hap : apartD ops Γ = true) (hold : oldOk ops G1 = true)
    (hstab : ∀ g x, EachI (fun i => hide cl i (vs (gset g i x)) = hide cl i (vs g)) ops.size)
    (hops : EachG cl ops.size (DrawsG P w0 n I Γ G1 cl cont ops vs) 0 ops.toList cons)
    (hfin : ∀ a w, (∀ listed g, GInv w0 n I Γ G1 cont ops vs cl listed g a w → (∀ j, j < ops.size → listed.getD j false = true) → Q .normal a w)) :
    ∀ (fuel : Nat) (listed : Array Bool) (g : GF) (a : Act) (w : World), GInv w0 n I Γ G1 cont ops vs cl listed g a w → unl listed = fuel → wpAny P .any ops Q fuel listed a w := by
  intro fuel
  induction fuel with
  | zero =>
    intro listed g a w h hu
    have hall : ∀ j, j < ops.size → listed.getD j false = true := by
      intro j hj
      unfold unl at hu
      rw [List.countP_eq_zero] at hu
      have hjl : j < listed.size := by rw [h.sz]; exact hj
      have := hu listed[j] (by simp)
      have h2 : listed[j] = true := by simpa using this
      simp [Array.getD, hjl, h2]
    refine ⟨?_, hfin a w listed g h hall⟩
    refine List.eq_nil_iff_forall_not_mem.2 fun i hi => ?_
    obtain ⟨h1, h2, _⟩ := ready_spec hi
    have := hall i h1
    have hil : i < listed.size := by rw [h.sz]; exact h1
    simp [Array.getD, hil] at this h2
    rw [this] at h2; cases h2
  | succ fuel ih =>
    intro listed g a w h hu
    refine ⟨fun hr => hfin a w listed g h (ready_nil h.sz hb hr), ?_⟩
    intro i hi
    obtain ⟨hi1, hi2, o, ho, hdeps⟩ := ready_spec hi
    have hil : i < listed.size := by rw [h.sz]; exact hi1
    have hif : listed.getD i false = false := by simpa [Array.getD, hil] using hi2
    -- what surely is listed
    have hcli : ∀ j ∈ cl.getD i [], listed.getD j false = true := by
      intro j hj
      unfold clOk at hcl
      have hci : cl[i]? = some (cl.getD i []) := by
        have : i < cl.length := by omega
        simp [List.getD, this]
      have hm : (o, cl.getD i []) ∈ ops.toList.zip cl := by
        refine List.mem_iff_getElem?.2 ⟨i, ?_⟩
        have ho' : ops.toList[i]? = some o := by simpa using ho
        rw [List.getElem?_zip_eq_some]
        exact ⟨ho', hci⟩
      have h1 := List.all_eq_true.1 (List.all_eq_true.1 hcl _ hm) j hj
      obtain ⟨e, he, h2⟩ := List.any_eq_true.1 h1
      simp only [Bool.and_eq_true, Bool.or_eq_true] at h2
      have hel := hdeps e he h2.1
      rcases h2.2 with h3 | h3
      · have := Nat.eq_of_beq_eq_true h3
        rw [← this]; exact hel
      · obtain ⟨y, hy, hyb⟩ := List.any_eq_true.1 h3
        have := Nat.eq_of_beq_eq_true hyb
        subst this
        exact h.cls e.on hel j hy
    obtain ⟨con, hconl, hcon, hall⟩ := EachG.get (i := 0) (j := i) hops (by simpa using ho)
    rw [Nat.zero_add] at hcon hall
    have hD : DrawsG P w0 n I Γ G1 cl cont ops vs i o listed.toList := by
      refine hall.use (by rw [hconl, Array.length_toList, h.sz]) ?_
      intro k b hk
      unfold conOk at hcon
      have hkl : k < con.length := (List.getElem?_eq_some_iff.1 hk).1
      have hks : k < listed.size := by rw [h.sz, ← hconl]; exact hkl
      have h1 := List.all_eq_true.1 hcon (some b, k) (by rw [List.mem_zipIdx_iff_getElem?]; exact hk)
      have hgoal : listed.getD k false = b → listed.toList[k]? = some b := by
        intro h2
        simpa [Array.getD, hks] using h2
      apply hgoal
      cases b with
      | true =>
        obtain ⟨y, hy, hyb⟩ := List.any_eq_true.1 h1
        have := Nat.eq_of_beq_eq_true hyb
        subst this
        exact hcli k hy
      | false =>
        simp only [Bool.or_eq_true] at h1
        rcases h1 with h1 | h1
        · have := Nat.eq_of_beq_eq_true h1
          subst this; exact hif
        · obtain ⟨y, hy, hyb⟩ := List.any_eq_true.1 h1
          have := Nat.eq_of_beq_eq_true hyb
          subst this
          cases hc : listed.getD k false with
          | false => rfl
          | true => have := h.cls k hc i hy; rw [hif] at this; cases this
    have hfr : Fr n (depsG ops (vs g) o ++ (oldG cl i G1 ++ Γ)) a := by
      refine ⟨h.fr.size, h.fr.nod, ?_⟩
      intro t v ht
      rw [lk_append] at ht
      split at ht
      · rename_i v' hv'
        obtain rfl := Option.some.inj ht
        have hm := lk_mem hv'
        unfold depsG at hm
        obtain ⟨e, he, hv⟩ := List.mem_filterMap.1 hm
        split at hv
        · rename_i hbe
          split at hv
          · rename_i d v2 hd2 hv2
            have hp := Option.some.inj hv
            injection hp with hp1 hp2
            subst hp1 hp2
            obtain ⟨o2, ho2, hd3⟩ := Option.bind_eq_some_iff.1 hd2
            exact h.outs e.on o2 d v2 (hdeps e he hbe) ho2 hd3 hv2
          · cases hv
        · cases hv
      · rw [lk_append] at ht
        split at ht
        · rename_i v' hv'
          obtain rfl := Option.some.inj ht
          have hm := lk_mem hv'
          unfold oldG at hm
          obtain ⟨p, hp, hv⟩ := List.mem_filterMap.1 hm
          cases hc : (Nat.beq i p.2.2 || (cl.getD p.2.2 []).any (Nat.beq i)) with
          | false => rw [hc] at hv; cases hv
          | true =>
            rw [hc] at hv
            injection hv with hv
            injection hv with hv1 hv2
            subst hv1 hv2
            refine h.old p hp ?_
            rw [Bool.or_eq_true] at hc
            rcases hc with hc | hc
            · have := Nat.eq_of_beq_eq_true hc
              rw [← this]; exact hif
            · obtain ⟨y, hy, hyb⟩ := List.any_eq_true.1 hc
              have := Nat.eq_of_beq_eq_true hyb
              subst this
              cases hl : listed.getD p.2.2 false with
              | false => rfl
              | true => have := h.cls _ hl i hy; rw [hif] at this; cases this
        · exact h.fr.has t v ht
    have hrun := hD g a w hfr h.st () rfl
    have hset : (listed.toList).set i true = (listed.setIfInBounds i true).toList := by simp
    -- the invariant behind the operation
    have hnext : ∀ a' w', (∃ x, Po w0 n .normal I (match o.dst, (vs (gset g i x))[i]? with | some d, some v => [(d, v)] | _, _ => []) (cont (listed.toList.set i true) (gset g i x)) .normal a' w') →
        (∃ v, a' = a.put o.dst v) → ∃ g', GInv w0 n I Γ G1 cont ops vs cl (listed.setIfInBounds i true) g' a' w' := by
      rintro a' w' ⟨x, _, hF', hS'⟩ ⟨v, rfl⟩
      have hst' := (hstab g x).get hi1
      rw [hset] at hS'
      unfold apartD at hap
      simp only [Bool.and_eq_true] at hap
      obtain ⟨hnd, hnone⟩ := hap
      replace hnd := nodupB_spec hnd
      have hmem : ∀ (j : Nat) (o' : Oper) (d : Nat), ops[j]? = some o' → o'.dst = some d → d ∈ ops.toList.filterMap (·.dst) := fun j o' d hj hd => List.mem_filterMap.2 ⟨o', List.mem_of_getElem? (by simpa using hj), hd⟩
      have hne : ∀ (j : Nat) (o' : Oper) (d d' : Nat), ops[j]? = some o' → o'.dst = some d' → o.dst = some d → j ≠ i → d' ≠ d := by
        intro j o' d d' hj hd' hd hji he
        subst he
        have key : ∀ (xs : List Oper) (j i : Nat) (o' o : Oper) (d : Nat), (xs.filterMap (·.dst)).Nodup → xs[j]? = some o' → xs[i]? = some o → o'.dst = some d → o.dst = some d → j = i := by
          intro xs
          induction xs with
          | nil => intro j i o' o d _ h; simp at h
          | cons x xs ih =>
            intro j i o' o d hn h1 h2 h3 h4
            have hn' : (xs.filterMap (·.dst)).Nodup := by
              cases hx : x.dst with
              | none => simpa [hx] using hn
              | some y => simp only [List.filterMap_cons, hx, List.nodup_cons] at hn; exact hn.2
            cases j with
            | zero =>
              simp at h1; subst h1
              cases i with
              | zero => rfl
              | succ i =>
                exfalso
                simp only [List.filterMap_cons, h3, List.nodup_cons] at hn
                exact hn.1 (List.mem_filterMap.2 ⟨o, List.mem_of_getElem? (by simpa using h2), h4⟩)
            | succ j =>
              cases i with
              | zero =>
                exfalso
                simp at h2; subst h2
                simp only [List.filterMap_cons, h4, List.nodup_cons] at hn
                exact hn.1 (List.mem_filterMap.2 ⟨o', List.mem_of_getElem? (by simpa using h1), h3⟩)
              | succ i => rw [ih j i o' o d hn' (by simpa using h1) (by simpa using h2) h3 h4]
        exact hji (key ops.toList j i o' o d' hnd (by simpa using hj) (by simpa using ho) hd' hd)
      refine ⟨gset g i x, ?_, ?_, ?_, hS', by simpa using h.sz, ?_⟩
      · cases hd : o.dst with
        | none => exact h.fr
        | some d =>
          refine ⟨by simp [Act.put, h.fr.size], h.fr.nod, ?_⟩
          intro t u hu
          have hdt : d ≠ t := by
            rintro rfl
            have := List.all_eq_true.1 hnone d (hmem i o d ho hd)
            rw [hu] at this; cases this
          have := h.fr.has t u hu
          simp [Act.put, hdt, this]
      · intro j o' d' v' hj ho' hd' hv'
        by_cases hji : j = i
        · subst hji
          rw [ho] at ho'; obtain rfl := Option.some.inj ho'
          refine hF'.has d' v' ?_
          simp [hd', hv', lk]
        · rw [getD_set, if_neg (by rintro ⟨e, _⟩; exact hji e.symm)] at hj
          have hnc : i ∉ cl.getD j [] := fun hc => by have := h.cls j hj i hc; rw [hif] at this; cases this
          rw [hide_get hst' hji hnc] at hv'
          have := h.outs j o' d' v' hj ho' hd' hv'
          cases hd : o.dst with
          | none => exact this
          | some d =>
            have hdd := hne j o' d d' ho' hd' hd hji
            have hdd' : d ≠ d' := fun e => hdd e.symm
            simp [Act.put, hdd', this]
      · intro p hp hl
        rw [getD_set] at hl
        by_cases hpi : i = p.2.2
        · rw [if_pos ⟨hpi, hil⟩] at hl; cases hl
        · rw [if_neg (by rintro ⟨e, _⟩; exact hpi e)] at hl
          have := h.old p hp hl
          cases hd : o.dst with
          | none => exact this
          | some d =>
            have h1 := List.all_eq_true.1 hold p hp
            cases hq : (ops[p.2.2]?).bind (·.dst) with
            | none => rw [hq] at h1; cases h1
            | some d' =>
              rw [hq] at h1
              have h2 := Nat.eq_of_beq_eq_true h1
              subst h2
              obtain ⟨o', ho', hd'⟩ := Option.bind_eq_some_iff.1 hq
              have hdd := hne p.2.2 o' d p.1 ho' hd' hd (fun e => hpi e.symm)
              have hdd' : d ≠ p.1 := fun e => hdd e.symm
              simp [Act.put, hdd', this]
      · intro k hk j hj
        rw [getD_set] at hk ⊢
        by_cases hji : i = j
        · rw [if_pos ⟨hji, hil⟩]
        · rw [if_neg (by rintro ⟨e, _⟩; exact hji e)]
          by_cases hki : i = k
          · subst hki; exact hcli j hj
          · rw [if_neg (by rintro ⟨e, _⟩; exact hki e)] at hk
            exact h.cls k hk j hj
    have hu' : unl (listed.setIfInBounds i true) = fuel := by have := unl_set hi2; omega
    unfold wpOp
    rw [ho]
    simp only
    simp only [wpList, seqs] at hrun
    split
    · rename_i hw
      rw [if_pos hw] at hrun
      rcases hrun with hrun | ⟨_, a0, w1, g0, he, _⟩
      · refine .inl (Oper.wp_mono (fun a' w' h' => ?_) (Oper.wp_monoQ (fun e a' w' hen h' => ?_) (Oper.wp_put hrun)))
        · obtain ⟨h1, h2⟩ := h'
          have hdef : a'.defers = a.defers := by obtain ⟨_, _, hF', _⟩ := h1; rw [hF'.nod, h.fr.nod]
          obtain ⟨g', hg'⟩ := hnext a' w' h1 (h2 hdef)
          exact ih _ g' _ _ hg' hu'
        · obtain ⟨g0, rfl, hF', hS'⟩ := h'
          exact absurd rfl hen
      · cases he
    · rename_i hw
      rw [if_neg hw] at hrun
      obtain ⟨g', hg'⟩ := hnext _ _ hrun ⟨_, rfl⟩
      exact ih _ g' _ _ hg' hu'

theorem TC.drawG {id : Nat} {L : List Asn} {Γ0 : Gm} (Γ : Gm) (G1 : Olds) (hs0 : Sub Γ0 Γ) (hs1 : Sub Γ0 (olds G1)) (cont : List Bool → GF → List Asn) (vs : GF → List Value) (cl : List (List Nat)) (cons : List (List (Option Bool))) (hm : P.follows .mixedOrders = true) (hlen : ∀ g, Nat.beq (vs g).length ops.size = true) (hll : Nat.beq cl.length ops.size = true) (hb : backward ops = true) (hcl : clOk ops cl = true) (hap : apartD ops Γ = true) (hold : oldOk ops G1 = true)
    (hstab : ∀ g x, EachI (fun i => hide cl i (vs (gset g i x)) = hide cl i (vs g)) ops.size) (ne : Nat) (js : List Nat) (h0 : ∀ g, ext js (List.replicate ne emp ++ L) = some (cont (List.replicate ops.size false) g))
    (hops : EachG cl ops.size (DrawsG P w0 n I Γ G1 cl cont ops vs) 0 ops.toList cons)
    (k : ∀ g, TC P w0 n I (outsG ops.toList (vs g) ++ Γ) (cont (List.replicate ops.size true) g) cs m D) : TC P w0 n I Γ0 L (.region id ops true :: cs) m D := by
  intro a w hF hS o ho
  refine wp_region_any hm (draws_G (w0 := w0) (n := n) (I := I) (Γ := Γ) (G1 := G1) cl cons (fun g => Nat.eq_of_beq_eq_true (hlen g)) (Nat.eq_of_beq_eq_true hll) hb hcl hap hold hstab hops ?_ ops.size (Array.replicate ops.size false) (fun _ => []) a _ ?_ ?_)
  · intro a w listed g h hall
    have hl : listed.toList = List.replicate ops.size true := by
      refine List.eq_replicate_iff.2 ⟨by rw [Array.length_toList, h.sz], fun b hb => ?_⟩
      obtain ⟨j, hj, rfl⟩ := List.mem_iff_getElem.1 hb
      have hjs : j < listed.size := by simpa using hj
      have := hall j (by rw [← h.sz]; exact hjs)
      simpa [Array.getD, hjs] using this
    refine k g a w ⟨h.fr.size, h.fr.nod, ?_⟩ (hl ▸ h.st) o ho
    intro t v ht
    rw [lk_append] at ht
    split at ht
    · rename_i v' hv'
      obtain rfl := Option.some.inj ht
      have hm := lk_mem hv'
      unfold outsG at hm
      obtain ⟨p, hp, hv⟩ := List.mem_filterMap.1 hm
      obtain ⟨d, hd, he⟩ := Option.map_eq_some_iff.1 hv
      injection he with he1 he2
      subst he1 he2
      obtain ⟨i, hi, hpi⟩ := List.mem_iff_getElem.1 hp
      have hio : i < ops.size := by simp at hi; omega
      have hiv : i < (vs g).length := by simp at hi; omega
      rw [List.getElem_zip] at hpi
      subst hpi
      refine h.outs i ops[i] d (vs g)[i] (hall i hio) (by simp [hio]) (by simpa using hd) (by simp [hiv])
    · exact h.fr.has t v ht
  · refine ⟨hF.sub hs0, ?_, ?_, ?_, by simp, ?_⟩
    · intro i o d v h
      exfalso
      by_cases hi : i < ops.size <;> simp [Array.getD, hi] at h
    · intro p hp _
      exact hF.has _ _ (hs1.mem (List.mem_map.2 ⟨p, hp, rfl⟩))
    · rw [Array.toList_replicate]
      exact (hS.drew.emps ne).ext js (h0 _)
    · intro i h
      exfalso
      by_cases hi : i < ops.size <;> simp [Array.getD, hi] at h
  · simp [unl, List.countP_replicate]

theorem TC.small {L : List Asn} {k : Nat} (kk : k ≤ 1099511627776 → TC P w0 n I Γ L cs m D) : TC P w0 n I Γ L cs (Sx.small k m) D := by
  intro a w hF hS r hr
  unfold Sx.small at hr
  split at hr
  · rename_i hb
    exact kk hb a w hF hS r hr
  · cases hr
theorem TC.grd {L : List Asn} {c : Bool} (kk : c = true → TC P w0 n I Γ L cs m D) : TC P w0 n I Γ L cs (Sx.grd c m) D := by
  intro a w hF hS r hr
  cases c with
  | true => exact kk rfl a w hF hS r hr
  | false => cases hr
theorem TL.asL {L : List Asn} {os : List Oper} (L' : List Asn) (h : L = L') (k : TL P w0 n I Γ L' ops os cs m D) : TL P w0 n I Γ L ops os cs m D := h ▸ k
theorem TC.asL {L : List Asn} (L' : List Asn) (h : L = L') (k : TC P w0 n I Γ L' cs m D) : TC P w0 n I Γ L cs m D := h ▸ k

variable {L : List Asn} {os : List Oper} {d : Nat} {ty : TypeId} {pos : String} {af : Array Edge} {g : Option (Nat × Bool)}
theorem TL.callH0 {β : Type} {f : FuncId} {args : Array Operand} {ts : Array TypeId} {vs : List Value} {mf : Option β} {r : β} {R : β → Value → List Asn → Prop} (hr : mf = some r)
    (hcall : ∀ (args : Array Value) (w : World), (callFunc f args).run P w = .ok (.enter f args) w)
    (hg : gd ops Γ ⟨none, .call { callee := .value (.func f), args := args, argTypes := ts }, ty, pos, af, g⟩ = some true) (hx : evs Γ args.toList = some vs)
    (hc : ∀ w, St w0 I L w → ∀ r, mf = some r → Calls P f vs.toArray w (Ret w (R r)))
    (k : ∀ v L', R r v L' → TL P w0 n I Γ (L' ++ L) ops os cs m D) :
    TL P w0 n I Γ L ops (⟨none, .call { callee := .value (.func f), args := args, argTypes := ts }, ty, pos, af, g⟩ :: os) cs m D := by
  intro a w hF hS o ho
  refine TL.core (m := some o) (D := D) hg (fun a w hF hS r' hr' => ?_) a w hF hS o rfl
  obtain rfl := Option.some.inj hr'
  unfold Oper.wp
  rw [run_call hcall hF hx, Oper.upon_enter]
  refine (hc w hS r hr).mono ?_
  rintro e w' ⟨v, L', rfl, hR, hS'⟩
  exact k v L' hR _ _ hF (hS.call hS') _ ho
theorem TL.callXH {β : Type} {f : FuncId} {args : Array Operand} {ts : Array TypeId} {vs : List Value} {mf : Option β} {r : β} {R : β → Value → List Asn → Prop} (hr : mf = some r) (perm : List Nat) (LA LB : List Asn) (hp : ext perm L = some (LA ++ LB))
    (hcall : ∀ (args : Array Value) (w : World), (callFunc f args).run P w = .ok (.enter f args) w)
    (hg : gd ops Γ ⟨some d, .call { callee := .value (.func f), args := args, argTypes := ts }, ty, pos, af, g⟩ = some true) (hn : Nat.blt d n = true) (hx : evs Γ args.toList = some vs)
    (hc : ∀ w I', Hle I I' → Held LB I' → St w0 I' LA w → ∀ r, mf = some r → Calls P f vs.toArray w (RetM w0 I' (R r)))
    (k : ∀ v L', R r v L' → TL P w0 n I ((d, v) :: Γ) (L' ++ LB) ops os cs m D) :
    TL P w0 n I Γ L ops (⟨some d, .call { callee := .value (.func f), args := args, argTypes := ts }, ty, pos, af, g⟩ :: os) cs m D := by
  intro a w hF hS o ho
  refine TL.core (m := some o) (D := D) hg (fun a w hF hS r' hr' => ?_) a w hF hS o rfl
  obtain rfl := Option.some.inj hr'
  unfold Oper.wp
  rw [run_call hcall hF hx, Oper.upon_enter]
  obtain ⟨I', h1, h2, h3, h4⟩ := (hS.ext perm hp).split
  refine (hc w I' h1 h2 h3 r hr).mono ?_
  rintro e w' ⟨v, L', rfl, hR, hS'⟩
  exact k v L' hR _ _ (hF.put (by simpa using hn)) (h4 L' w' hS') _ ho
theorem TL.callXH0 {β : Type} {f : FuncId} {args : Array Operand} {ts : Array TypeId} {vs : List Value} {mf : Option β} {r : β} {R : β → Value → List Asn → Prop} (hr : mf = some r) (perm : List Nat) (LA LB : List Asn) (hp : ext perm L = some (LA ++ LB))
    (hcall : ∀ (args : Array Value) (w : World), (callFunc f args).run P w = .ok (.enter f args) w)
    (hg : gd ops Γ ⟨none, .call { callee := .value (.func f), args := args, argTypes := ts }, ty, pos, af, g⟩ = some true) (hx : evs Γ args.toList = some vs)
    (hc : ∀ w I', Hle I I' → Held LB I' → St w0 I' LA w → ∀ r, mf = some r → Calls P f vs.toArray w (RetM w0 I' (R r)))
    (k : ∀ v L', R r v L' → TL P w0 n I Γ (L' ++ LB) ops os cs m D) :
    TL P w0 n I Γ L ops (⟨none, .call { callee := .value (.func f), args := args, argTypes := ts }, ty, pos, af, g⟩ :: os) cs m D := by
  intro a w hF hS o ho
  refine TL.core (m := some o) (D := D) hg (fun a w hF hS r' hr' => ?_) a w hF hS o rfl
  obtain rfl := Option.some.inj hr'
  unfold Oper.wp
  rw [run_call hcall hF hx, Oper.upon_enter]
  obtain ⟨I', h1, h2, h3, h4⟩ := (hS.ext perm hp).split
  refine (hc w I' h1 h2 h3 r hr).mono ?_
  rintro e w' ⟨v, L', rfl, hR, hS'⟩
  exact k v L' hR _ _ hF (h4 L' w' hS') _ ho
end
end Go.Sx
