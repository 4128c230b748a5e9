/- Sx8: more operations. -/
import Derived.Test.YtgljkechjkllgaaSx7
import Derived.Laws.Small
import Derived.Orders
import Derived.KernelRfl
namespace Go.Sx
open Go.RowKit

section
variable {P : Program} {w0 : World} {n : Nat} {I : Hp} {Γ : Gm} {L : List Asn} {cs : List Code} {α : Type} {m : Option α} {D : α → Post} {ops : Array Oper} {os : List Oper}
variable {d : Nat} {ty : TypeId} {pos : String} {af : Array Edge} {g : Option (Nat × Bool)}

theorem Rd.nil {β : Type} (E : FE β) : Rd w0 I L E ⟨none, 0, 0⟩ ([] : List β) := fun _ _ => ⟨rfl, Nat.le_refl _, by simp [maxLen], .inl rfl⟩

theorem TL.boolEq {T T2 : TypeId} {x y : Operand} (a b : Bool) (hT : P.underlying T = some .bool) (hg : gd ops Γ ⟨some d, .binOp .eql T x y T2, ty, pos, af, g⟩ = some true) (hn : Nat.blt d n = true)
    (hx : ev Γ x = some (.bool a)) (hy : ev Γ y = some (.bool b))
    (kk : TL P w0 n I ((d, .bool (a == b)) :: Γ) L ops os cs m D) : TL P w0 n I Γ L ops (⟨some d, .binOp .eql T x y T2, ty, pos, af, g⟩ :: os) cs m D := by
  refine .val hg rfl (by simpa using hn) (fun a' w hF _ => run_v ?_) kk
  rw [hF.eval hx, hF.eval hy]
  simp [eqGuard, binOp, run_equal_bool w T a b hT]
theorem TL.boolNe {T T2 : TypeId} {x y : Operand} (a b : Bool) (hT : P.underlying T = some .bool) (hg : gd ops Γ ⟨some d, .binOp .neq T x y T2, ty, pos, af, g⟩ = some true) (hn : Nat.blt d n = true)
    (hx : ev Γ x = some (.bool a)) (hy : ev Γ y = some (.bool b))
    (kk : TL P w0 n I ((d, .bool (a != b)) :: Γ) L ops os cs m D) : TL P w0 n I Γ L ops (⟨some d, .binOp .neq T x y T2, ty, pos, af, g⟩ :: os) cs m D := by
  refine .val hg rfl (by simpa using hn) (fun a' w hF _ => run_v ?_) kk
  rw [hF.eval hx, hF.eval hy]
  simp [eqGuard, binOp, run_equal_bool w T a b hT, bne]

theorem TL.strEq {T T2 : TypeId} {x y : Operand} (a b : Str) (hg : gd ops Γ ⟨some d, .binOp .eql T x y T2, ty, pos, af, g⟩ = some true) (hn : Nat.blt d n = true)
    (hx : ev Γ x = some (strv a)) (hy : ev Γ y = some (strv b))
    (kk : TL P w0 n I ((d, .bool (a == b)) :: Γ) L ops os cs m D) : TL P w0 n I Γ L ops (⟨some d, .binOp .eql T x y T2, ty, pos, af, g⟩ :: os) cs m D := by
  refine .val hg rfl (by simpa using hn) (fun a' w hF _ => run_v ?_) kk
  rw [hF.eval hx, hF.eval hy]
  simp [eqGuard, binOp, Op.stringOp, strv]
theorem TL.strNe {T T2 : TypeId} {x y : Operand} (a b : Str) (hg : gd ops Γ ⟨some d, .binOp .neq T x y T2, ty, pos, af, g⟩ = some true) (hn : Nat.blt d n = true)
    (hx : ev Γ x = some (strv a)) (hy : ev Γ y = some (strv b))
    (kk : TL P w0 n I ((d, .bool (a != b)) :: Γ) L ops os cs m D) : TL P w0 n I Γ L ops (⟨some d, .binOp .neq T x y T2, ty, pos, af, g⟩ :: os) cs m D := by
  refine .val hg rfl (by simpa using hn) (fun a' w hF _ => run_v ?_) kk
  rw [hF.eval hx, hF.eval hy]
  simp [eqGuard, binOp, Op.stringOp, strv, bne]

theorem TL.lenstr {T : TypeId} {x : Operand} {s : Str} (hT : P.underlying T = some .string)
    (hg : gd ops Γ ⟨some d, .call { callee := .builtin .len, args := #[x], argTypes := #[T] }, ty, pos, af, g⟩ = some true) (hn : Nat.blt d n = true) (hx : ev Γ x = some (strv s))
    (k : TL P w0 n I ((d, .int .i64 s.length) :: Γ) L ops os cs m D) : TL P w0 n I Γ L ops (⟨some d, .call { callee := .builtin .len, args := #[x], argTypes := #[T] }, ty, pos, af, g⟩ :: os) cs m D := by
  refine .val hg rfl (by simpa using hn) (fun a w hF _ => ?_) k
  unfold execOp
  simp only [resolve, invoke, builtin, Sem.run_bind, Sem.run_pure, Result.andThen_ok, List.map_toArray, List.map_cons, List.map_nil, hF.eval hx]
  simp [Builtin.len_, run_underlying hT, goInt, strv]
  rfl
/-! ### facts ahead of a region -/
theorem TC.chk {i : Int} {len : Nat} (kk : 0 ≤ i ∧ i < len → TC P w0 n I Γ L cs m D) : TC P w0 n I Γ L cs (Sx.chk i len m) D := by
  intro a w hF hS r hr
  unfold Sx.chk at hr
  split at hr
  · rename_i hb
    exact kk hb a w hF hS r hr
  · cases hr
theorem TC.nz {b : Int} (kk : b ≠ 0 → TC P w0 n I Γ L cs m D) : TC P w0 n I Γ L cs (Sx.nz b m) D := by
  intro a w hF hS r hr
  unfold Sx.nz at hr
  split at hr
  · cases hr
  · rename_i hb
    exact kk hb a w hF hS r hr
theorem TC.bindE {β : Type} {mf : Option β} {kont : β → Option α} (kk : ∀ r, mf = some r → TC P w0 n I Γ L cs (kont r) D) : TC P w0 n I Γ L cs (mf.bind kont) D := by
  intro a w hF hS r hr
  obtain ⟨r1, hr1, hr2⟩ := Option.bind_eq_some_iff.1 hr
  exact kk r1 hr1 a w hF hS r hr2
theorem TC.ifB (b : Bool) {m1 m2 : Option α} (k1 : b = true → TC P w0 n I Γ L cs m1 D) (k2 : b = false → TC P w0 n I Γ L cs m2 D) : TC P w0 n I Γ L cs (bif b then m1 else m2) D := by
  intro a w hF hS r hr
  cases b with
  | true => exact k1 rfl a w hF hS r hr
  | false => exact k2 rfl a w hF hS r hr
theorem TL.callH {β : Type} {f : FuncId} {args : Array Operand} {ts : Array TypeId} {vs : List Value} {mf : Option β} {r : β} {R : β → Value → List Asn → Prop} (hr : mf = some r)
    (hcall : ∀ (args : Array Value) (w : World), (callFunc f args).run P w = .ok (.enter f args) w)
    (hg : gd ops Γ ⟨some d, .call { callee := .value (.func f), args := args, argTypes := ts }, ty, pos, af, g⟩ = some true) (hn : Nat.blt d n = true) (hx : evs Γ args.toList = some vs)
    (hc : ∀ w, St w0 I L w → ∀ r, mf = some r → Calls P f vs.toArray w (Ret w (R r)))
    (k : ∀ v L', R r v L' → TL P w0 n I ((d, v) :: Γ) (L' ++ L) ops os cs m D) :
    TL P w0 n I Γ L ops (⟨some d, .call { callee := .value (.func f), args := args, argTypes := ts }, ty, pos, af, g⟩ :: os) cs m D := by
  intro a w hF hS o ho
  refine TL.core (m := some o) (D := D) hg (fun a w hF hS r' hr' => ?_) a w hF hS o rfl
  obtain rfl := Option.some.inj hr'
  unfold Oper.wp
  rw [run_call hcall hF hx, Oper.upon_enter]
  refine (hc w hS r hr).mono ?_
  rintro e w' ⟨v, L', rfl, hR, hS'⟩
  exact k v L' hR _ _ (hF.put (by simpa using hn)) (hS.call hS') _ ho

/-! ### a region whose order is open -/
def depsG (ops : Array Oper) (vs : List Value) (o : Oper) : Gm := o.after.toList.filterMap fun e => if Region.binds .any e then match (ops[e.on]?).bind (·.dst), vs[e.on]? with
  | some d, some v => some (d, v)
  | _, _ => none else none
def outsG (os : List Oper) (vs : List Value) : Gm := (os.zip vs).filterMap fun p => p.1.dst.map fun d => (d, p.2)
def Each (F : Nat → Oper → Prop) : Nat → List Oper → Prop
  | _, [] => True
  | i, o :: os => F i o ∧ Each F (i + 1) os
theorem Each.get {F : Nat → Oper → Prop} : ∀ {os : List Oper} {i j : Nat} {o : Oper}, Each F i os → os[j]? = some o → F (i + j) o
  | [], _, _, _, _, h => by simp at h
  | o :: os, i, 0, _, h, e => by simp at e; subst e; exact h.1
  | _ :: os, i, j + 1, o, h, e => by
    have := Each.get (i := i + 1) (j := j) h.2 (by simpa using e)
    rwa [Nat.add_assoc, Nat.add_comm 1 j] at this

theorem Oper.wp_put {o : Oper} {a : Act} {w : World} {K : Act → World → Prop} {Q : Post} (h : o.wp P a w K Q) : o.wp P a w (fun a' w' => K a' w' ∧ (a'.defers = a.defers → ∃ v, a' = a.put o.dst v)) Q := by
  unfold Oper.wp at *
  generalize (execOp a.eval o).run P w = r at *
  cases r with
  | ok nx w' =>
    cases nx <;> simp only [Oper.upon] at h ⊢ <;>
      first
        | exact ⟨h, fun _ => ⟨_, rfl⟩⟩
        | (refine Calls.mono h (fun e w'' he => ?_); cases e <;> first | exact ⟨he, fun _ => ⟨_, rfl⟩⟩ | exact he)
        | exact Rows.mono h (fun _ _ he => ⟨he, fun _ => ⟨_, rfl⟩⟩)
        | (refine ⟨h, fun hd => ?_⟩; exfalso; cases hdst : o.dst <;> simp [Act.put, hdst] at hd)
        | exact h
  | halt x w' => cases x <;> simp only [Oper.upon] at h ⊢ <;> exact h

/-- What each operation of a region comes to, in whatever order. q: the one that turns memory, if there is one; it comes last. -/
def Draws (P : Program) (w0 : World) (n : Nat) (I : Hp) (Γ : Gm) (L L' : List Asn) (ops : Array Oper) (vs : List Value) (q : Nat) (i : Nat) (o : Oper) : Prop :=
  TL P w0 n I (depsG ops vs o ++ Γ) L ops [o] [] (some ()) (DNrm w0 n I (fun (_ : Unit) (_ : Unit) => match o.dst, vs[i]? with | some d, some v => [(d, v)] | _, _ => []) (fun _ _ => if i = q then L' else L))

theorem lk_append (A B : Gm) (t : Nat) : lk (A ++ B) t = (match lk A t with | some v => some v | none => lk B t) := by
  induction A with
  | nil => rfl
  | cons p A ih =>
    obtain ⟨k, v⟩ := p
    simp only [List.cons_append, lk]
    cases Nat.beq k t with
    | true => rfl
    | false => exact ih
theorem lk_mem {A : Gm} {t : Nat} {v : Value} (h : lk A t = some v) : (t, v) ∈ A := by
  induction A with
  | nil => cases h
  | cons p A ih =>
    obtain ⟨k, u⟩ := p
    simp only [lk] at h
    cases hb : Nat.beq k t with
    | true => rw [hb] at h; obtain rfl := Nat.eq_of_beq_eq_true hb; obtain rfl := Option.some.inj h; exact List.mem_cons_self
    | false => rw [hb] at h; exact List.mem_cons_of_mem _ (ih h)

theorem Oper.wp_monoQ {o : Oper} {a : Act} {w : World} {K : Act → World → Prop} {Q Q' : Post} (hQ : ∀ e a w, e ≠ .normal → Q e a w → Q' e a w) (hh : o.wp P a w K Q) : o.wp P a w K Q' := by
  unfold Oper.wp at *
  generalize (execOp a.eval o).run P w = r at *
  cases r with
  | ok nx w' =>
    cases nx <;> simp only [Oper.upon] at hh ⊢ <;>
      first
        | exact hh
        | (refine Calls.mono hh (fun e w'' he => ?_); cases e <;> first | exact he | exact hQ _ _ _ (by simp) he | (obtain ⟨a, w, h⟩ := he; exact ⟨a, w, hQ _ _ _ (by simp) h⟩))
  | halt x w' => cases x <;> simp only [Oper.upon] at hh ⊢ <;> first | exact hh | exact hQ _ _ _ (by simp) hh

/-- Edges lead back. -/
def backward (ops : Array Oper) : Bool := ops.toList.zipIdx.all fun p => p.1.after.toList.all fun e => !Region.binds .any e || decide (e.on < p.2)
/-- q, if it is one of them, comes behind all others. -/
def lastly (ops : Array Oper) (q : Nat) : Bool := match ops[q]? with
  | none => true
  | some o => (List.range ops.size).all fun j => j == q || o.after.toList.any fun e => Region.binds .any e && e.on == j
/-- The places that are written: each once, and none that is told already. -/
def nodupB : List Nat → Bool
  | [] => true
  | x :: xs => xs.all (fun y => !Nat.beq x y) && nodupB xs
theorem nodupB_spec : ∀ {xs : List Nat}, nodupB xs = true → xs.Nodup
  | [], _ => List.nodup_nil
  | x :: xs, h => by
    simp only [nodupB, Bool.and_eq_true] at h
    refine List.nodup_cons.2 ⟨fun hm => ?_, nodupB_spec h.2⟩
    have := List.all_eq_true.1 h.1 x hm
    simp at this
def apartD (ops : Array Oper) (Γ : Gm) : Bool :=
  nodupB (ops.toList.filterMap (·.dst)) && (ops.toList.filterMap (·.dst)).all fun d => (lk Γ d).isNone

structure DInv (w0 : World) (n : Nat) (I : Hp) (Γ : Gm) (L L' : List Asn) (ops : Array Oper) (vs : List Value) (q : Nat) (listed : Array Bool) (a : Act) (w : World) : Prop where
  fr : Fr n Γ a
  outs : ∀ i o d v, listed.getD i false = true → ops[i]? = some o → o.dst = some d → vs[i]? = some v → a.tmps[d]? = some v
  st : St w0 I (if listed.getD q false = true then L' else L) w
  sz : listed.size = ops.size
  lq : listed.getD q false = true → ∀ j, j < ops.size → listed.getD j false = true

def unl (listed : Array Bool) : Nat := listed.toList.countP (· == false)
theorem unl_set {listed : Array Bool} {i : Nat} (h : listed.getD i true = false) : unl (listed.setIfInBounds i true) + 1 = unl listed := by
  have hi : i < listed.size := by
    by_cases hc : i < listed.size
    · exact hc
    · simp [Array.getD, hc] at h
  have hl : listed.toList[i]'(by simpa using hi) = false := by
    have : listed[i] = false := by simpa [Array.getD, hi] using h
    simpa using this
  unfold unl
  rw [Array.toList_setIfInBounds, List.countP_set (by simpa using hi)]
  have hpos : 0 < listed.toList.countP (· == false) := List.countP_pos_iff.2 ⟨false, by rw [← hl]; exact List.getElem_mem _, rfl⟩
  rw [hl, if_pos (by rfl), if_neg (by decide)]
  omega
theorem getD_set {listed : Array Bool} {i j : Nat} {b : Bool} : (listed.setIfInBounds i true).getD j b = if i = j ∧ i < listed.size then true else listed.getD j b := by
  simp only [Array.getD_eq_getD_getElem?, Array.getElem?_setIfInBounds]
  by_cases hij : i = j
  · subst hij
    by_cases hi : i < listed.size
    · simp [hi]
    · simp [hi]
  · simp [hij]

theorem ready_spec {ops : Array Oper} {listed : Array Bool} {i : Nat} (h : i ∈ Region.ready .any ops listed) : i < ops.size ∧ listed.getD i true = false ∧ ∃ o, ops[i]? = some o ∧ ∀ e ∈ o.after.toList, Region.binds .any e = true → listed.getD e.on false = true := by
  unfold Region.ready at h
  obtain ⟨h1, h2⟩ := List.mem_filter.1 h
  have hi := List.mem_range.1 h1
  simp only [Bool.and_eq_true, Bool.not_eq_true'] at h2
  refine ⟨hi, h2.1, ops[i], by simp [hi], ?_⟩
  intro e he hb
  have h3 := h2.2
  simp only [Array.getElem?_eq_getElem hi, Option.map_some, Option.getD_some, Array.all_eq_true'] at h3
  have := h3 e (by simpa using he)
  simpa [hb] using this

theorem ready_nil {ops : Array Oper} {listed : Array Bool} (hsz : listed.size = ops.size) (hb : backward ops = true) (h : Region.ready .any ops listed = []) : ∀ j, j < ops.size → listed.getD j false = true := by
  intro j
  induction j using Nat.strongRecOn with
  | _ j ih =>
    intro hj
    cases hc : listed.getD j false with
    | true => rfl
    | false =>
      exfalso
      have hjl : j < listed.size := by omega
      have hc' : listed.getD j true = false := by simpa [Array.getD, hjl] using hc
      have : j ∈ Region.ready .any ops listed := by
        unfold Region.ready
        refine List.mem_filter.2 ⟨List.mem_range.2 hj, ?_⟩
        simp only [hc', Bool.not_false, Bool.true_and, Array.getElem?_eq_getElem hj, Option.map_some, Option.getD_some, Array.all_eq_true']
        intro e he
        cases hbe : Region.binds .any e with
        | false => simp
        | true =>
          simp only [Bool.not_true, Bool.false_or]
          unfold backward at hb
          have h1 := List.all_eq_true.1 hb (ops[j], j) (by
            rw [List.mem_zipIdx_iff_getElem?]; simp [hj])
          have h2 := List.all_eq_true.1 h1 e (by simpa using he)
          simp only [hbe, Bool.not_true, Bool.false_or, decide_eq_true_eq] at h2
          exact ih e.on h2 (by omega)
      rw [h] at this; cases this

theorem draws_any {Q : Post} {vs : List Value} {q : Nat} {L' : List Asn} (hlen : vs.length = ops.size) (hb : backward ops = true) (hq : lastly ops q = true) (hap : apartD ops Γ = true)
    (hops : Each (Draws P w0 n I Γ L L' ops vs q) 0 ops.toList)
    (hfin : ∀ a w, (∀ listed, DInv w0 n I Γ L L' ops vs q listed a w → (∀ j, j < ops.size → listed.getD j false = true) → Q .normal a w)) :
    ∀ (fuel : Nat) (listed : Array Bool) (a : Act) (w : World), DInv w0 n I Γ L L' ops vs q listed a w → unl listed = fuel → wpAny P .any ops Q fuel listed a w := by
  intro fuel
  induction fuel with
  | zero =>
    intro listed a w h hu
    have hall : ∀ j, j < ops.size → listed.getD j false = true := by
      intro j hj
      unfold unl at hu
      rw [List.countP_eq_zero] at hu
      have hjl : j < listed.size := by rw [h.sz]; exact hj
      have := hu listed[j] (by simp)
      have h2 : listed[j] = true := by simpa using this
      simp [Array.getD, hjl, h2]
    refine ⟨?_, hfin a w listed h hall⟩
    refine List.eq_nil_iff_forall_not_mem.2 fun i hi => ?_
    obtain ⟨h1, h2, _⟩ := ready_spec hi
    have := hall i h1
    have hil : i < listed.size := by rw [h.sz]; exact h1
    simp [Array.getD, hil] at this h2
    rw [this] at h2; cases h2
  | succ fuel ih =>
    intro listed a w h hu
    refine ⟨fun hr => hfin a w listed h (ready_nil h.sz hb hr), ?_⟩
    intro i hi
    obtain ⟨hi1, hi2, o, ho, hdeps⟩ := ready_spec hi
    have hil : i < listed.size := by rw [h.sz]; exact hi1
    have hif : listed.getD i false = false := by simpa [Array.getD, hil] using hi2
    have hqn : listed.getD q false = false := by
      cases hc : listed.getD q false with
      | false => rfl
      | true => have := h.lq hc i hi1; rw [hif] at this; cases this
    have hst := h.st
    rw [hqn] at hst
    simp only [Bool.false_eq_true, if_false] at hst
    have hD : Draws P w0 n I Γ L L' ops vs q i o := by
      have := Each.get (i := 0) (j := i) hops (by simpa using ho)
      simpa using this
    have hfr : Fr n (depsG ops vs o ++ Γ) a := by
      refine ⟨h.fr.size, h.fr.nod, ?_⟩
      intro t v ht
      rw [lk_append] at ht
      split at ht
      · rename_i v' hv'
        obtain rfl := Option.some.inj ht
        have hm := lk_mem hv'
        unfold depsG at hm
        obtain ⟨e, he, hv⟩ := List.mem_filterMap.1 hm
        split at hv
        · rename_i hbe
          split at hv
          · rename_i d v2 hd2 hv2
            have hp := Option.some.inj hv
            injection hp with hp1 hp2
            subst hp1 hp2
            obtain ⟨o2, ho2, hd3⟩ := Option.bind_eq_some_iff.1 hd2
            exact h.outs e.on o2 d v2 (hdeps e he hbe) ho2 hd3 hv2
          · cases hv
        · cases hv
      · exact h.fr.has t v ht
    have hrun := hD a w hfr hst () rfl
    -- the invariant behind the operation
    have hnext : ∀ a' w', DNrm w0 n I (fun (_ : Unit) (_ : Unit) => match o.dst, vs[i]? with | some d, some v => [(d, v)] | _, _ => []) (fun _ _ => if i = q then L' else L) () .normal a' w' →
        (∃ v, a' = a.put o.dst v) → DInv w0 n I Γ L L' ops vs q (listed.setIfInBounds i true) a' w' := by
      rintro a' w' ⟨_, _, hF', hS'⟩ ⟨v, rfl⟩
      have hvi : ∃ v, vs[i]? = some v := ⟨vs[i]'(by omega), by simp [show i < vs.length by omega]⟩
      obtain ⟨vi, hvi⟩ := hvi
      unfold apartD at hap
      simp only [Bool.and_eq_true] at hap
      obtain ⟨hnd, hnone⟩ := hap
      replace hnd := nodupB_spec hnd
      have hmem : ∀ (j : Nat) (o' : Oper) (d : Nat), ops[j]? = some o' → o'.dst = some d → d ∈ ops.toList.filterMap (·.dst) := fun j o' d hj hd => List.mem_filterMap.2 ⟨o', List.mem_of_getElem? (by simpa using hj), hd⟩
      have hne : ∀ (j : Nat) (o' : Oper) (d d' : Nat), ops[j]? = some o' → o'.dst = some d' → o.dst = some d → j ≠ i → d' ≠ d := by
        intro j o' d d' hj hd' hd hji he
        subst he
        have key : ∀ (xs : List Oper) (j i : Nat) (o' o : Oper) (d : Nat), (xs.filterMap (·.dst)).Nodup → xs[j]? = some o' → xs[i]? = some o → o'.dst = some d → o.dst = some d → j = i := by
          intro xs
          induction xs with
          | nil => intro j i o' o d _ h; simp at h
          | cons x xs ih =>
            intro j i o' o d hn h1 h2 h3 h4
            have hn' : (xs.filterMap (·.dst)).Nodup := by
              cases hx : x.dst with
              | none => simpa [hx] using hn
              | some y => simp only [List.filterMap_cons, hx, List.nodup_cons] at hn; exact hn.2
            cases j with
            | zero =>
              simp at h1; subst h1
              cases i with
              | zero => rfl
              | succ i =>
                exfalso
                simp only [List.filterMap_cons, h3, List.nodup_cons] at hn
                exact hn.1 (List.mem_filterMap.2 ⟨o, List.mem_of_getElem? (by simpa using h2), h4⟩)
            | succ j =>
              cases i with
              | zero =>
                exfalso
                simp at h2; subst h2
                simp only [List.filterMap_cons, h4, List.nodup_cons] at hn
                exact hn.1 (List.mem_filterMap.2 ⟨o', List.mem_of_getElem? (by simpa using h1), h3⟩)
              | succ i => rw [ih j i o' o d hn' (by simpa using h1) (by simpa using h2) h3 h4]
        exact hji (key ops.toList j i o' o d' hnd (by simpa using hj) (by simpa using ho) hd' hd)
      refine ⟨?_, ?_, ?_, by simpa using h.sz, ?_⟩
      · cases hd : o.dst with
        | none => exact h.fr
        | some d =>
          refine ⟨by simp [Act.put, h.fr.size], h.fr.nod, ?_⟩
          intro t u hu
          have hdt : d ≠ t := by
            rintro rfl
            have := List.all_eq_true.1 hnone d (hmem i o d ho hd)
            rw [hu] at this; cases this
          have := h.fr.has t u hu
          simp [Act.put, hdt, this]
      · intro j o' d' v' hj ho' hd' hv'
        by_cases hji : j = i
        · subst hji
          rw [ho] at ho'; obtain rfl := Option.some.inj ho'
          refine hF'.has d' v' ?_
          simp [hd', hv', lk]
        · rw [getD_set, if_neg (by rintro ⟨e, _⟩; exact hji e.symm)] at hj
          have := h.outs j o' d' v' hj ho' hd' hv'
          cases hd : o.dst with
          | none => exact this
          | some d =>
            have hdd := hne j o' d d' ho' hd' hd hji
            have hdd' : d ≠ d' := fun e => hdd e.symm
            simp [Act.put, hdd', this]
      · by_cases hiq : i = q
        · have e1 : (listed.setIfInBounds i true).getD q false = true := by rw [getD_set, if_pos ⟨hiq, hil⟩]
          rw [e1]
          simp only [hiq, if_true] at hS' ⊢
          exact hS'
        · have e1 : (listed.setIfInBounds i true).getD q false = false := by rw [getD_set, if_neg (by rintro ⟨e, _⟩; exact hiq e), hqn]
          rw [e1]
          simp only [hiq, if_false] at hS'
          simpa using hS'
      · intro hqq j hj
        rw [getD_set]
        by_cases hji : i = j
        · rw [if_pos ⟨hji, hil⟩]
        · rw [if_neg (by rintro ⟨e, _⟩; exact hji e)]
          rw [getD_set] at hqq
          by_cases hiq : i = q
          · subst hiq
            unfold lastly at hq
            rw [ho] at hq
            have h1 := List.all_eq_true.1 hq j (List.mem_range.2 hj)
            simp only [Bool.or_eq_true, beq_iff_eq] at h1
            rcases h1 with h1 | h1
            · exact absurd h1.symm hji
            · obtain ⟨e, he, h2⟩ := List.any_eq_true.1 h1
              simp only [Bool.and_eq_true, beq_iff_eq] at h2
              rw [← h2.2]
              exact hdeps e he h2.1
          · rw [if_neg (by rintro ⟨e, _⟩; exact hiq e), hqn] at hqq; cases hqq
    have hu' : unl (listed.setIfInBounds i true) = fuel := by have := unl_set hi2; omega
    unfold wpOp
    rw [ho]
    simp only
    simp only [wpList, seqs] at hrun
    split
    · rename_i hw
      rw [if_pos hw] at hrun
      rcases hrun with hrun | ⟨_, a0, w1, g, he, _⟩
      · refine .inl (Oper.wp_mono (fun a' w' h' => ?_) (Oper.wp_monoQ (fun e a' w' hen h' => ?_) (Oper.wp_put hrun)))
        · obtain ⟨h1, h2⟩ := h'
          have hdef : a'.defers = a.defers := by obtain ⟨_, _, hF', _⟩ := h1; rw [hF'.nod, h.fr.nod]
          exact ih _ _ _ (hnext a' w' h1 (h2 hdef)) hu'
        · obtain ⟨g, rfl, hF', hS'⟩ := h'
          exact absurd rfl hen
      · cases he
    · rename_i hw
      rw [if_neg hw] at hrun
      exact ih _ _ _ (hnext _ _ hrun ⟨_, rfl⟩) hu'

/-- A region whose order is open. -/
theorem TC.draw {id : Nat} (vs : List Value) (q : Nat) (L' : List Asn) (hm : P.follows .mixedOrders = true) (hlen : Nat.beq vs.length ops.size = true) (hb : backward ops = true) (hq : lastly ops q = true) (hap : apartD ops Γ = true)
    (hops : Each (Draws P w0 n I Γ L L' ops vs q) 0 ops.toList)
    (k : TC P w0 n I (outsG ops.toList vs ++ Γ) (if q < ops.size then L' else L) cs m D) : TC P w0 n I Γ L (.region id ops true :: cs) m D := by
  intro a w hF hS o ho
  have hlen' := Nat.eq_of_beq_eq_true hlen
  refine wp_region_any hm (draws_any (w0 := w0) (n := n) (I := I) (Γ := Γ) (L := L) hlen' hb hq hap hops ?_ ops.size (Array.replicate ops.size false) a _ ?_ ?_)
  · intro a w listed h hall
    refine k a w ⟨h.fr.size, h.fr.nod, ?_⟩ ?_ o ho
    · intro t v ht
      rw [lk_append] at ht
      split at ht
      · rename_i v' hv'
        obtain rfl := Option.some.inj ht
        have hm := lk_mem hv'
        unfold outsG at hm
        obtain ⟨p, hp, hv⟩ := List.mem_filterMap.1 hm
        obtain ⟨d, hd, he⟩ := Option.map_eq_some_iff.1 hv
        injection he with he1 he2
        subst he1 he2
        obtain ⟨i, hi, hpi⟩ := List.mem_iff_getElem.1 hp
        have hio : i < ops.size := by simp at hi; omega
        have hiv : i < vs.length := by simp at hi; omega
        rw [List.getElem_zip] at hpi
        subst hpi
        refine h.outs i ops[i] d vs[i] (hall i hio) (by simp [hio]) (by simpa using hd) (by simp [hiv])
      · exact h.fr.has t v ht
    · have hst := h.st
      by_cases hqs : q < ops.size
      · rw [hall q hqs] at hst
        simpa [hqs] using hst
      · have : listed.getD q false = false := by simp [Array.getD, h.sz, hqs]
        rw [this] at hst
        simpa [hqs] using hst
  · refine ⟨hF, ?_, ?_, by simp, ?_⟩
    · intro i o d v h
      exfalso
      by_cases hi : i < ops.size <;> simp [Array.getD, hi] at h
    · have : (Array.replicate ops.size false).getD q false = false := by by_cases hi : q < ops.size <;> simp [Array.getD, hi]
      rw [this]
      simpa using hS.drew
    · intro h
      exfalso
      by_cases hi : q < ops.size <;> simp [Array.getD, hi] at h
  · simp [unl, List.countP_replicate]
end
end Go.Sx
