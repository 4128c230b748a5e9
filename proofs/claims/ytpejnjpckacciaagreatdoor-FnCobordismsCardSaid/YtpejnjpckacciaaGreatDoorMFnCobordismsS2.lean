/- Sy2: more operations; regions whose order is open; slices of slices. -/
import Derived.Test.YtpejnjpckacciaaGreatDoorMFnCobordismsS1
import Derived.Laws.Small
import Derived.Orders
import Derived.KernelRfl
import Derived.Laws.Cover3
import Derived.Laws.BytesArg
import Derived.Laws.BytesString
import Derived.Laws.StructEq
import Derived.ChangeKeysEq
namespace Go.Sx
open Go.RowKit
section
variable {P : Program} {w0 : World} {n : Nat} {I : Hp} {Γ : Gm} {L : List Asn} {cs : List Code} {α : Type} {m : Option α} {D : α → Post} {ops : Array Oper} {os : List Oper}
variable {d : Nat} {ty : TypeId} {pos : String} {af : Array Edge} {g : Option (Nat × Bool)}
theorem Rd.nil {β : Type} (E : FE β) : Rd w0 I L E ⟨none, 0, 0⟩ ([] : List β) := fun _ _ => ⟨rfl, Nat.le_refl _, by simp [maxLen], .inl rfl⟩
theorem TL.boolNe {T T2 : TypeId} {x y : Operand} (a b : Bool) (hT : P.underlying T = some .bool) (hg : gd ops Γ ⟨some d, .binOp .neq T x y T2, ty, pos, af, g⟩ = some true) (hn : Nat.blt d n = true)
  (hx : ev Γ x = some (.bool a)) (hy : ev Γ y = some (.bool b))
  (kk : TL P w0 n I ((d, .bool (a != b)) :: Γ) L ops os cs m D) : TL P w0 n I Γ L ops (⟨some d, .binOp .neq T x y T2, ty, pos, af, g⟩ :: os) cs m D := by
 refine .val hg rfl (by simpa using hn) (fun a' w hF _ => run_v ?_) kk
 rw [hF.eval hx, hF.eval hy]
 simp [eqGuard, binOp, run_equal_bool w T a b hT, bne]
theorem TL.strEq {T T2 : TypeId} {x y : Operand} (a b : Str) (hg : gd ops Γ ⟨some d, .binOp .eql T x y T2, ty, pos, af, g⟩ = some true) (hn : Nat.blt d n = true)
  (hx : ev Γ x = some (strv a)) (hy : ev Γ y = some (strv b))
  (kk : TL P w0 n I ((d, .bool (a == b)) :: Γ) L ops os cs m D) : TL P w0 n I Γ L ops (⟨some d, .binOp .eql T x y T2, ty, pos, af, g⟩ :: os) cs m D := by
 refine .val hg rfl (by simpa using hn) (fun a' w hF _ => run_v ?_) kk
 rw [hF.eval hx, hF.eval hy]
 simp [eqGuard, binOp, Op.stringOp, strv]
theorem TL.strNe {T T2 : TypeId} {x y : Operand} (a b : Str) (hg : gd ops Γ ⟨some d, .binOp .neq T x y T2, ty, pos, af, g⟩ = some true) (hn : Nat.blt d n = true)
  (hx : ev Γ x = some (strv a)) (hy : ev Γ y = some (strv b))
  (kk : TL P w0 n I ((d, .bool (a != b)) :: Γ) L ops os cs m D) : TL P w0 n I Γ L ops (⟨some d, .binOp .neq T x y T2, ty, pos, af, g⟩ :: os) cs m D := by
 refine .val hg rfl (by simpa using hn) (fun a' w hF _ => run_v ?_) kk
 rw [hF.eval hx, hF.eval hy]
 simp [eqGuard, binOp, Op.stringOp, strv, bne]
theorem TL.lenstr {T : TypeId} {x : Operand} {s : Str} (hT : P.underlying T = some .string)
  (hg : gd ops Γ ⟨some d, .call { callee := .builtin .len, args := #[x], argTypes := #[T] }, ty, pos, af, g⟩ = some true) (hn : Nat.blt d n = true) (hx : ev Γ x = some (strv s))
  (k : TL P w0 n I ((d, .int .i64 s.length) :: Γ) L ops os cs m D) : TL P w0 n I Γ L ops (⟨some d, .call { callee := .builtin .len, args := #[x], argTypes := #[T] }, ty, pos, af, g⟩ :: os) cs m D := by
 refine .val hg rfl (by simpa using hn) (fun a w hF _ => ?_) k
 unfold execOp
 simp only [resolve, invoke, builtin, Sem.run_bind, Sem.run_pure, Result.andThen_ok, List.map_toArray, List.map_cons, List.map_nil, hF.eval hx]
 simp [Builtin.len_, run_underlying hT, goInt, strv]
 rfl
theorem TC.chk {i : Int} {len : Nat} (kk : 0 ≤ i ∧ i < len → TC P w0 n I Γ L cs m D) : TC P w0 n I Γ L cs (Sx.chk i len m) D := by
 intro a w hF hS r hr
 unfold Sx.chk at hr
 split at hr
 ·rename_i hb
  exact kk hb a w hF hS r hr
 cases hr
theorem TC.nz {b : Int} (kk : b ≠ 0 → TC P w0 n I Γ L cs m D) : TC P w0 n I Γ L cs (Sx.nz b m) D := by
 intro a w hF hS r hr
 unfold Sx.nz at hr
 split at hr
 ·cases hr
 rename_i hb
 exact kk hb a w hF hS r hr
theorem TC.bindE {β : Type} {mf : Option β} {kont : β → Option α} (kk : ∀ r, mf = some r → TC P w0 n I Γ L cs (kont r) D) : TC P w0 n I Γ L cs (mf.bind kont) D := by
 intro a w hF hS r hr
 obtain ⟨r1, hr1, hr2⟩ := Option.bind_eq_some_iff.1 hr
 exact kk r1 hr1 a w hF hS r hr2
theorem TC.ifB (b : Bool) {m1 m2 : Option α} (k1 : b = true → TC P w0 n I Γ L cs m1 D) (k2 : b = false → TC P w0 n I Γ L cs m2 D) : TC P w0 n I Γ L cs (bif b then m1 else m2) D := by
 intro a w hF hS r hr
 cases b with
 | true => exact k1 rfl a w hF hS r hr
 | false => exact k2 rfl a w hF hS r hr
theorem TL.callH {β : Type} {f : FuncId} {args : Array Operand} {ts : Array TypeId} {vs : List Value} {mf : Option β} {r : β} {R : β → Value → List Asn → Prop} (hr : mf = some r)
  (hcall : ∀ (args : Array Value) (w : World), (callFunc f args).run P w = .ok (.enter f args) w)
  (hg : gd ops Γ ⟨some d, .call { callee := .value (.func f), args := args, argTypes := ts }, ty, pos, af, g⟩ = some true) (hn : Nat.blt d n = true) (hx : evs Γ args.toList = some vs)
  (hc : ∀ w, St w0 I L w → ∀ r, mf = some r → Calls P f vs.toArray w (Ret w (R r)))
  (k : ∀ v L', R r v L' → TL P w0 n I ((d, v) :: Γ) (L' ++ L) ops os cs m D) :
  TL P w0 n I Γ L ops (⟨some d, .call { callee := .value (.func f), args := args, argTypes := ts }, ty, pos, af, g⟩ :: os) cs m D := by
 intro a w hF hS o ho
 refine TL.core (m := some o) (D := D) hg (fun a w hF hS r' hr' => ?_) a w hF hS o rfl
 obtain rfl := Option.some.inj hr'
 unfold Oper.wp
 rw [run_call hcall hF hx, Oper.upon_enter]
 refine (hc w hS r hr).mono ?_
 rintro e w' ⟨v, L', rfl, hR, hS'⟩
 exact k v L' hR _ _ (hF.put (by simpa using hn)) (hS.call hS') _ ho
def depsG (ops : Array Oper) (vs : List Value) (o : Oper) : Gm := o.after.toList.filterMap fun e => if Region.binds .any e then match (ops[e.on]?).bind (·.dst), vs[e.on]? with
  | some d, some v => some (d, v)
  | _, _ => none else none
def outsG (os : List Oper) (vs : List Value) : Gm := (os.zip vs).filterMap fun p => p.1.dst.map fun d => (d, p.2)
def Each (F : Nat → Oper → Prop) : Nat → List Oper → Prop
  | _, [] => True
  | i, o :: os => F i o ∧ Each F (i + 1) os
theorem Each.get {F : Nat → Oper → Prop} : ∀ {os : List Oper} {i j : Nat} {o : Oper}, Each F i os → os[j]? = some o → F (i + j) o
 | [], _, _, _, _, h => by simp at h
 | o :: os, i, 0, _, h, e => by simp at e; subst e; exact h.1
 | _ :: os, i, j + 1, o, h, e => by
  have := Each.get (i := i + 1) (j := j) h.2 (by simpa using e)
  rwa [Nat.add_assoc, Nat.add_comm 1 j] at this
theorem Oper.wp_put {o : Oper} {a : Act} {w : World} {K : Act → World → Prop} {Q : Post} (h : o.wp P a w K Q) : o.wp P a w (fun a' w' => K a' w' ∧ (a'.defers = a.defers → ∃ v, a' = a.put o.dst v)) Q := by
 unfold Oper.wp at *
 generalize (execOp a.eval o).run P w = r at *
 cases r with
 | ok nx w' =>
  cases nx <;> simp only [Oper.upon] at h ⊢ <;>
   first
    | exact ⟨h, fun _ => ⟨_, rfl⟩⟩
    | (refine Calls.mono h (fun e w'' he => ?_); cases e <;> first | exact ⟨he, fun _ => ⟨_, rfl⟩⟩ | exact he)
    | exact Rows.mono h (fun _ _ he => ⟨he, fun _ => ⟨_, rfl⟩⟩)
    | (refine ⟨h, fun hd => ?_⟩; exfalso; cases hdst : o.dst <;> simp [Act.put, hdst] at hd)
    | exact h
 | halt x w' => cases x <;> simp only [Oper.upon] at h ⊢ <;> exact h
def Draws (P : Program) (w0 : World) (n : Nat) (I : Hp) (Γ : Gm) (L L' : List Asn) (ops : Array Oper) (vs : List Value) (q : Nat) (i : Nat) (o : Oper) : Prop :=
  TL P w0 n I (depsG ops vs o ++ Γ) L ops [o] [] (some ()) (DNrm w0 n I (fun (_ : Unit) (_ : Unit) => match o.dst, vs[i]? with | some d, some v => [(d, v)] | _, _ => []) (fun _ _ => if i = q then L' else L))
theorem lk_append (A B : Gm) (t : Nat) : lk (A ++ B) t = (match lk A t with | some v => some v | none => lk B t) := by
 induction A with
 | nil => rfl
 | cons p A ih =>
  obtain ⟨k, v⟩ := p
  simp only [List.cons_append, lk]
  cases Nat.beq k t with
  | true => rfl
  | false => exact ih
theorem lk_mem {A : Gm} {t : Nat} {v : Value} (h : lk A t = some v) : (t, v) ∈ A := by
 induction A with
 | nil => cases h
 | cons p A ih =>
  obtain ⟨k, u⟩ := p
  simp only [lk] at h
  cases hb : Nat.beq k t with
  | true => rw [hb] at h; obtain rfl := Nat.eq_of_beq_eq_true hb; obtain rfl := Option.some.inj h; exact List.mem_cons_self
  | false => rw [hb] at h; exact List.mem_cons_of_mem _ (ih h)
theorem Oper.wp_monoQ {o : Oper} {a : Act} {w : World} {K : Act → World → Prop} {Q Q' : Post} (hQ : ∀ e a w, e ≠ .normal → Q e a w → Q' e a w) (hh : o.wp P a w K Q) : o.wp P a w K Q' := by
 unfold Oper.wp at *
 generalize (execOp a.eval o).run P w = r at *
 cases r with
 | ok nx w' =>
  cases nx <;> simp only [Oper.upon] at hh ⊢ <;>
   first
    | exact hh
    | (refine Calls.mono hh (fun e w'' he => ?_); cases e <;> first | exact he | exact hQ _ _ _ (by simp) he | (obtain ⟨a, w, h⟩ := he; exact ⟨a, w, hQ _ _ _ (by simp) h⟩))
 | halt x w' => cases x <;> simp only [Oper.upon] at hh ⊢ <;> first | exact hh | exact hQ _ _ _ (by simp) hh
def backward (ops : Array Oper) : Bool := ops.toList.zipIdx.all fun p => p.1.after.toList.all fun e => !Region.binds .any e || decide (e.on < p.2)
def lastly (ops : Array Oper) (q : Nat) : Bool := match ops[q]? with
  | none => true
  | some o => (List.range ops.size).all fun j => j == q || o.after.toList.any fun e => Region.binds .any e && e.on == j
def nodupB : List Nat → Bool
  | [] => true
  | x :: xs => xs.all (fun y => !Nat.beq x y) && nodupB xs
theorem nodupB_spec : ∀ {xs : List Nat}, nodupB xs = true → xs.Nodup
 | [], _ => List.nodup_nil
 | x :: xs, h => by
  simp only [nodupB, Bool.and_eq_true] at h
  refine List.nodup_cons.2 ⟨fun hm => ?_, nodupB_spec h.2⟩
  have := List.all_eq_true.1 h.1 x hm
  simp at this
def apartD (ops : Array Oper) (Γ : Gm) : Bool :=
  nodupB (ops.toList.filterMap (·.dst)) && (ops.toList.filterMap (·.dst)).all fun d => (lk Γ d).isNone
structure DInv (w0 : World) (n : Nat) (I : Hp) (Γ : Gm) (L L' : List Asn) (ops : Array Oper) (vs : List Value) (q : Nat) (listed : Array Bool) (a : Act) (w : World) : Prop where
  fr : Fr n Γ a
  outs : ∀ i o d v, listed.getD i false = true → ops[i]? = some o → o.dst = some d → vs[i]? = some v → a.tmps[d]? = some v
  st : St w0 I (if listed.getD q false = true then L' else L) w
  sz : listed.size = ops.size
  lq : listed.getD q false = true → ∀ j, j < ops.size → listed.getD j false = true
def unl (listed : Array Bool) : Nat := listed.toList.countP (· == false)
theorem unl_set {listed : Array Bool} {i : Nat} (h : listed.getD i true = false) : unl (listed.setIfInBounds i true) + 1 = unl listed := by
 have hi : i < listed.size := by
  by_cases hc : i < listed.size
  ·exact hc
  simp [Array.getD, hc] at h
 have hl : listed.toList[i]'(by simpa using hi) = false := by
  have : listed[i] = false := by simpa [Array.getD, hi] using h
  simpa using this
 unfold unl
 rw [Array.toList_setIfInBounds, List.countP_set (by simpa using hi)]
 have hpos : 0 < listed.toList.countP (· == false) := List.countP_pos_iff.2 ⟨false, by rw [← hl]; exact List.getElem_mem _, rfl⟩
 rw [hl, if_pos (by rfl), if_neg (by decide)]
 omega
theorem getD_set {listed : Array Bool} {i j : Nat} {b : Bool} : (listed.setIfInBounds i true).getD j b = if i = j ∧ i < listed.size then true else listed.getD j b := by
 simp only [Array.getD_eq_getD_getElem?, Array.getElem?_setIfInBounds]
 by_cases hij : i = j
 ·subst hij
  by_cases hi : i < listed.size
  ·simp [hi]
  simp [hi]
 simp [hij]
theorem ready_spec {ops : Array Oper} {listed : Array Bool} {i : Nat} (h : i ∈ Region.ready .any ops listed) : i < ops.size ∧ listed.getD i true = false ∧ ∃ o, ops[i]? = some o ∧ ∀ e ∈ o.after.toList, Region.binds .any e = true → listed.getD e.on false = true := by
 unfold Region.ready at h
 obtain ⟨h1, h2⟩ := List.mem_filter.1 h
 have hi := List.mem_range.1 h1
 simp only [Bool.and_eq_true, Bool.not_eq_true'] at h2
 refine ⟨hi, h2.1, ops[i], by simp [hi], ?_⟩
 intro e he hb
 have h3 := h2.2
 simp only [Array.getElem?_eq_getElem hi, Option.map_some, Option.getD_some, Array.all_eq_true'] at h3
 have := h3 e (by simpa using he)
 simpa [hb] using this
theorem ready_nil {ops : Array Oper} {listed : Array Bool} (hsz : listed.size = ops.size) (hb : backward ops = true) (h : Region.ready .any ops listed = []) : ∀ j, j < ops.size → listed.getD j false = true := by
 intro j
 induction j using Nat.strongRecOn with
 | _ j ih =>
  intro hj
  cases hc : listed.getD j false with
  | true => rfl
  | false =>
   exfalso
   have hjl : j < listed.size := by omega
   have hc' : listed.getD j true = false := by simpa [Array.getD, hjl] using hc
   have : j ∈ Region.ready .any ops listed := by
    unfold Region.ready
    refine List.mem_filter.2 ⟨List.mem_range.2 hj, ?_⟩
    simp only [hc', Bool.not_false, Bool.true_and, Array.getElem?_eq_getElem hj, Option.map_some, Option.getD_some, Array.all_eq_true']
    intro e he
    cases hbe : Region.binds .any e with
    | false => simp
    | true =>
     simp only [Bool.not_true, Bool.false_or]
     unfold backward at hb
     have h1 := List.all_eq_true.1 hb (ops[j], j) (by
      rw [List.mem_zipIdx_iff_getElem?]; simp [hj])
     have h2 := List.all_eq_true.1 h1 e (by simpa using he)
     simp only [hbe, Bool.not_true, Bool.false_or, decide_eq_true_eq] at h2
     exact ih e.on h2 (by omega)
   rw [h] at this; cases this
theorem draws_any {Q : Post} {vs : List Value} {q : Nat} {L' : List Asn} (hlen : vs.length = ops.size) (hb : backward ops = true) (hq : lastly ops q = true) (hap : apartD ops Γ = true)
  (hops : Each (Draws P w0 n I Γ L L' ops vs q) 0 ops.toList)
  (hfin : ∀ a w, (∀ listed, DInv w0 n I Γ L L' ops vs q listed a w → (∀ j, j < ops.size → listed.getD j false = true) → Q .normal a w)) :
  ∀ (fuel : Nat) (listed : Array Bool) (a : Act) (w : World), DInv w0 n I Γ L L' ops vs q listed a w → unl listed = fuel → wpAny P .any ops Q fuel listed a w := by
 intro fuel
 induction fuel with
 | zero =>
  intro listed a w h hu
  have hall : ∀ j, j < ops.size → listed.getD j false = true := by
   intro j hj
   unfold unl at hu
   rw [List.countP_eq_zero] at hu
   have hjl : j < listed.size := by rw [h.sz]; exact hj
   have := hu listed[j] (by simp)
   have h2 : listed[j] = true := by simpa using this
   simp [Array.getD, hjl, h2]
  refine ⟨?_, hfin a w listed h hall⟩
  refine List.eq_nil_iff_forall_not_mem.2 fun i hi => ?_
  obtain ⟨h1, h2, _⟩ := ready_spec hi
  have := hall i h1
  have hil : i < listed.size := by rw [h.sz]; exact h1
  simp [Array.getD, hil] at this h2
  rw [this] at h2; cases h2
 | succ fuel ih =>
  intro listed a w h hu
  refine ⟨fun hr => hfin a w listed h (ready_nil h.sz hb hr), ?_⟩
  intro i hi
  obtain ⟨hi1, hi2, o, ho, hdeps⟩ := ready_spec hi
  have hil : i < listed.size := by rw [h.sz]; exact hi1
  have hif : listed.getD i false = false := by simpa [Array.getD, hil] using hi2
  have hqn : listed.getD q false = false := by
   cases hc : listed.getD q false with
   | false => rfl
   | true => have := h.lq hc i hi1; rw [hif] at this; cases this
  have hst := h.st
  rw [hqn] at hst
  simp only [Bool.false_eq_true, if_false] at hst
  have hD : Draws P w0 n I Γ L L' ops vs q i o := by
   have := Each.get (i := 0) (j := i) hops (by simpa using ho)
   simpa using this
  have hfr : Fr n (depsG ops vs o ++ Γ) a := by
   refine ⟨h.fr.size, h.fr.nod, ?_⟩
   intro t v ht
   rw [lk_append] at ht
   split at ht
   ·rename_i v' hv'
    obtain rfl := Option.some.inj ht
    have hm := lk_mem hv'
    unfold depsG at hm
    obtain ⟨e, he, hv⟩ := List.mem_filterMap.1 hm
    split at hv
    ·rename_i hbe
     split at hv
     ·rename_i d v2 hd2 hv2
      have hp := Option.some.inj hv
      injection hp with hp1 hp2
      subst hp1 hp2
      obtain ⟨o2, ho2, hd3⟩ := Option.bind_eq_some_iff.1 hd2
      exact h.outs e.on o2 d v2 (hdeps e he hbe) ho2 hd3 hv2
     cases hv
    cases hv
   exact h.fr.has t v ht
  have hrun := hD a w hfr hst () rfl
  -- the invariant behind the operation
  have hnext : ∀ a' w', DNrm w0 n I (fun (_ : Unit) (_ : Unit) => match o.dst, vs[i]? with | some d, some v => [(d, v)] | _, _ => []) (fun _ _ => if i = q then L' else L) () .normal a' w' →
    (∃ v, a' = a.put o.dst v) → DInv w0 n I Γ L L' ops vs q (listed.setIfInBounds i true) a' w' := by
   rintro a' w' ⟨_, _, hF', hS'⟩ ⟨v, rfl⟩
   have hvi : ∃ v, vs[i]? = some v := ⟨vs[i]'(by omega), by simp [show i < vs.length by omega]⟩
   obtain ⟨vi, hvi⟩ := hvi
   unfold apartD at hap
   simp only [Bool.and_eq_true] at hap
   obtain ⟨hnd, hnone⟩ := hap
   replace hnd := nodupB_spec hnd
   have hmem : ∀ (j : Nat) (o' : Oper) (d : Nat), ops[j]? = some o' → o'.dst = some d → d ∈ ops.toList.filterMap (·.dst) := fun j o' d hj hd => List.mem_filterMap.2 ⟨o', List.mem_of_getElem? (by simpa using hj), hd⟩
   have hne : ∀ (j : Nat) (o' : Oper) (d d' : Nat), ops[j]? = some o' → o'.dst = some d' → o.dst = some d → j ≠ i → d' ≠ d := by
    intro j o' d d' hj hd' hd hji he
    subst he
    have key : ∀ (xs : List Oper) (j i : Nat) (o' o : Oper) (d : Nat), (xs.filterMap (·.dst)).Nodup → xs[j]? = some o' → xs[i]? = some o → o'.dst = some d → o.dst = some d → j = i := by
     intro xs
     induction xs with
     | nil => intro j i o' o d _ h; simp at h
     | cons x xs ih =>
      intro j i o' o d hn h1 h2 h3 h4
      have hn' : (xs.filterMap (·.dst)).Nodup := by
       cases hx : x.dst with
       | none => simpa [hx] using hn
       | some y => simp only [List.filterMap_cons, hx, List.nodup_cons] at hn; exact hn.2
      cases j with
      | zero =>
       simp at h1; subst h1
       cases i with
       | zero => rfl
       | succ i =>
        exfalso
        simp only [List.filterMap_cons, h3, List.nodup_cons] at hn
        exact hn.1 (List.mem_filterMap.2 ⟨o, List.mem_of_getElem? (by simpa using h2), h4⟩)
      | succ j =>
       cases i with
       | zero =>
        exfalso
        simp at h2; subst h2
        simp only [List.filterMap_cons, h4, List.nodup_cons] at hn
        exact hn.1 (List.mem_filterMap.2 ⟨o', List.mem_of_getElem? (by simpa using h1), h3⟩)
       | succ i => rw [ih j i o' o d hn' (by simpa using h1) (by simpa using h2) h3 h4]
    exact hji (key ops.toList j i o' o d' hnd (by simpa using hj) (by simpa using ho) hd' hd)
   refine ⟨?_, ?_, ?_, by simpa using h.sz, ?_⟩
   ·cases hd : o.dst with
    | none => exact h.fr
    | some d =>
     refine ⟨by simp [Act.put, h.fr.size], h.fr.nod, ?_⟩
     intro t u hu
     have hdt : d ≠ t := by
      rintro rfl
      have := List.all_eq_true.1 hnone d (hmem i o d ho hd)
      rw [hu] at this; cases this
     have := h.fr.has t u hu
     simp [Act.put, hdt, this]
   ·intro j o' d' v' hj ho' hd' hv'
    by_cases hji : j = i
    ·subst hji
     rw [ho] at ho'; obtain rfl := Option.some.inj ho'
     refine hF'.has d' v' ?_
     simp [hd', hv', lk]
    rw [getD_set, if_neg (by rintro ⟨e, _⟩; exact hji e.symm)] at hj
    have := h.outs j o' d' v' hj ho' hd' hv'
    cases hd : o.dst with
    | none => exact this
    | some d =>
     have hdd := hne j o' d d' ho' hd' hd hji
     have hdd' : d ≠ d' := fun e => hdd e.symm
     simp [Act.put, hdd', this]
   ·by_cases hiq : i = q
    ·have e1 : (listed.setIfInBounds i true).getD q false = true := by rw [getD_set, if_pos ⟨hiq, hil⟩]
     rw [e1]
     simp only [hiq, if_true] at hS' ⊢
     exact hS'
    have e1 : (listed.setIfInBounds i true).getD q false = false := by rw [getD_set, if_neg (by rintro ⟨e, _⟩; exact hiq e), hqn]
    rw [e1]
    simp only [hiq, if_false] at hS'
    simpa using hS'
   intro hqq j hj
   rw [getD_set]
   by_cases hji : i = j
   ·rw [if_pos ⟨hji, hil⟩]
   rw [if_neg (by rintro ⟨e, _⟩; exact hji e)]
   rw [getD_set] at hqq
   by_cases hiq : i = q
   ·subst hiq
    unfold lastly at hq
    rw [ho] at hq
    have h1 := List.all_eq_true.1 hq j (List.mem_range.2 hj)
    simp only [Bool.or_eq_true, beq_iff_eq] at h1
    rcases h1 with h1 | h1
    ·exact absurd h1.symm hji
    obtain ⟨e, he, h2⟩ := List.any_eq_true.1 h1
    simp only [Bool.and_eq_true, beq_iff_eq] at h2
    rw [← h2.2]
    exact hdeps e he h2.1
   rw [if_neg (by rintro ⟨e, _⟩; exact hiq e), hqn] at hqq; cases hqq
  have hu' : unl (listed.setIfInBounds i true) = fuel := by have := unl_set hi2; omega
  unfold wpOp
  rw [ho]
  simp only
  simp only [wpList, seqs] at hrun
  split
  ·rename_i hw
   rw [if_pos hw] at hrun
   rcases hrun with hrun | ⟨_, a0, w1, g, he, _⟩
   ·refine .inl (Oper.wp_mono (fun a' w' h' => ?_) (Oper.wp_monoQ (fun e a' w' hen h' => ?_) (Oper.wp_put hrun)))
    ·obtain ⟨h1, h2⟩ := h'
     have hdef : a'.defers = a.defers := by obtain ⟨_, _, hF', _⟩ := h1; rw [hF'.nod, h.fr.nod]
     exact ih _ _ _ (hnext a' w' h1 (h2 hdef)) hu'
    obtain ⟨g, rfl, hF', hS'⟩ := h'
    exact absurd rfl hen
   cases he
  rename_i hw
  rw [if_neg hw] at hrun
  exact ih _ _ _ (hnext _ _ hrun ⟨_, rfl⟩) hu'
theorem TC.draw {id : Nat} (vs : List Value) (q : Nat) (L' : List Asn) (hm : P.follows .mixedOrders = true) (hlen : Nat.beq vs.length ops.size = true) (hb : backward ops = true) (hq : lastly ops q = true) (hap : apartD ops Γ = true)
  (hops : Each (Draws P w0 n I Γ L L' ops vs q) 0 ops.toList)
  (k : TC P w0 n I (outsG ops.toList vs ++ Γ) (if q < ops.size then L' else L) cs m D) : TC P w0 n I Γ L (.region id ops true :: cs) m D := by
 intro a w hF hS o ho
 have hlen' := Nat.eq_of_beq_eq_true hlen
 refine wp_region_any hm (draws_any (w0 := w0) (n := n) (I := I) (Γ := Γ) (L := L) hlen' hb hq hap hops ?_ ops.size (Array.replicate ops.size false) a _ ?_ ?_)
 ·intro a w listed h hall
  refine k a w ⟨h.fr.size, h.fr.nod, ?_⟩ ?_ o ho
  ·intro t v ht
   rw [lk_append] at ht
   split at ht
   ·rename_i v' hv'
    obtain rfl := Option.some.inj ht
    have hm := lk_mem hv'
    unfold outsG at hm
    obtain ⟨p, hp, hv⟩ := List.mem_filterMap.1 hm
    obtain ⟨d, hd, he⟩ := Option.map_eq_some_iff.1 hv
    injection he with he1 he2
    subst he1 he2
    obtain ⟨i, hi, hpi⟩ := List.mem_iff_getElem.1 hp
    have hio : i < ops.size := by simp at hi; omega
    have hiv : i < vs.length := by simp at hi; omega
    rw [List.getElem_zip] at hpi
    subst hpi
    refine h.outs i ops[i] d vs[i] (hall i hio) (by simp [hio]) (by simpa using hd) (by simp [hiv])
   exact h.fr.has t v ht
  have hst := h.st
  by_cases hqs : q < ops.size
  ·rw [hall q hqs] at hst
   simpa [hqs] using hst
  have : listed.getD q false = false := by simp [Array.getD, h.sz, hqs]
  rw [this] at hst
  simpa [hqs] using hst
 ·refine ⟨hF, ?_, ?_, by simp, ?_⟩
  ·intro i o d v h
   exfalso
   by_cases hi : i < ops.size <;> simp [Array.getD, hi] at h
  ·have : (Array.replicate ops.size false).getD q false = false := by by_cases hi : q < ops.size <;> simp [Array.getD, hi]
   rw [this]
   simpa using hS.drew
  intro h
  exfalso
  by_cases hi : q < ops.size <;> simp [Array.getD, hi] at h
 simp [unl, List.countP_replicate]
end
end Go.Sx
namespace Go.Sx
open Go.RowKit
theorem fold_list : ∀ (vs : List Value) (off k : Nat) (cells : Array Value), off + k + vs.length ≤ cells.size →
  ((vs.zipIdx k).foldl (fun cs (p : Value × Nat) => cs.setIfInBounds (off + p.2) p.1) cells).toList = cells.toList.take (off + k) ++ vs ++ cells.toList.drop (off + k + vs.length)
 | [], off, k, cells, h => by simp
 | v :: vs, off, k, cells, h => by
  simp only [List.length_cons] at h
  have hlt : off + k < cells.toList.length := by simp; omega
  rw [List.zipIdx_cons, List.foldl_cons, fold_list vs off (k + 1) _ (by simp; omega)]
  simp only [Array.toList_setIfInBounds, List.length_cons]
  rw [List.drop_set, if_pos (by omega), show off + (k + 1) = off + k + 1 by omega, List.take_add_one, List.getElem?_set_self hlt, List.take_set_of_le (Nat.le_refl _)]
  simp [Nat.add_assoc, Nat.add_comm 1]
theorem fill_step {place : Nat → Option (Nat × Nat)} {cells : Array Value} {i off size : Nat} {vs : List Value} {v : Value} {rest : List (Nat × Value)} {r : Array Value} (hp : place i = some (off, size)) (hv : v.cells = vs.toArray) (hn : vs.length = size) (hle : off + size ≤ cells.size)
  (hrest : Instr.fill place (cells.toList.take off ++ vs ++ cells.toList.drop (off + size)).toArray rest = some r) : Instr.fill place cells ((i, v) :: rest) = some r := by
 unfold Instr.fill
 rw [hp]
 simp only [hv, List.size_toArray, hn]
 have : ¬ (size ≠ size ∨ off + size > cells.size) := by omega
 rw [if_neg (by simpa using hle)]
 rw [← hrest]
 congr 1
 apply Array.ext'
 have h := fold_list vs off 0 cells (by omega)
 rw [← Array.foldl_toList, Array.toList_zipIdx]
 simpa [hn] using h
theorem fill_one {place : Nat → Option (Nat × Nat)} {segs : List Seg} {i off : Nat} {u v : Value} {rest : List (Nat × Value)} {r : Array Value} (j : Nat) (hp : place i = some (off, 1)) (hc : v.cells = #[v]) (hj : segs[j]? = some (.one u)) (ho : soff segs j = off)
  (hrest : Instr.fill place (flat (segs.set j (.one v))).toArray rest = some r) : Instr.fill place (flat segs).toArray ((i, v) :: rest) = some r := by
 subst ho
 have h2 := flat_get_one hj
 have hlt := (List.getElem?_eq_some_iff.1 h2).1
 refine fill_step (vs := [v]) hp hc rfl (by simp; omega) ?_
 rw [← hrest, ← flat_set_one hj v]
 congr 2
 show (flat segs).take (soff segs j) ++ [v] ++ (flat segs).drop (soff segs j + 1) = _
 rw [List.set_eq_take_append_cons_drop, if_pos hlt]
 simp
def SzOk (P : Program) : List Field → List Nat → Prop
  | [], [] => True
  | f :: fs, s :: ss => (∀ w, (sizeOf f.type).run P w = .ok s w) ∧ SzOk P fs ss
  | _, _ => False
theorem run_places {P : Program} {w : World} : ∀ {fs : List Field} {ss : List Nat}, SzOk P fs ss → (fs.mapM fun f => do pure (f.offset, ← sizeOf f.type) : Sem (List (Nat × Nat))).run P w = .ok (List.zipWith (fun f s => (f.offset, s)) fs ss) w
 | [], [], _ => rfl
 | [], _ :: _, h => h.elim
 | _ :: _, [], h => h.elim
 | f :: fs, s :: ss, h => by
  rw [List.mapM_cons]
  simp only [Sem.run_bind, Result.andThen_ok, h.1 w, Sem.run_pure, run_places h.2, List.zipWith_cons_cons]
section
variable {P : Program} {w0 : World} {n : Nat} {I : Hp} {Γ : Gm} {L : List Asn} {cs : List Code} {α : Type} {m : Option α} {D : α → Post} {ops : Array Oper} {os : List Oper}
variable {d : Nat} {ty : TypeId} {pos : String} {af : Array Edge} {g : Option (Nat × Bool)}
theorem evp_eq {a : Act} (hF : Fr n Γ a) : ∀ (ps : List (Nat × Operand)) (us : List (Nat × Value)), ps.map (fun p => (p.1, ev Γ p.2)) = us.map (fun p => (p.1, some p.2)) → ps.map (fun p => (p.1, a.eval p.2)) = us
 | [], [], _ => rfl
 | [], _ :: _, h => by simp at h
 | _ :: _, [], h => by simp at h
 | p :: ps, u :: us, h => by
  simp only [List.map_cons, List.cons.injEq, Prod.mk.injEq] at h ⊢
  obtain ⟨⟨h1, h2⟩, h3⟩ := h
  exact ⟨Prod.ext h1 (hF.eval h2), evp_eq hF ps us h3⟩
theorem TL.buildS {T : TypeId} {parts : Array (Nat × Operand)} {zv : Value} {fs : Array Field} {segs segs0 : List Seg} (szs : List Nat) (hT : P.underlying T = some (.struct fs)) (hsz : SzOk P fs.toList szs) (hzv : ∀ w, (zeroValue T).run P w = .ok zv w) (hz : zv.cells = (flat segs0).toArray)
  (vs : List (Nat × Value)) (hvs : parts.toList.map (fun p => (p.1, ev Γ p.2)) = vs.map (fun p => (p.1, some p.2)))
  (hfill : ∀ pl : Array (Nat × Nat), pl = (List.zipWith (fun f s => (f.offset, s)) fs.toList szs).toArray → Instr.fill (fun i => pl[i]?) (flat segs0).toArray vs = some (flat segs).toArray)
  (hg : gd ops Γ ⟨some d, .build T parts, ty, pos, af, g⟩ = some true) (hn : Nat.blt d n = true)
  (k : TL P w0 n I ((d, sval segs) :: Γ) L ops os cs m D) : TL P w0 n I Γ L ops (⟨some d, .build T parts, ty, pos, af, g⟩ :: os) cs m D := by
 refine .val hg rfl (by simpa using hn) (fun a w hF _ => run_v ?_) k
 have hp : (parts.map fun (p : Nat × Operand) => (p.1, a.eval p.2)).toList = vs := by rw [Array.toList_map]; exact evp_eq hF _ _ hvs
 have hm : (fs.mapM fun f => do pure (f.offset, ← sizeOf f.type) : Sem (Array (Nat × Nat))).run P w = .ok (List.zipWith (fun f s => (f.offset, s)) fs.toList szs).toArray w := by
  rw [Array.mapM_eq_mapM_toList, map_eq_pure_bind, Sem.run_bind, run_places hsz]; rfl
 have hf := hfill _ rfl
 simp only [Instr.build, Sem.run_bind, hzv w, Result.andThen_ok, run_underlying hT, hm, hz]
 rw [hp]
 simp only [hf]
 rfl
theorem TL.buildA {T e : TypeId} {len sz : Nat} {parts : Array (Nat × Operand)} {zv : Value} {segs segs0 : List Seg} (hT : P.underlying T = some (.array len e)) (hsz : ∀ w, (sizeOf e).run P w = .ok sz w) (hzv : ∀ w, (zeroValue T).run P w = .ok zv w) (hz : zv.cells = (flat segs0).toArray)
  (vs : List (Nat × Value)) (hvs : parts.toList.map (fun p => (p.1, ev Γ p.2)) = vs.map (fun p => (p.1, some p.2)))
  (hfill : Instr.fill (fun i => some (i * sz, sz)) (flat segs0).toArray vs = some (flat segs).toArray)
  (hg : gd ops Γ ⟨some d, .build T parts, ty, pos, af, g⟩ = some true) (hn : Nat.blt d n = true)
  (k : TL P w0 n I ((d, sval segs) :: Γ) L ops os cs m D) : TL P w0 n I Γ L ops (⟨some d, .build T parts, ty, pos, af, g⟩ :: os) cs m D := by
 refine .val hg rfl (by simpa using hn) (fun a w hF _ => run_v ?_) k
 have hp : (parts.map fun (p : Nat × Operand) => (p.1, a.eval p.2)).toList = vs := by rw [Array.toList_map]; exact evp_eq hF _ _ hvs
 simp only [Instr.build, Sem.run_bind, hzv w, Result.andThen_ok, run_underlying hT, hsz w, hz]
 rw [hp]
 simp only [hfill]
 rfl
theorem TL.makeFunc {f : FuncId} {fst cap : Array Operand} {us vs : List Value} (hg : gd ops Γ ⟨some d, .makeFunc (.func f) fst cap, ty, pos, af, g⟩ = some true) (hn : Nat.blt d n = true) (hf : evs Γ fst.toList = some us) (hx : evs Γ cap.toList = some vs)
  (k : TL P w0 n I ((d, .func (.func f) us.toArray vs.toArray) :: Γ) L ops os cs m D) : TL P w0 n I Γ L ops (⟨some d, .makeFunc (.func f) fst cap, ty, pos, af, g⟩ :: os) cs m D := by
 refine .val hg rfl (by simpa using hn) (fun a w hF _ => run_v ?_) k
 have h1 : cap.map a.eval = vs.toArray := by
  apply Array.ext'
  simp [hF.evals hx]
 have h0 : fst.map a.eval = us.toArray := by
  apply Array.ext'
  simp [hF.evals hf]
 rw [h1, h0]
 rfl
theorem run_callv {f : FuncId} {fst cap : List Value} {t : Nat} {args : Array Operand} {ts : Array TypeId} {vs : List Value} {dst : Option Nat} (hc : ∀ (args : Array Value) (w : World), (callFunc f args).run P w = .ok (.enter f args) w) {a : Act} (hF : Fr n Γ a) (hf : lk Γ t = some (.func (.func f) fst.toArray cap.toArray)) (hx : evs Γ args.toList = some vs) (w : World) :
  (execOp a.eval ⟨dst, .call { callee := .value (.tmp t), args := args, argTypes := ts }, ty, pos, af, g⟩).run P w = .ok (.enter f (fst ++ vs ++ cap).toArray) w := by
 have h1 : args.map a.eval = vs.toArray := by
  apply Array.ext'
  simp [hF.evals hx]
 have h2 : a.eval (.tmp t) = .func (.func f) fst.toArray cap.toArray := hF.eval (x := .tmp t) hf
 unfold execOp
 simp only [resolve, h1, h2, Deferred.ofValue, Sem.run_bind, Sem.run_pure, Result.andThen_ok, invoke]
 simpa using hc (fst ++ vs ++ cap).toArray w
end
end Go.Sx
namespace Go.Sx
open Go.RowKit
def Parts {β : Type} (E : FE β) : Nat → List β → List (Nat × Value) → Prop
  | _, [], [] => True
  | k, y :: ys, p :: ps => p.1 = k ∧ p.2.cells = (E.enc y).toArray ∧ Parts E (k + 1) ys ps
  | _, _, _ => False
theorem fill_parts {β : Type} {E : FE β} : ∀ {ys : List β} {vs : List (Nat × Value)} {k : Nat} {cells : Array Value}, Parts E k ys vs → cells.size = k * E.sz + ys.length * E.sz →
  Instr.fill (fun i => some (i * E.sz, E.sz)) cells vs = some (cells.toList.take (k * E.sz) ++ encs E ys).toArray
 | [], [], k, cells, _, hs => by
  simp only [Instr.fill, Option.some.injEq]
  apply Array.ext'
  simp only [encs, List.flatMap_nil, List.append_nil]
  rw [List.take_of_length_le]
  simp at hs ⊢; omega
 | [], _ :: _, _, _, h, _ => h.elim
 | _ :: _, [], _, _, h, _ => h.elim
 | y :: ys, (i, v) :: ps, k, cells, h, hs => by
  obtain ⟨rfl, hv, hr⟩ := h
  simp only at hv
  simp only [List.length_cons, Nat.add_mul, Nat.one_mul] at hs
  refine fill_step rfl hv (E.len y) (by omega) ?_
  have hsz : ((cells.toList.take (i * E.sz) ++ E.enc y ++ cells.toList.drop (i * E.sz + E.sz)).toArray).size = (i + 1) * E.sz + ys.length * E.sz := by
   simp only [List.size_toArray, List.length_append, List.length_take, List.length_drop, Array.length_toList, E.len, Nat.add_mul, Nat.one_mul]
   omega
  rw [fill_parts hr hsz]
  congr 2
  have h1 : (cells.toList.take (i * E.sz) ++ E.enc y).length = (i + 1) * E.sz := by
   simp only [List.length_append, List.length_take, Array.length_toList, E.len, Nat.add_mul, Nat.one_mul]; omega
  rw [List.take_left' h1]
  simp [encs]
section
variable {P : Program} {w0 : World} {n : Nat} {I : Hp} {Γ : Gm} {L : List Asn} {cs : List Code} {α : Type} {m : Option α} {D : α → Post} {ops : Array Oper} {os : List Oper}
variable {d : Nat} {ty : TypeId} {pos : String} {af : Array Edge} {g : Option (Nat × Bool)}
theorem TL.blit {T e : TypeId} {len : Nat} {parts : Array (Nat × Operand)} {β : Type} (E : FE β) (ys : List β) (hT : P.underlying T = some (.slice e)) (hz : ∀ w, (sizeOf e).run P w = .ok E.sz w) {zv : Value} (hzv : ∀ w, (zeroValue e).run P w = .ok zv w)
  (hl : ys.length = len) (hsm : Nat.ble (len * E.sz) 1000 = true) (hpos : Nat.beq (len * E.sz) 0 = false)
  (vs : List (Nat × Value)) (hvs : parts.toList.map (fun p => (p.1, ev Γ p.2)) = vs.map (fun p => (p.1, some p.2))) (hp : Parts E 0 ys vs)
  (hg : gd ops Γ ⟨some d, .buildSlice T len parts, ty, pos, af, g⟩ = some true) (hn : Nat.blt d n = true)
  (k : ∀ s, TL P w0 n I ((d, SV.v s) :: Γ) (row E e s ys :: L) ops os cs m D) : TL P w0 n I Γ L ops (⟨some d, .buildSlice T len parts, ty, pos, af, g⟩ :: os) cs m D := by
 refine TL.bslice E ys (encs E ys).toArray hT hz hzv hl hsm hpos vs hvs ?_ (by simp) hg hn k
 rw [fill_parts hp (by simp [hl])]
 simp
theorem TL.max2 {x y : Operand} {T1 T2 : TypeId} {a b : Int} {kd : IntKind}
  (hg : gd ops Γ ⟨some d, .call { callee := .builtin .max, args := #[x, y], argTypes := #[T1, T2] }, ty, pos, af, g⟩ = some true) (hn : Nat.blt d n = true) (hx : ev Γ x = some (.int kd a)) (hy : ev Γ y = some (.int kd b))
  (k : TL P w0 n I ((d, .int kd (if b > a then b else a)) :: Γ) L ops os cs m D) : TL P w0 n I Γ L ops (⟨some d, .call { callee := .builtin .max, args := #[x, y], argTypes := #[T1, T2] }, ty, pos, af, g⟩ :: os) cs m D := by
 refine .val hg rfl (by simpa using hn) (fun a' w hF hS => ?_) k
 unfold execOp
 simp only [resolve, invoke, builtin, Sem.run_bind, Sem.run_pure, Result.andThen_ok, List.map_toArray, List.map_cons, List.map_nil, hF.eval hx, hF.eval hy]
 simp [Builtin.max_, Builtin.max2]
theorem TL.min2 {x y : Operand} {T1 T2 : TypeId} {a b : Int} {kd : IntKind}
  (hg : gd ops Γ ⟨some d, .call { callee := .builtin .min, args := #[x, y], argTypes := #[T1, T2] }, ty, pos, af, g⟩ = some true) (hn : Nat.blt d n = true) (hx : ev Γ x = some (.int kd a)) (hy : ev Γ y = some (.int kd b))
  (k : TL P w0 n I ((d, .int kd (if b < a then b else a)) :: Γ) L ops os cs m D) : TL P w0 n I Γ L ops (⟨some d, .call { callee := .builtin .min, args := #[x, y], argTypes := #[T1, T2] }, ty, pos, af, g⟩ :: os) cs m D := by
 refine .val hg rfl (by simpa using hn) (fun a' w hF hS => ?_) k
 unfold execOp
 simp only [resolve, invoke, builtin, Sem.run_bind, Sem.run_pure, Result.andThen_ok, List.map_toArray, List.map_cons, List.map_nil, hF.eval hx, hF.eval hy]
 simp [Builtin.min_, Builtin.min2]
theorem TL.isNil {T T2 e : TypeId} {x y : Operand} (s : SV) (hT : P.underlying T = some (.slice e)) (hg : gd ops Γ ⟨some d, .binOp .eql T x y T2, ty, pos, af, g⟩ = some true) (hn : Nat.blt d n = true)
  (hx : ev Γ x = some s.v) (hy : ev Γ y = some (.slice none 0 0))
  (kk : TL P w0 n I ((d, .bool s.a.isNone) :: Γ) L ops os cs m D) : TL P w0 n I Γ L ops (⟨some d, .binOp .eql T x y T2, ty, pos, af, g⟩ :: os) cs m D := by
 refine .val hg rfl (by simpa using hn) (fun a' w hF _ => run_v ?_) kk
 rw [hF.eval hx, hF.eval hy]
 simp [eqGuard, binOp, SV.v, run_equal_slice_nil w T e s.a s.n s.c hT]
theorem TC.as {m' : Option α} (h : m = m') (k : TC P w0 n I Γ L cs m' D) : TC P w0 n I Γ L cs m D := h ▸ k
theorem strv_append (a b : Str) : (ByteArray.mk a.toArray) ++ (ByteArray.mk b.toArray) = ByteArray.mk (a ++ b).toArray := by
 apply ByteArray.ext
 rw [ByteArray.data_append]
 simp
theorem run_b2s {w : World} {s : SV} {ys : List UInt8} (hr : Reads Eu (hp w) s ys) : (Conv.bytesToString s.v).run P w = .ok (strv ys) w := by
 obtain ⟨h0, _, _, h3⟩ := hr
 rcases h3 with rfl | ⟨b, o, cs, T, fr, ha, hb, hc⟩
 ·have hn : s.n = 0 := by simpa using h0
  cases hsa : s.a with
  | none => simp [Conv.bytesToString, SV.v, hsa, strv]; rfl
  | some a => simp [Conv.bytesToString, SV.v, hsa, hn, loadCells, loadCellsFrom, strv]; rfl
 have hcells : ∀ j v, (encs Eu ys)[j]? = some v → w.cell? ((⟨b, o, none⟩ : Addr).add j) = some v := by
  intro j v hj
  rw [add_none, cell_at hb]
  exact hc j v hj
 have h1 := run_loadCells_list (P := P) w ⟨b, o, none⟩ (encs Eu ys) hcells
 rw [encs_length, show ys.length * Eu.sz = ys.length by simp [Eu]] at h1
 have e : (encs Eu ys).toArray = ((ys.map fun y => (y.toNat : Int)).map (Value.int .u8)).toArray := by
  congr 1
  rw [List.map_map]
  clear h0 h1 hcells hc
  induction ys with
  | nil => rfl
  | cons y ys ih => simp only [encs, List.flatMap_cons, List.map_cons] at ih ⊢; rw [ih]; rfl
 rw [e] at h1
 rw [SV.v, ha, h0, run_bytesToString w _ _ _ _ h1, foldl_push_bytes]
 simp only [strv, ByteArray.empty, ByteArray.emptyWithCapacity, List.map_map]
 have e2 : List.map ((fun n : Int => UInt8.ofNat n.toNat) ∘ fun y : UInt8 => (y.toNat : Int)) ys = ys := by
  refine (List.map_congr_left fun y _ => ?_).trans (List.map_id ys)
  show UInt8.ofNat ((y.toNat : Int)).toNat = y
  simp
 rw [e2]
 congr 3
 apply Array.ext'
 simp
 rfl
theorem TL.b2s {S T e : TypeId} {x : Operand} {s : SV} {ys : List UInt8} (hr : Rd w0 I L Eu s ys) (hS : P.underlying S = some (.slice e)) (he : P.underlying e = some (.int .u8)) (hT : P.underlying T = some .string) (hg : gd ops Γ ⟨some d, .convert S T x, ty, pos, af, g⟩ = some true) (hn : Nat.blt d n = true) (hx : ev Γ x = some s.v)
  (kk : TL P w0 n I ((d, strv ys) :: Γ) L ops os cs m D) : TL P w0 n I Γ L ops (⟨some d, .convert S T x, ty, pos, af, g⟩ :: os) cs m D := by
 refine .val hg rfl (by simpa using hn) (fun a w hF hW => run_v ?_) kk
 rw [hF.eval hx]
 exact (run_convert_bytes_string w S T e s.a s.n s.c hS he hT).trans (run_b2s (hr w hW))
end
end Go.Sx
namespace Go.Sx
open Go.RowKit
theorem Sat.parts {LA LB : List Asn} : ∀ {ρ}, Sat (LA ++ LB) ρ → ∃ ρA ρB, ρ = ρA ++ ρB ∧ Sat LA ρA ∧ Sat LB ρB := by
 induction LA with
 | nil => intro ρ h; exact ⟨[], ρ, rfl, rfl, h⟩
 | cons A LA ih =>
  rintro ρ ⟨ρ1, ρ2, rfl, h1, h2⟩
  obtain ⟨ρA, ρB, rfl, hA, hB⟩ := ih h2
  exact ⟨ρ1 ++ ρA, ρB, by simp, ⟨ρ1, ρA, rfl, h1, hA⟩, hB⟩
def Held (LB : List Asn) (J : Hp) : Prop := ∃ ρB, Sat LB ρB ∧ ∀ p ∈ ρB, J p.1 = some p.2
theorem Held.piece {LB : List Asn} {J : Hp} (h : Held LB J) {k : Nat} {A : Asn} (hk : LB[k]? = some A) : ∃ ρA, A ρA ∧ ∀ p ∈ ρA, J p.1 = some p.2 := by
 obtain ⟨ρB, hs, hh⟩ := h
 obtain ⟨ρ1, ρA, ρ2, rfl, hA, _, _⟩ := hs.focus hk
 exact ⟨ρA, hA, fun p hp' => hh p (by simp [hp'])⟩
theorem Held.reads {β : Type} {E : FE β} {LB : List Asn} {J : Hp} {T : TypeId} {s : SV} {ys : List β} (h : Held LB J) (k : Nat) (hk : LB[k]? = some (row E T s ys)) : Reads E J s ys := by
 obtain ⟨ρA, hA, hh⟩ := h.piece hk
 exact row_reads hA hh
theorem Held.at {LB : List Asn} {J : Hp} {T : TypeId} {b : Nat} {segs : List Seg} (h : Held LB J) (k : Nat) (hk : LB[k]? = some (box b T segs)) : At J b segs := by
 obtain ⟨ρA, hA, hh⟩ := h.piece hk
 simp only [box] at hA
 subst hA
 exact ⟨T, (0, 0), hh _ (List.mem_singleton.2 rfl)⟩
theorem St.split {w0 : World} {I : Hp} {LA LB : List Asn} {w : World} (h : St w0 I (LA ++ LB) w) :
  ∃ I', Hle I I' ∧ Held LB I' ∧ St w0 I' LA w ∧ ∀ L' w', St w0 I' L' w' → St w0 I (L' ++ LB) w' := by
 obtain ⟨ρ, hs, ho⟩ := h.own
 obtain ⟨ρA, ρB, rfl, hA, hB⟩ := hs.parts
 have hnd := ho.nodup
 rw [List.map_append, List.nodup_append] at hnd
 obtain ⟨n1, n2, n3⟩ := hnd
 have hB1 : ∀ p ∈ ρB, I p.1 = none ∧ w.heap[p.1]? = some p.2 := fun p hp' => ho.here p (List.mem_append.2 (.inr hp'))
 have hA1 : ∀ p ∈ ρA, I p.1 = none ∧ w.heap[p.1]? = some p.2 := fun p hp' => ho.here p (List.mem_append.2 (.inl hp'))
 let I' : Hp := fun b => if b ∈ ρB.map (·.1) then w.heap[b]? else I b
 have hle : Hle I I' := by
  intro b o hb
  show (if b ∈ ρB.map (·.1) then w.heap[b]? else I b) = some o
  rw [if_neg]
  ·exact hb
  intro hm
  obtain ⟨p, hp1, rfl⟩ := List.mem_map.1 hm
  rw [(hB1 p hp1).1] at hb; cases hb
 have hI'B : ∀ p ∈ ρB, I' p.1 = some p.2 := by
  intro p hp'
  show (if p.1 ∈ ρB.map (·.1) then w.heap[p.1]? else I p.1) = some p.2
  rw [if_pos (List.mem_map_of_mem hp')]
  exact (hB1 p hp').2
 refine ⟨I', hle, ⟨ρB, hB, hI'B⟩, ⟨h.below, h.i0.trans hle, ?_, ρA, hA, n1, ?_⟩, ?_⟩
 ·intro b o hb
  have hb' : (if b ∈ ρB.map (·.1) then w.heap[b]? else I b) = some o := hb
  split at hb'
  ·exact hb'
  exact h.iw b o hb'
 ·intro p hp'
  refine ⟨?_, (hA1 p hp').2⟩
  show (if p.1 ∈ ρB.map (·.1) then w.heap[p.1]? else I p.1) = none
  rw [if_neg (fun hm => n3 p.1 (List.mem_map_of_mem hp') p.1 hm rfl)]
  exact (hA1 p hp').1
 intro L' w' h'
 obtain ⟨ρ', hs', ho'⟩ := h'.own
 refine ⟨h'.below, h.i0, hle.trans h'.iw, ρ' ++ ρB, hs'.append hB, ?_, ?_⟩
 ·rw [List.map_append, List.nodup_append]
  refine ⟨ho'.nodup, n2, ?_⟩
  rintro a ha b hb rfl
  obtain ⟨p, hp1, rfl⟩ := List.mem_map.1 ha
  obtain ⟨q, hq1, hq2⟩ := List.mem_map.1 hb
  have h1 := (ho'.here p hp1).1
  have h2 := hI'B q hq1
  rw [hq2, h1] at h2; cases h2
 intro p hp'
 rcases List.mem_append.1 hp' with hm | hm
 ·refine ⟨?_, (ho'.here p hm).2⟩
  cases hc : I p.1 with
  | none => rfl
  | some o => have := hle _ _ hc; rw [(ho'.here p hm).1] at this; cases this
 exact ⟨(hB1 p hm).1, h'.iw _ _ (hI'B p hm)⟩
section
variable {P : Program} {w0 : World} {n : Nat} {I : Hp} {Γ : Gm} {L : List Asn} {cs : List Code} {α : Type} {m : Option α} {D : α → Post} {ops : Array Oper} {os : List Oper}
variable {d : Nat} {ty : TypeId} {pos : String} {af : Array Edge} {g : Option (Nat × Bool)}
theorem TL.callX {β : Type} {f : FuncId} {args : Array Operand} {ts : Array TypeId} {vs : List Value} {mf : Option β} {kont : β → Option α} {R : β → Value → List Asn → Prop} (perm : List Nat) (LA LB : List Asn) (hp : ext perm L = some (LA ++ LB))
  (hcall : ∀ (args : Array Value) (w : World), (callFunc f args).run P w = .ok (.enter f args) w)
  (hg : gd ops Γ ⟨some d, .call { callee := .value (.func f), args := args, argTypes := ts }, ty, pos, af, g⟩ = some true) (hn : Nat.blt d n = true) (hx : evs Γ args.toList = some vs)
  (hc : ∀ w I', Hle I I' → Held LB I' → St w0 I' LA w → ∀ r, mf = some r → Calls P f vs.toArray w (RetM w0 I' (R r)))
  (k : ∀ r v L', R r v L' → TL P w0 n I ((d, v) :: Γ) (L' ++ LB) ops os cs (kont r) D) :
  TL P w0 n I Γ L ops (⟨some d, .call { callee := .value (.func f), args := args, argTypes := ts }, ty, pos, af, g⟩ :: os) cs (mf.bind kont) D := by
 intro a w hF hS r hr
 obtain ⟨r1, hr1, hr2⟩ := Option.bind_eq_some_iff.1 hr
 refine TL.core (m := some r) (D := D) hg (fun a w hF hS r' hr' => ?_) a w hF hS r rfl
 obtain rfl := Option.some.inj hr'
 unfold Oper.wp
 rw [run_call hcall hF hx, Oper.upon_enter]
 obtain ⟨I', h1, h2, h3, h4⟩ := (hS.ext perm hp).split
 refine (hc w I' h1 h2 h3 r1 hr1).mono ?_
 rintro e w' ⟨v, L', rfl, hR, hS'⟩
 exact k r1 v L' hR _ _ (hF.put (by simpa using hn)) (h4 L' w' hS') _ hr2
end
end Go.Sx
namespace Go.Sx
open Go.RowKit
abbrev GF := Nat → List SV
def gset (g : GF) (i : Nat) (l : List (List SV)) : GF := fun k => bif Nat.beq (k / 8) i then l.getD (k % 8) [] else g k
def gs (l : List SV) : SV := l.headD ⟨none, 0, 0⟩
def nb (l : List Bool) (i : Nat) : Bool := l.getD i false
def emp : Asn := fun ρ => ρ = []
theorem St.addEmp {w0 I L w} (h : St w0 I L w) : St w0 I (Sx.emp :: L) w := by
 obtain ⟨ρ, hs, ho⟩ := h.own
 exact ⟨h.below, h.i0, h.iw, ρ, ⟨[], ρ, rfl, rfl, hs⟩, ho⟩
theorem St.emps {w0 I L w} (h : St w0 I L w) : ∀ k, St w0 I (List.replicate k Sx.emp ++ L) w
 | 0 => h
 | k + 1 => (St.emps h k).addEmp
def AllB : List (Option Bool) → (List Bool → Prop) → Prop
  | [], F => F []
  | some b :: r, F => AllB r fun l => F (b :: l)
  | none :: r, F => ∀ b, AllB r fun l => F (b :: l)
theorem AllB.use : ∀ {con : List (Option Bool)} {F : List Bool → Prop} {l : List Bool}, AllB con F → l.length = con.length → (∀ (k : Nat) (b : Bool), con[k]? = some (some b) → l[k]? = some b) → F l := by
 intro con
 induction con with
 | nil =>
  intro F l h hl _
  have : l = [] := by simpa using hl
  subst this; exact h
 | cons c con ih =>
  intro F l h hl hc
  cases l with
  | nil => simp at hl
  | cons x l =>
   have hrest : ∀ (k : Nat) (b : Bool), con[k]? = some (some b) → l[k]? = some b := fun k b hk => by simpa using hc (k + 1) b (by simpa using hk)
   cases c with
   | none => exact ih (F := fun l => F (x :: l)) (h x) (by simpa using hl) hrest
   | some b =>
    have h0 := hc 0 b rfl
    simp at h0; subst h0
    exact ih (F := fun l => F (x :: l)) h (by simpa using hl) hrest
def EachI (F : Nat → Prop) : Nat → Prop
  | 0 => True
  | k + 1 => EachI F k ∧ F k
theorem EachI.get {F : Nat → Prop} : ∀ {k i : Nat}, EachI F k → i < k → F i
 | k + 1, i, h, hi => by
  by_cases he : i = k
  ·subst he; exact h.2
  exact EachI.get h.1 (by omega)
def clOk (ops : Array Oper) (cl : List (List Nat)) : Bool :=
  (ops.toList.zip cl).all fun p => p.2.all fun j => p.1.after.toList.any fun e => Region.binds .any e && (Nat.beq e.on j || (cl.getD e.on []).any (Nat.beq j))
def conOk (cl : List (List Nat)) (i : Nat) (con : List (Option Bool)) : Bool :=
  con.zipIdx.all fun p => match p.1 with
    | none => true
    | some true => (cl.getD i []).any (Nat.beq p.2)
    | some false => Nat.beq p.2 i || (cl.getD p.2 []).any (Nat.beq i)
def hide (cl : List (List Nat)) (i : Nat) (vs : List Value) : List Value := vs.zipIdx.map fun p => bif Nat.beq p.2 i || (cl.getD p.2 []).any (Nat.beq i) then undef else p.1
abbrev Olds := List (Nat × Value × Nat)
def oldG (cl : List (List Nat)) (i : Nat) (G1 : Olds) : Gm := G1.filterMap fun p => bif Nat.beq i p.2.2 || (cl.getD p.2.2 []).any (Nat.beq i) then some (p.1, p.2.1) else none
def oldOk (ops : Array Oper) (G1 : Olds) : Bool := G1.all fun p => match (ops[p.2.2]?).bind (·.dst) with
  | some d => Nat.beq d p.1
  | none => false
def olds (G1 : Olds) : Gm := G1.map fun p => (p.1, p.2.1)
theorem Sub.mem {Γ : Gm} : ∀ {l : Gm}, Sub Γ l → ∀ {t v}, (t, v) ∈ l → lk Γ t = some v
 | [], _, _, _, h => by cases h
 | (k, u) :: r, hs, t, v, h => by
  rcases List.mem_cons.1 h with h | h
  ·injection h with h1 h2
   subst h1 h2; exact hs.1
  exact Sub.mem hs.2 h
section
variable {P : Program} {w0 : World} {n : Nat} {I : Hp} {Γ : Gm} {cs : List Code} {α : Type} {m : Option α} {D : α → Post} {ops : Array Oper}
def DrawsG (P : Program) (w0 : World) (n : Nat) (I : Hp) (Γ : Gm) (G1 : Olds) (cl : List (List Nat)) (cont : List Bool → GF → List Asn) (ops : Array Oper) (vs : GF → List Value) (i : Nat) (o : Oper) (l : List Bool) : Prop :=
  ∀ g, TL P w0 n I (depsG ops (vs g) o ++ (oldG cl i G1 ++ Γ)) (cont l g) ops [o] [] (some ()) (DNrm w0 n I (fun (_ : Unit) (x : List (List SV)) => match o.dst, (vs (gset g i x))[i]? with | some d, some v => [(d, v)] | _, _ => []) (fun _ x => cont (l.set i true) (gset g i x)))
def EachG (cl : List (List Nat)) (N : Nat) (F : Nat → Oper → List Bool → Prop) : Nat → List Oper → List (List (Option Bool)) → Prop
  | _, [], _ => True
  | i, o :: os, c :: cs => (Nat.beq c.length N && conOk cl i c) = true ∧ AllB c (F i o) ∧ EachG cl N F (i + 1) os cs
  | _, _ :: _, [] => False
theorem EachG.get {cl : List (List Nat)} {N : Nat} {F : Nat → Oper → List Bool → Prop} : ∀ {os : List Oper} {cons : List (List (Option Bool))} {i j : Nat} {o : Oper}, EachG cl N F i os cons → os[j]? = some o →
  ∃ c : List (Option Bool), c.length = N ∧ conOk cl (i + j) c = true ∧ AllB c (F (i + j) o)
 | [], _, _, _, _, _, h => by simp at h
 | o :: os, [], _, _, _, h, _ => h.elim
 | o :: os, c :: cs, i, 0, _, h, e => by
  simp at e; subst e
  have := h.1
  simp only [Bool.and_eq_true] at this
  exact ⟨c, Nat.eq_of_beq_eq_true this.1, this.2, h.2.1⟩
 | _ :: os, _ :: cs, i, j + 1, o, h, e => by
  have := EachG.get (i := i + 1) (j := j) h.2.2 (by simpa using e)
  rwa [Nat.add_assoc, Nat.add_comm 1 j] at this
structure GInv (w0 : World) (n : Nat) (I : Hp) (Γ : Gm) (G1 : Olds) (cont : List Bool → GF → List Asn) (ops : Array Oper) (vs : GF → List Value) (cl : List (List Nat)) (listed : Array Bool) (g : GF) (a : Act) (w : World) : Prop where
  fr : Fr n Γ a
  outs : ∀ i o d v, listed.getD i false = true → ops[i]? = some o → o.dst = some d → (vs g)[i]? = some v → a.tmps[d]? = some v
  old : ∀ p ∈ G1, listed.getD p.2.2 false = false → a.tmps[p.1]? = some p.2.1
  st : St w0 I (cont listed.toList g) w
  sz : listed.size = ops.size
  cls : ∀ i, listed.getD i false = true → ∀ j ∈ cl.getD i [], listed.getD j false = true
theorem hide_get {cl : List (List Nat)} {i j : Nat} {vs us : List Value} (h : hide cl i vs = hide cl i us) (hji : j ≠ i) (hc : i ∉ cl.getD j []) : vs[j]? = us[j]? := by
 have h1 := congrArg (fun l : List Value => l[j]?) h
 have hf : (Nat.beq j i || (cl.getD j []).any (Nat.beq i)) = false := by
  rw [Bool.or_eq_false_iff]
  refine ⟨?_, ?_⟩
  ·cases hb : Nat.beq j i with
   | false => rfl
   | true => exact absurd (Nat.eq_of_beq_eq_true hb) hji
  rw [List.any_eq_false]
  intro x hx hb
  have := Nat.eq_of_beq_eq_true hb
  subst this
  exact hc hx
 simp only [hide, List.getElem?_map, List.getElem?_zipIdx, Nat.zero_add] at h1
 cases hv : vs[j]? with
 | none => cases hu : us[j]? with
  | none => rfl
  | some u => rw [hv, hu] at h1; simp at h1
 | some v => cases hu : us[j]? with
  | none => rw [hv, hu] at h1; simp at h1
  | some u =>
   rw [hv, hu] at h1
   simp only [Option.map_some, hf, cond_false, Option.some.injEq] at h1
   rw [h1]
theorem draws_G {Q : Post} {G1 : Olds} {cont : List Bool → GF → List Asn} {vs : GF → List Value} (cl : List (List Nat)) (cons : List (List (Option Bool))) (_hlen : ∀ g, (vs g).length = ops.size) (hll : cl.length = ops.size) (hb : backward ops = true) (hcl : clOk ops cl = true) (hap : apartD ops Γ = true) (hold : oldOk ops G1 = true)
  (hstab : ∀ g x, EachI (fun i => hide cl i (vs (gset g i x)) = hide cl i (vs g)) ops.size)
  (hops : EachG cl ops.size (DrawsG P w0 n I Γ G1 cl cont ops vs) 0 ops.toList cons)
  (hfin : ∀ a w, (∀ listed g, GInv w0 n I Γ G1 cont ops vs cl listed g a w → (∀ j, j < ops.size → listed.getD j false = true) → Q .normal a w)) :
  ∀ (fuel : Nat) (listed : Array Bool) (g : GF) (a : Act) (w : World), GInv w0 n I Γ G1 cont ops vs cl listed g a w → unl listed = fuel → wpAny P .any ops Q fuel listed a w := by
 intro fuel
 induction fuel with
 | zero =>
  intro listed g a w h hu
  have hall : ∀ j, j < ops.size → listed.getD j false = true := by
   intro j hj
   unfold unl at hu
   rw [List.countP_eq_zero] at hu
   have hjl : j < listed.size := by rw [h.sz]; exact hj
   have := hu listed[j] (by simp)
   have h2 : listed[j] = true := by simpa using this
   simp [Array.getD, hjl, h2]
  refine ⟨?_, hfin a w listed g h hall⟩
  refine List.eq_nil_iff_forall_not_mem.2 fun i hi => ?_
  obtain ⟨h1, h2, _⟩ := ready_spec hi
  have := hall i h1
  have hil : i < listed.size := by rw [h.sz]; exact h1
  simp [Array.getD, hil] at this h2
  rw [this] at h2; cases h2
 | succ fuel ih =>
  intro listed g a w h hu
  refine ⟨fun hr => hfin a w listed g h (ready_nil h.sz hb hr), ?_⟩
  intro i hi
  obtain ⟨hi1, hi2, o, ho, hdeps⟩ := ready_spec hi
  have hil : i < listed.size := by rw [h.sz]; exact hi1
  have hif : listed.getD i false = false := by simpa [Array.getD, hil] using hi2
  -- what surely is listed
  have hcli : ∀ j ∈ cl.getD i [], listed.getD j false = true := by
   intro j hj
   unfold clOk at hcl
   have hci : cl[i]? = some (cl.getD i []) := by
    have : i < cl.length := by omega
    simp [List.getD, this]
   have hm : (o, cl.getD i []) ∈ ops.toList.zip cl := by
    refine List.mem_iff_getElem?.2 ⟨i, ?_⟩
    have ho' : ops.toList[i]? = some o := by simpa using ho
    rw [List.getElem?_zip_eq_some]
    exact ⟨ho', hci⟩
   have h1 := List.all_eq_true.1 (List.all_eq_true.1 hcl _ hm) j hj
   obtain ⟨e, he, h2⟩ := List.any_eq_true.1 h1
   simp only [Bool.and_eq_true, Bool.or_eq_true] at h2
   have hel := hdeps e he h2.1
   rcases h2.2 with h3 | h3
   ·have := Nat.eq_of_beq_eq_true h3
    rw [← this]; exact hel
   obtain ⟨y, hy, hyb⟩ := List.any_eq_true.1 h3
   have := Nat.eq_of_beq_eq_true hyb
   subst this
   exact h.cls e.on hel j hy
  obtain ⟨con, hconl, hcon, hall⟩ := EachG.get (i := 0) (j := i) hops (by simpa using ho)
  rw [Nat.zero_add] at hcon hall
  have hD : DrawsG P w0 n I Γ G1 cl cont ops vs i o listed.toList := by
   refine hall.use (by rw [hconl, Array.length_toList, h.sz]) ?_
   intro k b hk
   unfold conOk at hcon
   have hkl : k < con.length := (List.getElem?_eq_some_iff.1 hk).1
   have hks : k < listed.size := by rw [h.sz, ← hconl]; exact hkl
   have h1 := List.all_eq_true.1 hcon (some b, k) (by rw [List.mem_zipIdx_iff_getElem?]; exact hk)
   have hgoal : listed.getD k false = b → listed.toList[k]? = some b := by
    intro h2
    simpa [Array.getD, hks] using h2
   apply hgoal
   cases b with
   | true =>
    obtain ⟨y, hy, hyb⟩ := List.any_eq_true.1 h1
    have := Nat.eq_of_beq_eq_true hyb
    subst this
    exact hcli k hy
   | false =>
    simp only [Bool.or_eq_true] at h1
    rcases h1 with h1 | h1
    ·have := Nat.eq_of_beq_eq_true h1
     subst this; exact hif
    obtain ⟨y, hy, hyb⟩ := List.any_eq_true.1 h1
    have := Nat.eq_of_beq_eq_true hyb
    subst this
    cases hc : listed.getD k false with
    | false => rfl
    | true => have := h.cls k hc i hy; rw [hif] at this; cases this
  have hfr : Fr n (depsG ops (vs g) o ++ (oldG cl i G1 ++ Γ)) a := by
   refine ⟨h.fr.size, h.fr.nod, ?_⟩
   intro t v ht
   rw [lk_append] at ht
   split at ht
   ·rename_i v' hv'
    obtain rfl := Option.some.inj ht
    have hm := lk_mem hv'
    unfold depsG at hm
    obtain ⟨e, he, hv⟩ := List.mem_filterMap.1 hm
    split at hv
    ·rename_i hbe
     split at hv
     ·rename_i d v2 hd2 hv2
      have hp := Option.some.inj hv
      injection hp with hp1 hp2
      subst hp1 hp2
      obtain ⟨o2, ho2, hd3⟩ := Option.bind_eq_some_iff.1 hd2
      exact h.outs e.on o2 d v2 (hdeps e he hbe) ho2 hd3 hv2
     cases hv
    cases hv
   rw [lk_append] at ht
   split at ht
   ·rename_i v' hv'
    obtain rfl := Option.some.inj ht
    have hm := lk_mem hv'
    unfold oldG at hm
    obtain ⟨p, hp, hv⟩ := List.mem_filterMap.1 hm
    cases hc : (Nat.beq i p.2.2 || (cl.getD p.2.2 []).any (Nat.beq i)) with
    | false => rw [hc] at hv; cases hv
    | true =>
     rw [hc] at hv
     injection hv with hv
     injection hv with hv1 hv2
     subst hv1 hv2
     refine h.old p hp ?_
     rw [Bool.or_eq_true] at hc
     rcases hc with hc | hc
     ·have := Nat.eq_of_beq_eq_true hc
      rw [← this]; exact hif
     obtain ⟨y, hy, hyb⟩ := List.any_eq_true.1 hc
     have := Nat.eq_of_beq_eq_true hyb
     subst this
     cases hl : listed.getD p.2.2 false with
     | false => rfl
     | true => have := h.cls _ hl i hy; rw [hif] at this; cases this
   exact h.fr.has t v ht
  have hrun := hD g a w hfr h.st () rfl
  have hset : (listed.toList).set i true = (listed.setIfInBounds i true).toList := by simp
  -- the invariant behind the operation
  have hnext : ∀ a' w', (∃ x, Po w0 n .normal I (match o.dst, (vs (gset g i x))[i]? with | some d, some v => [(d, v)] | _, _ => []) (cont (listed.toList.set i true) (gset g i x)) .normal a' w') →
    (∃ v, a' = a.put o.dst v) → ∃ g', GInv w0 n I Γ G1 cont ops vs cl (listed.setIfInBounds i true) g' a' w' := by
   rintro a' w' ⟨x, _, hF', hS'⟩ ⟨v, rfl⟩
   have hst' := (hstab g x).get hi1
   rw [hset] at hS'
   unfold apartD at hap
   simp only [Bool.and_eq_true] at hap
   obtain ⟨hnd, hnone⟩ := hap
   replace hnd := nodupB_spec hnd
   have hmem : ∀ (j : Nat) (o' : Oper) (d : Nat), ops[j]? = some o' → o'.dst = some d → d ∈ ops.toList.filterMap (·.dst) := fun j o' d hj hd => List.mem_filterMap.2 ⟨o', List.mem_of_getElem? (by simpa using hj), hd⟩
   have hne : ∀ (j : Nat) (o' : Oper) (d d' : Nat), ops[j]? = some o' → o'.dst = some d' → o.dst = some d → j ≠ i → d' ≠ d := by
    intro j o' d d' hj hd' hd hji he
    subst he
    have key : ∀ (xs : List Oper) (j i : Nat) (o' o : Oper) (d : Nat), (xs.filterMap (·.dst)).Nodup → xs[j]? = some o' → xs[i]? = some o → o'.dst = some d → o.dst = some d → j = i := by
     intro xs
     induction xs with
     | nil => intro j i o' o d _ h; simp at h
     | cons x xs ih =>
      intro j i o' o d hn h1 h2 h3 h4
      have hn' : (xs.filterMap (·.dst)).Nodup := by
       cases hx : x.dst with
       | none => simpa [hx] using hn
       | some y => simp only [List.filterMap_cons, hx, List.nodup_cons] at hn; exact hn.2
      cases j with
      | zero =>
       simp at h1; subst h1
       cases i with
       | zero => rfl
       | succ i =>
        exfalso
        simp only [List.filterMap_cons, h3, List.nodup_cons] at hn
        exact hn.1 (List.mem_filterMap.2 ⟨o, List.mem_of_getElem? (by simpa using h2), h4⟩)
      | succ j =>
       cases i with
       | zero =>
        exfalso
        simp at h2; subst h2
        simp only [List.filterMap_cons, h4, List.nodup_cons] at hn
        exact hn.1 (List.mem_filterMap.2 ⟨o', List.mem_of_getElem? (by simpa using h1), h3⟩)
       | succ i => rw [ih j i o' o d hn' (by simpa using h1) (by simpa using h2) h3 h4]
    exact hji (key ops.toList j i o' o d' hnd (by simpa using hj) (by simpa using ho) hd' hd)
   refine ⟨gset g i x, ?_, ?_, ?_, hS', by simpa using h.sz, ?_⟩
   ·cases hd : o.dst with
    | none => exact h.fr
    | some d =>
     refine ⟨by simp [Act.put, h.fr.size], h.fr.nod, ?_⟩
     intro t u hu
     have hdt : d ≠ t := by
      rintro rfl
      have := List.all_eq_true.1 hnone d (hmem i o d ho hd)
      rw [hu] at this; cases this
     have := h.fr.has t u hu
     simp [Act.put, hdt, this]
   ·intro j o' d' v' hj ho' hd' hv'
    by_cases hji : j = i
    ·subst hji
     rw [ho] at ho'; obtain rfl := Option.some.inj ho'
     refine hF'.has d' v' ?_
     simp [hd', hv', lk]
    rw [getD_set, if_neg (by rintro ⟨e, _⟩; exact hji e.symm)] at hj
    have hnc : i ∉ cl.getD j [] := fun hc => by have := h.cls j hj i hc; rw [hif] at this; cases this
    rw [hide_get hst' hji hnc] at hv'
    have := h.outs j o' d' v' hj ho' hd' hv'
    cases hd : o.dst with
    | none => exact this
    | some d =>
     have hdd := hne j o' d d' ho' hd' hd hji
     have hdd' : d ≠ d' := fun e => hdd e.symm
     simp [Act.put, hdd', this]
   ·intro p hp hl
    rw [getD_set] at hl
    by_cases hpi : i = p.2.2
    ·rw [if_pos ⟨hpi, hil⟩] at hl; cases hl
    rw [if_neg (by rintro ⟨e, _⟩; exact hpi e)] at hl
    have := h.old p hp hl
    cases hd : o.dst with
    | none => exact this
    | some d =>
     have h1 := List.all_eq_true.1 hold p hp
     cases hq : (ops[p.2.2]?).bind (·.dst) with
     | none => rw [hq] at h1; cases h1
     | some d' =>
      rw [hq] at h1
      have h2 := Nat.eq_of_beq_eq_true h1
      subst h2
      obtain ⟨o', ho', hd'⟩ := Option.bind_eq_some_iff.1 hq
      have hdd := hne p.2.2 o' d p.1 ho' hd' hd (fun e => hpi e.symm)
      have hdd' : d ≠ p.1 := fun e => hdd e.symm
      simp [Act.put, hdd', this]
   intro k hk j hj
   rw [getD_set] at hk ⊢
   by_cases hji : i = j
   ·rw [if_pos ⟨hji, hil⟩]
   rw [if_neg (by rintro ⟨e, _⟩; exact hji e)]
   by_cases hki : i = k
   ·subst hki; exact hcli j hj
   rw [if_neg (by rintro ⟨e, _⟩; exact hki e)] at hk
   exact h.cls k hk j hj
  have hu' : unl (listed.setIfInBounds i true) = fuel := by have := unl_set hi2; omega
  unfold wpOp
  rw [ho]
  simp only
  simp only [wpList, seqs] at hrun
  split
  ·rename_i hw
   rw [if_pos hw] at hrun
   rcases hrun with hrun | ⟨_, a0, w1, g0, he, _⟩
   ·refine .inl (Oper.wp_mono (fun a' w' h' => ?_) (Oper.wp_monoQ (fun e a' w' hen h' => ?_) (Oper.wp_put hrun)))
    ·obtain ⟨h1, h2⟩ := h'
     have hdef : a'.defers = a.defers := by obtain ⟨_, _, hF', _⟩ := h1; rw [hF'.nod, h.fr.nod]
     obtain ⟨g', hg'⟩ := hnext a' w' h1 (h2 hdef)
     exact ih _ g' _ _ hg' hu'
    obtain ⟨g0, rfl, hF', hS'⟩ := h'
    exact absurd rfl hen
   cases he
  rename_i hw
  rw [if_neg hw] at hrun
  obtain ⟨g', hg'⟩ := hnext _ _ hrun ⟨_, rfl⟩
  exact ih _ g' _ _ hg' hu'
theorem TC.drawG {id : Nat} {L : List Asn} {Γ0 : Gm} (Γ : Gm) (G1 : Olds) (hs0 : Sub Γ0 Γ) (hs1 : Sub Γ0 (olds G1)) (cont : List Bool → GF → List Asn) (vs : GF → List Value) (cl : List (List Nat)) (cons : List (List (Option Bool))) (hm : P.follows .mixedOrders = true) (hlen : ∀ g, Nat.beq (vs g).length ops.size = true) (hll : Nat.beq cl.length ops.size = true) (hb : backward ops = true) (hcl : clOk ops cl = true) (hap : apartD ops Γ = true) (hold : oldOk ops G1 = true)
  (hstab : ∀ g x, EachI (fun i => hide cl i (vs (gset g i x)) = hide cl i (vs g)) ops.size) (ne : Nat) (js : List Nat) (h0 : ∀ g, ext js (List.replicate ne emp ++ L) = some (cont (List.replicate ops.size false) g))
  (hops : EachG cl ops.size (DrawsG P w0 n I Γ G1 cl cont ops vs) 0 ops.toList cons)
  (k : ∀ g, TC P w0 n I (outsG ops.toList (vs g) ++ Γ) (cont (List.replicate ops.size true) g) cs m D) : TC P w0 n I Γ0 L (.region id ops true :: cs) m D := by
 intro a w hF hS o ho
 refine wp_region_any hm (draws_G (w0 := w0) (n := n) (I := I) (Γ := Γ) (G1 := G1) cl cons (fun g => Nat.eq_of_beq_eq_true (hlen g)) (Nat.eq_of_beq_eq_true hll) hb hcl hap hold hstab hops ?_ ops.size (Array.replicate ops.size false) (fun _ => []) a _ ?_ ?_)
 ·intro a w listed g h hall
  have hl : listed.toList = List.replicate ops.size true := by
   refine List.eq_replicate_iff.2 ⟨by rw [Array.length_toList, h.sz], fun b hb => ?_⟩
   obtain ⟨j, hj, rfl⟩ := List.mem_iff_getElem.1 hb
   have hjs : j < listed.size := by simpa using hj
   have := hall j (by rw [← h.sz]; exact hjs)
   simpa [Array.getD, hjs] using this
  refine k g a w ⟨h.fr.size, h.fr.nod, ?_⟩ (hl ▸ h.st) o ho
  intro t v ht
  rw [lk_append] at ht
  split at ht
  ·rename_i v' hv'
   obtain rfl := Option.some.inj ht
   have hm := lk_mem hv'
   unfold outsG at hm
   obtain ⟨p, hp, hv⟩ := List.mem_filterMap.1 hm
   obtain ⟨d, hd, he⟩ := Option.map_eq_some_iff.1 hv
   injection he with he1 he2
   subst he1 he2
   obtain ⟨i, hi, hpi⟩ := List.mem_iff_getElem.1 hp
   have hio : i < ops.size := by simp at hi; omega
   have hiv : i < (vs g).length := by simp at hi; omega
   rw [List.getElem_zip] at hpi
   subst hpi
   refine h.outs i ops[i] d (vs g)[i] (hall i hio) (by simp [hio]) (by simpa using hd) (by simp [hiv])
  exact h.fr.has t v ht
 ·refine ⟨hF.sub hs0, ?_, ?_, ?_, by simp, ?_⟩
  ·intro i o d v h
   exfalso
   by_cases hi : i < ops.size <;> simp [Array.getD, hi] at h
  ·intro p hp _
   exact hF.has _ _ (hs1.mem (List.mem_map.2 ⟨p, hp, rfl⟩))
  ·rw [Array.toList_replicate]
   exact (hS.drew.emps ne).ext js (h0 _)
  intro i h
  exfalso
  by_cases hi : i < ops.size <;> simp [Array.getD, hi] at h
 simp [unl, List.countP_replicate]
theorem TC.small {L : List Asn} {k : Nat} (kk : k ≤ 1099511627776 → TC P w0 n I Γ L cs m D) : TC P w0 n I Γ L cs (Sx.small k m) D := by
 intro a w hF hS r hr
 unfold Sx.small at hr
 split at hr
 ·rename_i hb
  exact kk hb a w hF hS r hr
 cases hr
theorem TC.grd {L : List Asn} {c : Bool} (kk : c = true → TC P w0 n I Γ L cs m D) : TC P w0 n I Γ L cs (Sx.grd c m) D := by
 intro a w hF hS r hr
 cases c with
 | true => exact kk rfl a w hF hS r hr
 | false => cases hr
theorem TL.asL {L : List Asn} {os : List Oper} (L' : List Asn) (h : L = L') (k : TL P w0 n I Γ L' ops os cs m D) : TL P w0 n I Γ L ops os cs m D := h ▸ k
theorem TC.asL {L : List Asn} (L' : List Asn) (h : L = L') (k : TC P w0 n I Γ L' cs m D) : TC P w0 n I Γ L cs m D := h ▸ k
variable {L : List Asn} {os : List Oper} {d : Nat} {ty : TypeId} {pos : String} {af : Array Edge} {g : Option (Nat × Bool)}
theorem TL.callXH {β : Type} {f : FuncId} {args : Array Operand} {ts : Array TypeId} {vs : List Value} {mf : Option β} {r : β} {R : β → Value → List Asn → Prop} (hr : mf = some r) (perm : List Nat) (LA LB : List Asn) (hp : ext perm L = some (LA ++ LB))
  (hcall : ∀ (args : Array Value) (w : World), (callFunc f args).run P w = .ok (.enter f args) w)
  (hg : gd ops Γ ⟨some d, .call { callee := .value (.func f), args := args, argTypes := ts }, ty, pos, af, g⟩ = some true) (hn : Nat.blt d n = true) (hx : evs Γ args.toList = some vs)
  (hc : ∀ w I', Hle I I' → Held LB I' → St w0 I' LA w → ∀ r, mf = some r → Calls P f vs.toArray w (RetM w0 I' (R r)))
  (k : ∀ v L', R r v L' → TL P w0 n I ((d, v) :: Γ) (L' ++ LB) ops os cs m D) :
  TL P w0 n I Γ L ops (⟨some d, .call { callee := .value (.func f), args := args, argTypes := ts }, ty, pos, af, g⟩ :: os) cs m D := by
 intro a w hF hS o ho
 refine TL.core (m := some o) (D := D) hg (fun a w hF hS r' hr' => ?_) a w hF hS o rfl
 obtain rfl := Option.some.inj hr'
 unfold Oper.wp
 rw [run_call hcall hF hx, Oper.upon_enter]
 obtain ⟨I', h1, h2, h3, h4⟩ := (hS.ext perm hp).split
 refine (hc w I' h1 h2 h3 r hr).mono ?_
 rintro e w' ⟨v, L', rfl, hR, hS'⟩
 exact k v L' hR _ _ (hF.put (by simpa using hn)) (h4 L' w' hS') _ ho
end
end Go.Sx
namespace Go.Sx
open Go.RowKit
instance : Inhabited SV := ⟨⟨none, 0, 0⟩⟩
def rows {α : Type} (E : FE α) (T : TypeId) : List SV → List (List α) → Asn
  | [], [] => fun ρ => ρ = []
  | s :: ss, ys :: yss => fun ρ => ∃ ρ1 ρ2, ρ = ρ1 ++ ρ2 ∧ row E T s ys ρ1 ∧ rows E T ss yss ρ2
  | _, _ => fun _ => False
section
variable {α : Type} {E : FE α} {T : TypeId}
theorem rows_length : ∀ {ss : List SV} {yss : List (List α)} {ρ}, rows E T ss yss ρ → ss.length = yss.length
 | [], [], _, _ => rfl
 | [], _ :: _, _, h => h.elim
 | _ :: _, [], _, h => h.elim
 | _ :: ss, _ :: yss, _, h => by
  obtain ⟨ρ1, ρ2, rfl, _, h2⟩ := h
  simp [rows_length h2]
def mat (E : FE α) (T T2 : TypeId) (s : SV) (ss : List SV) (yss : List (List α)) : Asn := fun ρ => ∃ ρ1 ρ2, ρ = ρ1 ++ ρ2 ∧ row Ev T2 s ss ρ1 ∧ rows E T ss yss ρ2
def rowsX (E : FE α) (T : TypeId) (j : Nat) (ss : List SV) (yss : List (List α)) : Asn := fun ρ => j < yss.length ∧ ss.length = yss.length ∧
  ∃ σ1 σ2, ρ = σ1 ++ σ2 ∧ ∀ s' ys' σA, row E T s' ys' σA → rows E T (ss.set j s') (yss.set j ys') (σ1 ++ σA ++ σ2)
def matX (E : FE α) (T T2 : TypeId) (j : Nat) (s : SV) (ss : List SV) (yss : List (List α)) : Asn := fun ρ => ∃ ρ1 ρ2, ρ = ρ1 ++ ρ2 ∧ row Ev T2 s ss ρ1 ∧ rowsX E T j ss yss ρ2
def ReadsM (E : FE α) (I : Hp) (s : SV) (ss : List SV) (yss : List (List α)) : Prop :=
  Reads Ev I s ss ∧ ss.length = yss.length ∧ ∀ (j : Nat) (u : SV) (ys : List α), ss[j]? = some u → yss[j]? = some ys → Reads E I u ys
theorem ReadsM.mono {I J : Hp} {s ss} {yss : List (List α)} (h : ReadsM E I s ss yss) (hIJ : Hle I J) : ReadsM E J s ss yss :=
 ⟨h.1.mono hIJ, h.2.1, fun j u ys h1 h2 => (h.2.2 j u ys h1 h2).mono hIJ⟩
def RdM (w0 : World) (I : Hp) (L : List Asn) (E : FE α) (s : SV) (ss : List SV) (yss : List (List α)) : Prop := ∀ w, St w0 I L w → ReadsM E (hp w) s ss yss
theorem RdM.old {w0 I L s ss} {yss : List (List α)} (h : ReadsM E I s ss yss) : RdM w0 I L E s ss yss := fun _ hS => h.mono hS.iw
theorem rows_reads {I : Hp} : ∀ {ss : List SV} {yss : List (List α)} {ρ}, rows E T ss yss ρ → (∀ p ∈ ρ, I p.1 = some p.2) → ∀ (j : Nat) u ys, ss[j]? = some u → yss[j]? = some ys → Reads E I u ys
 | [], [], _, _, _, _, _, _, h1, _ => by simp at h1
 | [], _ :: _, _, h, _, _, _, _, _, _ => h.elim
 | _ :: _, [], _, h, _, _, _, _, _, _ => h.elim
 | s :: ss, ys :: yss, _, h, hh, j, u, zs, h1, h2 => by
  obtain ⟨ρ1, ρ2, rfl, hr, h3⟩ := h
  cases j with
  | zero =>
   simp at h1 h2; subst h1 h2
   exact row_reads hr fun p hp' => hh p (List.mem_append.2 (.inl hp'))
  | succ j => exact rows_reads h3 (fun p hp' => hh p (List.mem_append.2 (.inr hp'))) j u zs (by simpa using h1) (by simpa using h2)
theorem mat_reads {T2 s ss} {yss : List (List α)} {ρ} {I : Hp} (h : mat E T T2 s ss yss ρ) (hh : ∀ p ∈ ρ, I p.1 = some p.2) : ReadsM E I s ss yss := by
 obtain ⟨ρ1, ρ2, rfl, h1, h2⟩ := h
 exact ⟨row_reads h1 fun p hp' => hh p (List.mem_append.2 (.inl hp')), rows_length h2, rows_reads h2 fun p hp' => hh p (List.mem_append.2 (.inr hp'))⟩
theorem RdM.mat {w0 I L T2 s ss} {yss : List (List α)} (i : Nat) (hi : L[i]? = some (mat E T T2 s ss yss)) : RdM w0 I L E s ss yss := by
 intro w hS
 obtain ⟨ρA, hA, hh⟩ := hS.get hi
 exact mat_reads hA hh
theorem RdM.out {w0 I L s ss} {yss : List (List α)} (h : RdM w0 I L E s ss yss) : Rd w0 I L Ev s ss := fun w hS => (h w hS).1
theorem RdM.nil {w0 I L} (E : FE α) : RdM w0 I L E ⟨none, 0, 0⟩ [] [] := fun _ _ => ⟨⟨rfl, Nat.le_refl _, by simp [maxLen], .inl rfl⟩, rfl, fun j u ys h => by simp at h⟩
theorem RdM.cut {w0 I L s ss} {yss : List (List α)} (hr : RdM w0 I L E s ss yss) {l h : Nat} (h1 : l ≤ h) (h2 : h ≤ yss.length) : RdM w0 I L E (s.cut l h s.c Ev.sz) ((ss.drop l).take (h - l)) ((yss.drop l).take (h - l)) := by
 intro w hS
 obtain ⟨a1, a2, a3⟩ := hr w hS
 refine ⟨Rd.cut (fun w hS => (hr w hS).1) h1 (by omega) w hS, by simp [a2], ?_⟩
 intro j u ys hj hj2
 rw [List.getElem?_take] at hj hj2
 split at hj
 ·rename_i hlt
  rw [if_pos hlt, List.getElem?_drop] at hj2
  rw [List.getElem?_drop] at hj
  exact a3 _ _ _ hj hj2
 cases hj
inductive RdL (w0 : World) (I : Hp) (L : List Asn) (E : FE α) : List SV → List (List α) → Prop
  | nil : RdL w0 I L E [] []
  | cons {s : SV} {ys : List α} {ss : List SV} {yss : List (List α)} : Rd w0 I L E s ys → RdL w0 I L E ss yss → RdL w0 I L E (s :: ss) (ys :: yss)
end
theorem St.perm {w0 I w} {L : List Asn} {ρ ρ' : Frag} (h : St w0 I L w) (ho : Own I w ρ) (hp : ρ.Perm ρ') {L' : List Asn} (hs : Sat L' ρ') : St w0 I L' w :=
 ⟨h.below, h.i0, h.iw, ρ', hs, ((hp.map (·.1)).nodup_iff).1 ho.nodup, fun p hm => ho.here p (hp.mem_iff.2 hm)⟩
theorem St.cutp {w0 I w} {L : List Asn} (i : Nat) {A B C : Asn} (hi : L[i]? = some A) (hab : ∀ ρ, A ρ → ∃ ρ1 ρ2, ρ.Perm (ρ1 ++ ρ2) ∧ B ρ1 ∧ C ρ2) (h : St w0 I L w) : St w0 I (B :: L.set i C) w := by
 obtain ⟨ρ, hs, ho⟩ := h.own
 obtain ⟨ρ1, ρA, ρ2, rfl, hA, hset, _⟩ := hs.focus hi
 obtain ⟨σ1, σ2, hp, hB, hC⟩ := hab ρA hA
 refine h.perm ho (ρ' := σ1 ++ (ρ1 ++ σ2 ++ ρ2)) ?_ ⟨σ1, _, rfl, hB, hset C σ2 hC⟩
 refine ((hp.append_left ρ1).append_right ρ2).trans ?_
 rw [← List.append_assoc, ← List.append_assoc, ← List.append_assoc]
 exact (List.perm_append_comm.append_right σ2).append_right ρ2
theorem St.joinp {w0 I w} {L : List Asn} (i k : Nat) {A B C : Asn} (hi : L[i]? = some B) (hk : (L.set i emp)[k]? = some C) (hab : ∀ ρ1 ρ2, B ρ1 → C ρ2 → A (ρ1 ++ ρ2)) (h : St w0 I L w) : St w0 I ((L.set i emp).set k A) w := by
 obtain ⟨ρ, hs, ho⟩ := h.own
 obtain ⟨ρ1, ρB, ρ2, rfl, hB, hset, _⟩ := hs.focus hi
 have h1 := hset emp [] rfl
 obtain ⟨σ1, σC, σ2, he, hC, hset2, _⟩ := h1.focus hk
 refine h.perm ho (ρ' := σ1 ++ (ρB ++ σC) ++ σ2) ?_ (hset2 A (ρB ++ σC) (hab _ _ hB hC))
 have e1 : (ρ1 ++ ρB ++ ρ2).Perm (ρB ++ (ρ1 ++ ρ2)) := by
  rw [← List.append_assoc]
  exact List.perm_append_comm.append_right ρ2
 have e2 : ρ1 ++ ρ2 = σ1 ++ σC ++ σ2 := by simpa using he
 rw [e2] at e1
 refine e1.trans ?_
 rw [← List.append_assoc, ← List.append_assoc, ← List.append_assoc]
 exact (List.perm_append_comm.append_right σC).append_right σ2
section
variable {P : Program} {w0 : World} {n : Nat} {I : Hp} {Γ : Gm} {L : List Asn} {cs : List Code} {β : Type} {m : Option β} {D : β → Post} {ops : Array Oper} {os : List Oper} {α : Type} {E : FE α} {T T2 : TypeId}
theorem TL.joinp (i k : Nat) {A B C : Asn} (hi : L[i]? = some B) (hk : (L.set i emp)[k]? = some C) (hab : ∀ ρ1 ρ2, B ρ1 → C ρ2 → A (ρ1 ++ ρ2)) (kk : TL P w0 n I Γ ((L.set i emp).set k A) ops os cs m D) : TL P w0 n I Γ L ops os cs m D :=
 fun a w hF hS o ho => kk a w hF (hS.joinp i k hi hk hab) o ho
theorem TL.cutp (i : Nat) {A B C : Asn} (hi : L[i]? = some A) (hab : ∀ ρ, A ρ → ∃ ρ1 ρ2, ρ.Perm (ρ1 ++ ρ2) ∧ B ρ1 ∧ C ρ2) (kk : TL P w0 n I Γ (B :: L.set i C) ops os cs m D) : TL P w0 n I Γ L ops os cs m D :=
 fun a w hF hS o ho => kk a w hF (hS.cutp i hi hab) o ho
variable {d : Nat} {ty : TypeId} {pos : String} {af : Array Edge} {g : Option (Nat × Bool)}
theorem TL.bindE {γ : Type} {mf : Option γ} {kont : γ → Option β} (kk : ∀ r, mf = some r → TL P w0 n I Γ L ops os cs (kont r) D) : TL P w0 n I Γ L ops os cs (mf.bind kont) D := by
 intro a w hF hS r hr
 obtain ⟨r1, hr1, hr2⟩ := Option.bind_eq_some_iff.1 hr
 exact kk r1 hr1 a w hF hS r hr2
end
end Go.Sx
namespace Go.Sx
open Go.RowKit
def Evi (n : Nat) : FE (Nat → Int) := ⟨n, fun t => flat [.arr n (enf i64v t)], fun _ => by simp [flat, Seg.cells], fun t => oneCell_sub (fun _ => rfl) n t⟩
section
variable {P : Program} {w0 : World} {n : Nat} {I : Hp} {Γ : Gm} {L : List Asn} {cs : List Code} {α : Type} {m : Option α} {D : α → Post} {ops : Array Oper} {os : List Oper}
variable {d : Nat} {ty : TypeId} {pos : String} {af : Array Edge} {g : Option (Nat × Bool)}
end
end Go.Sx
namespace Go.Sx
open Go.RowKit
section
variable {P : Program} {w0 : World} {n : Nat} {I : Hp} {Γ : Gm} {L : List Asn} {cs : List Code} {α : Type} {m : Option α} {D : α → Post} {ops : Array Oper} {os : List Oper}
variable {d : Nat} {ty : TypeId} {pos : String} {af : Array Edge} {g : Option (Nat × Bool)}
end
end Go.Sx
namespace Go.Sx
open Go.RowKit
section
variable {α : Type} {E : FE α} {T T2 : TypeId}
def rowsO (E : FE α) (T : TypeId) (so : SV) (cO : List α) (ss : List SV) (yss : List (List α)) : Asn := fun ρ => ss.length = yss.length ∧
  ∃ σ1 σ2, ρ = σ1 ++ σ2 ∧ ∀ σA, row E T so cO σA → rows E T ss yss (σ1 ++ σA ++ σ2)
def restP (E : FE α) (T : TypeId) (put : Bool) (so : SV) (cO : List α) (ss : List SV) (yss : List (List α)) : Asn := bif put then rowsO E T so cO ss yss else rows E T ss yss
def matP (E : FE α) (T T2 : TypeId) (put : Bool) (so : SV) (cO : List α) (s : SV) (ss : List SV) (yss : List (List α)) : Asn := fun ρ => ∃ ρ1 ρ2, ρ = ρ1 ++ ρ2 ∧ row Ev T2 s ss ρ1 ∧ restP E T put so cO ss yss ρ2
end
theorem St.joinpp {w0 I w} {L : List Asn} (i k : Nat) {A B C : Asn} (hi : L[i]? = some B) (hk : (L.set i emp)[k]? = some C) (hab : ∀ ρ1 ρ2, B ρ1 → C ρ2 → ∃ ρ, (ρ1 ++ ρ2).Perm ρ ∧ A ρ) (h : St w0 I L w) : St w0 I ((L.set i emp).set k A) w := by
 obtain ⟨ρ, hs, ho⟩ := h.own
 obtain ⟨ρ1, ρB, ρ2, rfl, hB, hset, _⟩ := hs.focus hi
 have h1 := hset emp [] rfl
 obtain ⟨σ1, σC, σ2, he, hC, hset2, _⟩ := h1.focus hk
 obtain ⟨τ, hτ, hA⟩ := hab _ _ hB hC
 refine h.perm ho (ρ' := σ1 ++ τ ++ σ2) ?_ (hset2 A τ hA)
 have e1 : (ρ1 ++ ρB ++ ρ2).Perm (ρB ++ (ρ1 ++ ρ2)) := by
  rw [← List.append_assoc]
  exact List.perm_append_comm.append_right ρ2
 have e2 : ρ1 ++ ρ2 = σ1 ++ σC ++ σ2 := by simpa using he
 rw [e2] at e1
 refine e1.trans ?_
 have e3 : (ρB ++ (σ1 ++ σC ++ σ2)).Perm (σ1 ++ (ρB ++ σC) ++ σ2) := by
  rw [← List.append_assoc, ← List.append_assoc, ← List.append_assoc]
  exact (List.perm_append_comm.append_right σC).append_right σ2
 exact e3.trans ((hτ.append_left σ1).append_right σ2)
section
variable {P : Program} {w0 : World} {n : Nat} {I : Hp} {Γ : Gm} {L : List Asn} {cs : List Code} {β : Type} {m : Option β} {D : β → Post} {ops : Array Oper} {os : List Oper} {α : Type} {E : FE α} {T T2 : TypeId}
variable {d : Nat} {ty : TypeId} {pos : String} {af : Array Edge} {g : Option (Nat × Bool)}
end
end Go.Sx
namespace Go.Sx
section
variable {P : Program} {w0 : World} {n : Nat} {I : Hp} {Γ : Gm} {L : List Asn} {cs : List Code} {β : Type} {m : Option β} {D : β → Post} {ops : Array Oper} {os : List Oper} {α : Type} {E : FE α} {T : TypeId}
end
section
variable {P : Program} {w0 : World} {n : Nat} {I : Hp} {Γ : Gm} {L : List Asn} {cs : List Code} {β : Type} {m : Option β} {D : β → Post} {ops : Array Oper} {os : List Oper}
variable {d : Nat} {ty : TypeId} {pos : String} {af : Array Edge} {g : Option (Nat × Bool)}
theorem run_shr {T T2 : TypeId} {x y : Operand} {k k2 : IntKind} {a b c : Int} {ρ : Operand → Value} (hx : ρ x = .int k a) (hy : ρ y = .int k2 b) (hb : ¬ b < 0) (hc : (2 : Int) ^ min b.toNat k.bits = c) (w : World) :
  (execOp ρ ⟨some d, .binOp .shr T x y T2, ty, pos, af, g⟩).run P w = .ok (.value (.int k (a.fdiv c))) w := by
 refine run_v ?_
 rw [hx, hy, ← hc]
 simp [eqGuard, binOp, Op.shift, hb]
theorem TL.shr {T T2 : TypeId} {x y : Operand} (k k2 : IntKind) (a b c : Int) (hb : ¬ b < 0) (hc : (2 : Int) ^ min b.toNat k.bits = c) (hg : gd ops Γ ⟨some d, .binOp .shr T x y T2, ty, pos, af, g⟩ = some true) (hn : Nat.blt d n = true)
  (hx : ev Γ x = some (.int k a)) (hy : ev Γ y = some (.int k2 b))
  (kk : TL P w0 n I ((d, .int k (a.fdiv c)) :: Γ) L ops os cs m D) : TL P w0 n I Γ L ops (⟨some d, .binOp .shr T x y T2, ty, pos, af, g⟩ :: os) cs m D :=
 .val hg rfl (by simpa using hn) (fun _ w hF _ => run_shr (hF.eval hx) (hF.eval hy) hb hc w) kk
end
section
variable {P : Program} {w0 : World} {n : Nat} {I : Hp} {Γ : Gm} {L : List Asn} {cs : List Code} {β : Type} {m : Option β} {D : β → Post} {ops : Array Oper} {os : List Oper} {α : Type} {E : FE α} {T T2 : TypeId}
end
end Go.Sx
namespace Go.Sx
open Go.RowKit
structure FV where
  f : Nat
  fst : List Value
  cap : List Value
def FV.v (x : FV) : Value := .func (.func x.f) x.fst.toArray x.cap.toArray
instance : Inhabited FV := ⟨⟨0, [], []⟩⟩
def Ef : FE FV := ⟨1, fun x => [x.v], fun _ => rfl, fun x v hv => by simp at hv; subst hv; rfl⟩
abbrev PFn := (Nat → UInt8) → Option (Nat → UInt8)
structure FnAll (P : Program) (H : Hp) (vs : List FV) (fs : List PFn) : Prop where
  len : vs.length = fs.length
  hc : ∀ i : Int, 0 ≤ i ∧ i < fs.length → ∀ (args_ : Array Value) (w_ : World), (callFunc (gt vs i).f args_).run P w_ = .ok (.enter (gt vs i).f args_) w_
  hf : ∀ i : Int, 0 ≤ i ∧ i < fs.length → ∀ w_, Hle H (hp w_) → ∀ (x_ : Nat → UInt8), ∀ r_, gt fs i x_ = some r_ → Calls P (gt vs i).f ((gt vs i).fst ++ ([sval [.arr 6 (enf u8v x_)]] : List Value) ++ (gt vs i).cap).toArray w_ (Ret w_ (fun v_ L_ => v_ = sval [.arr 6 (enf u8v r_)] ∧ L_ = []))
theorem FnAll.mono {P : Program} {H J : Hp} {vs fs} (h : FnAll P H vs fs) (hHJ : Hle H J) : FnAll P J vs fs :=
 ⟨h.len, h.hc, fun i hi w_ hw => h.hf i hi w_ (hHJ.trans hw)⟩
def ReadsF (P : Program) (H : Hp) (s : SV) (vs : List FV) (fs : List PFn) : Prop := Reads Ef H s vs ∧ FnAll P H vs fs
theorem ReadsF.mono {P : Program} {H J : Hp} {s vs fs} (h : ReadsF P H s vs fs) (hHJ : Hle H J) : ReadsF P J s vs fs := ⟨h.1.mono hHJ, h.2.mono hHJ⟩
section
variable {P : Program} {w0 : World} {n : Nat} {I : Hp} {Γ : Gm} {L : List Asn} {cs : List Code} {β : Type} {m : Option β} {D : β → Post} {ops : Array Oper} {os : List Oper} {α : Type} {E : FE α} {T T2 : TypeId}
variable {d : Nat} {ty : TypeId} {pos : String} {af : Array Edge} {g : Option (Nat × Bool)}
theorem TL.slicestr {T3 : TypeId} {x : Operand} {lo hi : Option Operand} {s : Str} (li hi' : Option Int) (l h : Nat) (hT : P.underlying T3 = some .string)
  (hlo : bnd Γ lo = some li) (hhi : bnd Γ hi = some hi') (hl : (li.getD 0) = (l : Int)) (hh : (hi'.getD (s.length : Int)) = (h : Int)) (h1 : l ≤ h) (h2 : h ≤ s.length)
  (hg : gd ops Γ ⟨some d, .slice T3 x lo hi none, ty, pos, af, g⟩ = some true) (hn : Nat.blt d n = true) (hx : ev Γ x = some (strv s))
  (k : TL P w0 n I ((d, strv ((s.drop l).take (h - l))) :: Γ) L ops os cs m D) : TL P w0 n I Γ L ops (⟨some d, .slice T3 x lo hi none, ty, pos, af, g⟩ :: os) cs m D := by
 refine .val hg rfl (by simpa using hn) (fun a w hF hS => run_v ?_) k
 rw [hF.eval hx]
 have hsz : (ByteArray.mk s.toArray).size = s.length := by show s.toArray.size = _; simp
 have hb : (Instr.sliceBounds false (ByteArray.mk s.toArray).size (ByteArray.mk s.toArray).size (lo.map a.eval) (hi.map a.eval) none).run P w = .ok (l, h, s.length) w := by
  rw [hsz]
  rcases bnd_spec hF hlo with ⟨e1, e2⟩ | ⟨k1, i1, e1, e2⟩ <;> rcases bnd_spec hF hhi with ⟨e3, e4⟩ | ⟨k2, i2, e3, e4⟩ <;> subst e2 e4 <;> simp only [Option.getD_none, Option.getD_some] at hl hh <;> rw [e1, e3]
  ·have : l = 0 := by omega
   subst this
   simp [Instr.sliceBounds]
   omega
  ·have : l = 0 := by omega
   subst this
   simp [Instr.sliceBounds, Instr.sliceBound, asIntOf, show 0 ≤ i2 by omega, show i2 ≤ (s.length : Int) by omega]
   omega
  ·simp [Instr.sliceBounds, Instr.sliceBound, asIntOf, show 0 ≤ i1 by omega, show i1 ≤ (s.length : Int) by omega]
   omega
  simp [Instr.sliceBounds, Instr.sliceBound, asIntOf, show 0 ≤ i2 by omega, show i2 ≤ (s.length : Int) by omega, show 0 ≤ i1 by omega, show i2.toNat = h by omega, show i1.toNat = l by omega]
  all_goals omega
 have he : (ByteArray.mk s.toArray).extract l h = ⟨((s.drop l).take (h - l)).toArray⟩ := ByteArray.extract_mk s l h
 simp only [Instr.sliceAt, strv, Sem.run_bind, run_underlying hT, Result.andThen_ok, Option.map_none, Instr.slice, Option.isSome_none, Bool.false_eq_true, if_false, hb, Sem.run_pure, he]
theorem St.mkemp {w : World} (hS : St w0 I L w) : St w0 I (emp :: L) w := by
 obtain ⟨ρ, hs, hown⟩ := hS.own
 exact ⟨hS.below, hS.i0, hS.iw, ρ, ⟨[], ρ, rfl, rfl, hs⟩, hown⟩
theorem TC.mkemp (k : TC P w0 n I Γ (emp :: L) cs m D) : TC P w0 n I Γ L cs m D := fun a w hF hS o ho => k a w hF hS.mkemp o ho
theorem RdM.split {s s' : SV} {ss : List SV} {yss : List (List α)} (h1 : Rd w0 I L Ev s ss) (h2 : RdM w0 I L E s' ss yss) : RdM w0 I L E s ss yss := fun w hS => ⟨h1 w hS, (h2 w hS).2⟩
end
end Go.Sx
namespace Go.Sx
open Go.RowKit
abbrev PV := Int × SV × SV
abbrev PC := Int × List Int × List Int
def Epart : FE PV := ⟨3, fun x => [.int .i64 x.1, x.2.1.v, x.2.2.v], fun _ => rfl, fun x v hv => by
  simp at hv
  rcases hv with rfl | rfl | rfl <;> rfl⟩
def prows (T : TypeId) : List PV → List PC → Asn
  | [], [] => fun ρ => ρ = []
  | s :: ss, y :: yss => fun ρ => s.1 = y.1 ∧ ∃ ρ1 ρ2 ρ3, ρ = ρ1 ++ (ρ2 ++ ρ3) ∧ row Ei T s.2.1 y.2.1 ρ1 ∧ row Ei T s.2.2 y.2.2 ρ2 ∧ prows T ss yss ρ3
  | _, _ => fun _ => False
def pmat (T T2 : TypeId) (s : SV) (ss : List PV) (c : List PC) : Asn := fun ρ => ∃ ρ1 ρ2, ρ = ρ1 ++ ρ2 ∧ row Epart T2 s ss ρ1 ∧ prows T ss c ρ2
def ReadsP (I : Hp) (s : SV) (ss : List PV) (c : List PC) : Prop :=
  Reads Epart I s ss ∧ ss.length = c.length ∧ ∀ (j : Nat) (u : PV) (y : PC), ss[j]? = some u → c[j]? = some y → u.1 = y.1 ∧ Reads Ei I u.2.1 y.2.1 ∧ Reads Ei I u.2.2 y.2.2
theorem ReadsP.mono {I J : Hp} {s ss c} (h : ReadsP I s ss c) (hIJ : Hle I J) : ReadsP J s ss c :=
 ⟨h.1.mono hIJ, h.2.1, fun j u y h1 h2 => ⟨(h.2.2 j u y h1 h2).1, (h.2.2 j u y h1 h2).2.1.mono hIJ, (h.2.2 j u y h1 h2).2.2.mono hIJ⟩⟩
def RdP (w0 : World) (I : Hp) (L : List Asn) (s : SV) (ss : List PV) (c : List PC) : Prop := ∀ w, St w0 I L w → ReadsP (hp w) s ss c
theorem RdP.old {w0 I L s ss c} (h : ReadsP I s ss c) : RdP w0 I L s ss c := fun _ hS => h.mono hS.iw
section
variable {T T2 : TypeId}
theorem prows_length : ∀ {ss : List PV} {c : List PC} {ρ}, prows T ss c ρ → ss.length = c.length
 | [], [], _, _ => rfl
 | [], _ :: _, _, h => h.elim
 | _ :: _, [], _, h => h.elim
 | _ :: ss, _ :: yss, _, h => by
  obtain ⟨_, ρ1, ρ2, ρ3, rfl, _, _, h2⟩ := h
  simp [prows_length h2]
theorem prows_append : ∀ {ss ts : List PV} {c d : List PC} {ρ ρ'}, prows T ss c ρ → prows T ts d ρ' → prows T (ss ++ ts) (c ++ d) (ρ ++ ρ')
 | [], _, [], _, _, _, h, h' => by
  have : _ = [] := h
  subst this; exact h'
 | [], _, _ :: _, _, _, _, h, _ => h.elim
 | _ :: _, _, [], _, _, _, h, _ => h.elim
 | s :: ss, ts, ys :: yss, zss, _, ρ', h, h' => by
  obtain ⟨h0, ρ1, ρ2, ρ3, rfl, h1, h2, h3⟩ := h
  exact ⟨h0, ρ1, ρ2, ρ3 ++ ρ', by simp, h1, h2, prows_append h3 h'⟩
theorem prows_reads {I : Hp} : ∀ {ss : List PV} {c : List PC} {ρ}, prows T ss c ρ → (∀ p ∈ ρ, I p.1 = some p.2) → ∀ (j : Nat) u y, ss[j]? = some u → c[j]? = some y → u.1 = y.1 ∧ Reads Ei I u.2.1 y.2.1 ∧ Reads Ei I u.2.2 y.2.2
 | [], [], _, _, _, _, _, _, h1, _ => by simp at h1
 | [], _ :: _, _, h, _, _, _, _, _, _ => h.elim
 | _ :: _, [], _, h, _, _, _, _, _, _ => h.elim
 | s :: ss, y :: yss, _, h, hh, j, u, z, h1, h2 => by
  obtain ⟨h0, ρ1, ρ2, ρ3, rfl, hr1, hr2, h3⟩ := h
  cases j with
  | zero =>
   simp at h1 h2; subst h1 h2
   exact ⟨h0, row_reads hr1 fun p hp' => hh p (by simp [hp']), row_reads hr2 fun p hp' => hh p (by simp [hp'])⟩
  | succ j => exact prows_reads h3 (fun p hp' => hh p (by simp [hp'])) j u z (by simpa using h1) (by simpa using h2)
theorem pmat_reads {s ss c} {ρ} {I : Hp} (h : pmat T T2 s ss c ρ) (hh : ∀ p ∈ ρ, I p.1 = some p.2) : ReadsP I s ss c := by
 obtain ⟨ρ1, ρ2, rfl, h1, h2⟩ := h
 exact ⟨row_reads h1 fun p hp' => hh p (List.mem_append.2 (.inl hp')), prows_length h2, prows_reads h2 fun p hp' => hh p (List.mem_append.2 (.inr hp'))⟩
theorem RdP.pmat {w0 I L s ss c} (i : Nat) (hi : L[i]? = some (pmat T T2 s ss c)) : RdP w0 I L s ss c := by
 intro w hS
 obtain ⟨ρA, hA, hh⟩ := hS.get hi
 exact pmat_reads hA hh
theorem RdP.out {w0 I L s ss c} (h : RdP w0 I L s ss c) : Rd w0 I L Epart s ss := fun w hS => (h w hS).1
theorem RdP.in1 {w0 I L s ss} {c : List PC} (h : RdP w0 I L s ss c) {i : Int} (hi : 0 ≤ i ∧ i < c.length) : Rd w0 I L Ei (gt ss i).2.1 (gt c i).2.1 := by
 intro w hS
 obtain ⟨_, h2, h3⟩ := h w hS
 exact (h3 i.toNat _ _ (gt_spec (by rw [h2]; exact hi)) (gt_spec hi)).2.1
theorem RdP.in2 {w0 I L s ss} {c : List PC} (h : RdP w0 I L s ss c) {i : Int} (hi : 0 ≤ i ∧ i < c.length) : Rd w0 I L Ei (gt ss i).2.2 (gt c i).2.2 := by
 intro w hS
 obtain ⟨_, h2, h3⟩ := h w hS
 exact (h3 i.toNat _ _ (gt_spec (by rw [h2]; exact hi)) (gt_spec hi)).2.2
theorem RdP.nil {w0 I L} : RdP w0 I L ⟨none, 0, 0⟩ [] [] := fun _ _ => ⟨⟨rfl, Nat.le_refl _, by simp [maxLen], .inl rfl⟩, rfl, fun j u y h => by simp at h⟩
end
section
variable {P : Program} {w0 : World} {n : Nat} {I : Hp} {Γ : Gm} {L : List Asn} {cs : List Code} {β : Type} {m : Option β} {D : β → Post} {ops : Array Oper} {os : List Oper} {T T2 : TypeId}
theorem St.nilpmat {w : World} (T T2 : TypeId) (hS : St w0 I L w) : St w0 I (pmat T T2 ⟨none, 0, 0⟩ [] [] :: L) w := by
 obtain ⟨ρ, hs, hown⟩ := hS.own
 exact ⟨hS.below, hS.i0, hS.iw, ρ, ⟨[], ρ, rfl, ⟨[], [], rfl, row_nil Epart T2, rfl⟩, hs⟩, hown⟩
theorem TL.nilpmat (T T2 : TypeId) (k : TL P w0 n I Γ (pmat T T2 ⟨none, 0, 0⟩ [] [] :: L) ops os cs m D) : TL P w0 n I Γ L ops os cs m D :=
 fun a w hF hS o ho => k a w hF (hS.nilpmat T T2) o ho
theorem TC.nilpmat (T T2 : TypeId) (k : TC P w0 n I Γ (pmat T T2 ⟨none, 0, 0⟩ [] [] :: L) cs m D) : TC P w0 n I Γ L cs m D :=
 fun a w hF hS o ho => k a w hF (hS.nilpmat T T2) o ho
theorem TL.pmat0 (T : TypeId) {s : SV} (i : Nat) (hi : L[i]? = some (row Epart T2 s [])) (k : TL P w0 n I Γ (L.set i (pmat T T2 s [] [])) ops os cs m D) : TL P w0 n I Γ L ops os cs m D := by
 intro a w hF hS o ho
 refine k a w hF ?_ o ho
 obtain ⟨ρ, hs, hown⟩ := hS.own
 obtain ⟨ρ1, ρA, ρ2, rfl, hA, hset, _⟩ := hs.focus hi
 exact ⟨hS.below, hS.i0, hS.iw, _, hset _ ρA ⟨ρA, [], by simp, hA, rfl⟩, hown⟩
variable {d : Nat} {ty : TypeId} {pos : String} {af : Array Edge} {g : Option (Nat × Bool)}
theorem TL.lenP {T3 e : TypeId} {x : Operand} {s : SV} {ss : List PV} {c : List PC} (hr : RdP w0 I L s ss c) (hT : P.underlying T3 = some (.slice e))
  (hg : gd ops Γ ⟨some d, .call { callee := .builtin .len, args := #[x], argTypes := #[T3] }, ty, pos, af, g⟩ = some true) (hn : Nat.blt d n = true) (hx : ev Γ x = some s.v)
  (k : TL P w0 n I ((d, .int .i64 c.length) :: Γ) L ops os cs m D) : TL P w0 n I Γ L ops (⟨some d, .call { callee := .builtin .len, args := #[x], argTypes := #[T3] }, ty, pos, af, g⟩ :: os) cs m D := by
 intro a w hF hS o ho
 have hl := (hr w hS).2.1
 rw [← hl] at k
 exact TL.len hr.out hT hg hn hx k a w hF hS o ho
theorem TL.ixsP {T3 : TypeId} {x ix : Operand} {s : SV} {ss : List PV} {c : List PC} {sz : Nat} {e : TypeId} {kd : IntKind} (i : Int) (r : Nat) (hr : RdP w0 I L s ss c) (hb : 0 ≤ i ∧ i < c.length) (hT : P.underlying T3 = some (.slice e)) (hz : ∀ w, (sizeOf e).run P w = .ok sz w)
  (hg : gd ops Γ ⟨some d, .indexAddr T3 x ix, ty, pos, af, g⟩ = some true) (hn : Nat.blt d n = true) (hx : ev Γ x = some s.v) (hi : ev Γ ix = some (.int kd i)) (hrr : i.toNat * sz = r)
  (k : TL P w0 n I ((d, ep s r) :: Γ) L ops os cs m D) : TL P w0 n I Γ L ops (⟨some d, .indexAddr T3 x ix, ty, pos, af, g⟩ :: os) cs m D := by
 intro a w hF hS o ho
 have hl := (hr w hS).2.1
 exact TL.ixs i r hr.out (by rw [hl]; exact hb) hT hz hg hn hx hi hrr k a w hF hS o ho
theorem TL.faeP {S : TypeId} {x : Operand} {f : Nat} {s : SV} {off sz : Nat} {fs : Array Field} {fd : Field} {ss : List PV} {c : List PC} (hr : RdP w0 I L s ss c) (hne : 0 < c.length) (hS : P.underlying S = some (.struct fs)) (hf : fs[f]? = some fd) (hz : ∀ w, (sizeOf fd.type).run P w = .ok sz w) (hs : Nat.beq sz 0 = false)
  (r : Nat) (hrr : off + fd.offset = r)
  (hg : gd ops Γ ⟨some d, .fieldAddr S x f, ty, pos, af, g⟩ = some true) (hn : Nat.blt d n = true) (hx : ev Γ x = some (ep s off))
  (k : TL P w0 n I ((d, ep s r) :: Γ) L ops os cs m D) : TL P w0 n I Γ L ops (⟨some d, .fieldAddr S x f, ty, pos, af, g⟩ :: os) cs m D := by
 intro a w hF hS' o ho
 have hl := (hr w hS').2.1
 exact TL.fae hr.out (by omega) hS hf hz hs r hrr hg hn hx k a w hF hS' o ho
theorem TL.loadP0 {T3 : TypeId} {x : Operand} {s : SV} {ss : List PV} {c : List PC} (hr : RdP w0 I L s ss c) (ha : ∀ w, (isAgg T3).run P w = .ok false w) (i : Int) (hb : 0 ≤ i ∧ i < c.length)
  {o : Nat} (ho : o = i.toNat * 3) (hg : gd ops Γ ⟨some d, .load T3 x, ty, pos, af, g⟩ = some true) (hn : Nat.blt d n = true) (hx : ev Γ x = some (ep s o))
  (k : TL P w0 n I ((d, .int .i64 (gt c i).1) :: Γ) L ops os cs m D) : TL P w0 n I Γ L ops (⟨some d, .load T3 x, ty, pos, af, g⟩ :: os) cs m D := by
 intro a w hF hS r hr'
 have hl := (hr w hS).2.1
 have h3 := ((hr w hS).2.2 i.toNat _ _ (gt_spec (by rw [hl]; exact hb)) (gt_spec hb)).1
 rw [← h3] at k
 exact TL.loadE hr.out ha i.toNat 0 (gt_spec (by rw [hl]; exact hb)) (v := .int .i64 (gt ss i).1) rfl (by rw [ho]; rfl) hg hn hx k a w hF hS r hr'
theorem TL.loadPA {T3 : TypeId} {x : Operand} {s : SV} {ss : List PV} {c : List PC} (hr : RdP w0 I L s ss c) (ha : ∀ w, (isAgg T3).run P w = .ok true w) (hz : ∀ w, (sizeOf T3).run P w = .ok 3 w) (i : Int) (hb : 0 ≤ i ∧ i < c.length)
  {o : Nat} (ho : o = i.toNat * 3) (hg : gd ops Γ ⟨some d, .load T3 x, ty, pos, af, g⟩ = some true) (hn : Nat.blt d n = true) (hx : ev Γ x = some (ep s o))
  (k : TL P w0 n I ((d, sval [.one (.int .i64 (gt c i).1), .one (SV.v (gt ss i).2.1), .one (SV.v (gt ss i).2.2)]) :: Γ) L ops os cs m D) : TL P w0 n I Γ L ops (⟨some d, .load T3 x, ty, pos, af, g⟩ :: os) cs m D := by
 intro a w hF hS r hr'
 have hl := (hr w hS).2.1
 have h3 := ((hr w hS).2.2 i.toNat _ _ (gt_spec (by rw [hl]; exact hb)) (gt_spec hb)).1
 rw [← h3] at k
 exact TL.loadEA hr.out ha hz i.toNat (gt_spec (by rw [hl]; exact hb)) (v := sval [.one (.int .i64 (gt ss i).1), .one (SV.v (gt ss i).2.1), .one (SV.v (gt ss i).2.2)]) rfl (by rw [ho]; rfl) hg hn hx k a w hF hS r hr'
theorem TL.loadP1 {T3 : TypeId} {x : Operand} {s : SV} {ss : List PV} {c : List PC} (hr : RdP w0 I L s ss c) (ha : ∀ w, (isAgg T3).run P w = .ok false w) (i : Int) (hb : 0 ≤ i ∧ i < c.length)
  {o : Nat} (ho : o = i.toNat * 3 + 1) (hg : gd ops Γ ⟨some d, .load T3 x, ty, pos, af, g⟩ = some true) (hn : Nat.blt d n = true) (hx : ev Γ x = some (ep s o))
  (k : TL P w0 n I ((d, SV.v (gt ss i).2.1) :: Γ) L ops os cs m D) : TL P w0 n I Γ L ops (⟨some d, .load T3 x, ty, pos, af, g⟩ :: os) cs m D := by
 intro a w hF hS r hr'
 have hl := (hr w hS).2.1
 exact TL.loadE hr.out ha i.toNat 1 (gt_spec (by rw [hl]; exact hb)) (v := (gt ss i).2.1.v) rfl (by rw [ho]; rfl) hg hn hx k a w hF hS r hr'
theorem TL.loadP2 {T3 : TypeId} {x : Operand} {s : SV} {ss : List PV} {c : List PC} (hr : RdP w0 I L s ss c) (ha : ∀ w, (isAgg T3).run P w = .ok false w) (i : Int) (hb : 0 ≤ i ∧ i < c.length)
  {o : Nat} (ho : o = i.toNat * 3 + 2) (hg : gd ops Γ ⟨some d, .load T3 x, ty, pos, af, g⟩ = some true) (hn : Nat.blt d n = true) (hx : ev Γ x = some (ep s o))
  (k : TL P w0 n I ((d, SV.v (gt ss i).2.2) :: Γ) L ops os cs m D) : TL P w0 n I Γ L ops (⟨some d, .load T3 x, ty, pos, af, g⟩ :: os) cs m D := by
 intro a w hF hS r hr'
 have hl := (hr w hS).2.1
 exact TL.loadE hr.out ha i.toNat 2 (gt_spec (by rw [hl]; exact hb)) (v := (gt ss i).2.2.v) rfl (by rw [ho]; rfl) hg hn hx k a w hF hS r hr'
end
end Go.Sx
namespace Go.Sx
open Go.RowKit
section
variable {T T2 : TypeId}
theorem prows_split : ∀ (k : Nat) {ss : List PV} {c : List PC} {ρ}, prows T ss c ρ → ∃ ρ1 ρ2, ρ = ρ1 ++ ρ2 ∧ prows T (ss.take k) (c.take k) ρ1 ∧ prows T (ss.drop k) (c.drop k) ρ2
 | 0, ss, c, ρ, h => ⟨[], ρ, rfl, by simp [prows], by simpa using h⟩
 | k + 1, [], [], ρ, h => ⟨[], ρ, rfl, by simp [prows], by simpa using h⟩
 | _ + 1, [], _ :: _, _, h => h.elim
 | _ + 1, _ :: _, [], _, h => h.elim
 | k + 1, s :: ss, y :: c, ρ, h => by
  obtain ⟨h0, ρ1, ρ2, ρ3, rfl, h1, h2, h3⟩ := h
  obtain ⟨σ1, σ2, rfl, h4, h5⟩ := prows_split k h3
  exact ⟨ρ1 ++ (ρ2 ++ σ1), σ2, by simp, ⟨h0, ρ1, ρ2, σ1, rfl, h1, h2, h4⟩, h5⟩
theorem prows_put (k : Nat) {ss : List PV} {c : List PC} {ρ ρ1 ρ2 : Frag} {g : Int} {s1 s2 : SV} {y1 y2 : List Int} (h : prows T ss c ρ) (h1 : row Ei T s1 y1 ρ1) (h2 : row Ei T s2 y2 ρ2) :
  ∃ ρ', ((ρ1 ++ ρ2) ++ ρ).Perm ρ' ∧ prows T (ss.take k ++ (g, s1, s2) :: ss.drop k) (c.take k ++ (g, y1, y2) :: c.drop k) ρ' := by
 obtain ⟨σ1, σ2, rfl, h4, h5⟩ := prows_split k h
 refine ⟨σ1 ++ (ρ1 ++ (ρ2 ++ σ2)), ?_, prows_append h4 ⟨rfl, ρ1, ρ2, σ2, rfl, h1, h2, h5⟩⟩
 have e : ρ1 ++ (ρ2 ++ σ2) = (ρ1 ++ ρ2) ++ σ2 := by simp
 rw [e, ← List.append_assoc, ← List.append_assoc]
 exact List.perm_append_comm.append_right σ2
variable {P : Program} {w0 : World} {n : Nat} {I : Hp} {Γ : Gm} {L : List Asn} {cs : List Code} {β : Type} {m : Option β} {D : β → Post}
theorem TC.pmatcut {s : SV} {ss : List PV} {c : List PC} (i : Nat) (hi : L[i]? = some (pmat T T2 s ss c)) (k : ss.length = c.length → TC P w0 n I Γ (row Epart T2 s ss :: L.set i (prows T ss c)) cs m D) : TC P w0 n I Γ L cs m D := by
 intro a w hF hS o ho
 obtain ⟨ρA, hA, _⟩ := hS.get hi
 obtain ⟨ρ1, ρ2, _, _, h2⟩ := hA
 exact k (prows_length h2) a w hF (hS.cutp i hi (fun ρ ⟨ρ1, ρ2, h, h1, h2⟩ => ⟨ρ1, ρ2, by rw [h], h1, h2⟩)) o ho
theorem TC.prowsPut {ss : List PV} {c : List PC} {g : Int} {s1 s2 : SV} {y1 y2 : List Int} (k : Nat) (i p q : Nat) (hi : L[i]? = some (row Ei T s1 y1)) (hp : (L.set i emp)[p]? = some (row Ei T s2 y2)) (hq : ((L.set i emp).set p emp)[q]? = some (prows T ss c))
  (kk : TC P w0 n I Γ (((L.set i emp).set p emp).set q (prows T (ss.take k ++ (g, s1, s2) :: ss.drop k) (c.take k ++ (g, y1, y2) :: c.drop k))) cs m D) : TC P w0 n I Γ L cs m D := by
 intro a w hF hS o ho
 refine kk a w hF ?_ o ho
 have h1 := hS.joinp i p (A := fun ρ => ∃ ρ1 ρ2, ρ = ρ1 ++ ρ2 ∧ row Ei T s1 y1 ρ1 ∧ row Ei T s2 y2 ρ2) hi hp (fun ρ1 ρ2 h1 h2 => ⟨ρ1, ρ2, rfl, h1, h2⟩)
 have hpl : p < (L.set i emp).length := (List.getElem?_eq_some_iff.1 hp).1
 have h2 := h1.joinpp p q (A := prows T (ss.take k ++ (g, s1, s2) :: ss.drop k) (c.take k ++ (g, y1, y2) :: c.drop k)) (by rw [List.getElem?_set, if_pos rfl, if_pos hpl]) (C := prows T ss c) (by rw [List.set_set]; exact hq) (by
  rintro ρ1 ρ2 ⟨σ1, σ2, rfl, g1, g2⟩ g3
  exact prows_put k g3 g1 g2)
 rwa [List.set_set] at h2
theorem TC.pmatmk {s : SV} {X Y : List PV} {c c' : List PC} (i k : Nat) (hi : L[i]? = some (row Epart T2 s X)) (hk : (L.set i emp)[k]? = some (prows T Y c)) (hX : X = Y) (hc : c = c') (kk : TC P w0 n I Γ ((L.set i emp).set k (pmat T T2 s X c')) cs m D) : TC P w0 n I Γ L cs m D := by
 subst hX hc
 exact fun a w hF hS o ho => kk a w hF (hS.joinp i k hi hk (fun ρ1 ρ2 h1 h2 => ⟨ρ1, ρ2, rfl, h1, h2⟩)) o ho
theorem drop_all {α : Type} (l : List α) (k : Nat) : (l.drop k).take (l.length - k) = l.drop k := List.take_of_length_le (by simp)
variable {α : Type} {E : FE α}
theorem row_shrink {s : SV} {ys : List α} {ρ} (h : row E T s ys ρ) {l : Nat} (h2 : l ≤ ys.length) : row E T (s.cut 0 l s.c E.sz) ((ys.drop 0).take (l - 0)) ρ := by
 rcases h with ⟨rfl, rfl, rfl⟩ | ⟨b, o, cap, cur, rfl, rfl, g1, g2, g3, g4⟩
 ·have hl : l = 0 := by simpa using h2
  subst hl
  exact .inl ⟨rfl, rfl, rfl⟩
 right
 have hlen : ((ys.drop 0).take (l - 0)).length = l := by simp; omega
 refine ⟨b, o, cap, cur, ?_, rfl, by rw [hlen]; omega, g2, g3, ?_⟩
 ·rw [hlen]
  unfold SV.cut
  by_cases hc : cap = 0
  ·simp [hc]
  simp [hc, add_none]
 rw [hlen, List.drop_zero, Nat.sub_zero, encs_take E ys l (by omega), ← g4, List.take_take]
 congr 1
 have : l * E.sz ≤ ys.length * E.sz := Nat.mul_le_mul_right _ (by omega)
 omega
theorem TC.shrink {s : SV} {ys : List α} {l : Nat} (i : Nat) (hi : L[i]? = some (row E T s ys)) (h2 : l ≤ ys.length) (k : TC P w0 n I Γ (L.set i (row E T (s.cut 0 l s.c E.sz) ((ys.drop 0).take (l - 0)))) cs m D) : TC P w0 n I Γ L cs m D := by
 intro a w hF hS o ho
 refine k a w hF ?_ o ho
 obtain ⟨ρ, hs, hown⟩ := hS.own
 obtain ⟨ρ1, ρA, ρ2, rfl, hA, hset, _⟩ := hs.focus hi
 exact ⟨hS.below, hS.i0, hS.iw, _, hset _ ρA (row_shrink hA h2), hown.nodup, hown.here⟩
end
end Go.Sx
namespace Go.Sx
abbrev oF : Option Bool := some false
abbrev oT : Option Bool := some true
section
variable {P : Program} {w0 : World} {n : Nat} {I : Hp} {Γ : Gm} {L : List Asn} {cs : List Code} {α : Type} {m : Option α} {D : α → Post} {ops : Array Oper} {os : List Oper}
variable {d : Nat} {ty : TypeId} {pos : String} {af : Array Edge} {g : Option (Nat × Bool)}
theorem TL.mv {x : Operand} (v : Value) (k : TL P w0 n I ((d, v) :: Γ) L ops os cs m D) (hg : gd ops Γ ⟨some d, .move x, ty, pos, af, g⟩ = some true := by exact rfl) (hn : Nat.blt d n = true := by exact rfl) (hx : ev Γ x = some v := by exact rfl) :
    TL P w0 n I Γ L ops (⟨some d, .move x, ty, pos, af, g⟩ :: os) cs m D := TL.move hg hn hx k
theorem TL.as {x : Operand} (v : Value) (k : TL P w0 n I ((d, v) :: Γ) L ops os cs m D) (hg : gd ops Γ ⟨some d, .assign x, ty, pos, af, g⟩ = some true := by exact rfl) (hn : Nat.blt d n = true := by exact rfl) (hx : ev Γ x = some v := by exact rfl) :
    TL P w0 n I Γ L ops (⟨some d, .assign x, ty, pos, af, g⟩ :: os) cs m D := TL.assign hg hn hx k
theorem TL.pk {c x y : Operand} (b : Bool) (r : Value) (k : TL P w0 n I ((d, r) :: Γ) L ops os cs m D) (hg : gd ops Γ ⟨some d, .pick c x y, ty, pos, af, g⟩ = some true := by exact rfl) (hn : Nat.blt d n = true := by exact rfl) (hc : ev Γ c = some (.bool b) := by exact rfl) (hr : (bif b then ev Γ x else ev Γ y) = some r := by exact rfl) :
    TL P w0 n I Γ L ops (⟨some d, .pick c x y, ty, pos, af, g⟩ :: os) cs m D := TL.pick hg hn hc hr k
theorem TL.sk {i : Op} (k : TL P w0 n I ((d, undef) :: Γ) L ops os cs m D) (hg : gd ops Γ ⟨some d, i, ty, pos, af, g⟩ = some false := by exact rfl) (hn : d < n := by decide) : TL P w0 n I Γ L ops (⟨some d, i, ty, pos, af, g⟩ :: os) cs m D := TL.skip hg rfl hn k
theorem TL.bn {op : BinOp} {T T2 : TypeId} {x y : Operand} (ki : IntKind) (a b : Int) (v : Value) (k : TL P w0 n I ((d, v) :: Γ) L ops os cs m D) (hg : gd ops Γ ⟨some d, .binOp op T x y T2, ty, pos, af, g⟩ = some true := by exact rfl) (hn : Nat.blt d n = true := by exact rfl)
    (hx : ev Γ x = some (.int ki a) := by exact rfl) (hy : ev Γ y = some (.int ki b) := by exact rfl) (hv : intBin op ki a b = some v := by exact rfl) :
    TL P w0 n I Γ L ops (⟨some d, .binOp op T x y T2, ty, pos, af, g⟩ :: os) cs m D := TL.bin ki a b hg hn hx hy hv k
theorem TL.ll (L' : List Asn) (k : TL P w0 n I Γ L' ops os cs m D) (h : L = L' := by kernel_rfl) : TL P w0 n I Γ L ops os cs m D := TL.asL L' h k
theorem TC.ll (L' : List Asn) (k : TC P w0 n I Γ L' cs m D) (h : L = L' := by kernel_rfl) : TC P w0 n I Γ L cs m D := TC.asL L' h k
theorem TC.n0 {Γ' : Unit → Unit → Gm} {L' : Unit → Unit → List Asn} (js : List Nat) (hΓ : Sub Γ (Γ' () ()) := by exact ⟨rfl, trivial⟩) (hL : ext js L = some (L' () ()) := by kernel_rfl) : TC P w0 n I Γ L [] (some ()) (DNrm w0 n I Γ' L') := TC.nrm () () hΓ js hL
theorem TC.n1 {γ : Type} {Γ' : Unit → List γ → Gm} {L' : Unit → List γ → List Asn} (js : List Nat) (hΓ : Sub Γ (Γ' () []) := by exact ⟨rfl, trivial⟩) (hL : ext js L = some (L' () []) := by kernel_rfl) : TC P w0 n I Γ L [] (some ()) (DNrm w0 n I Γ' L') := TC.nrm () [] hΓ js hL
end
end Go.Sx
