/- SxA: literals of structs and arrays, functions as values, equality of aggregates. -/
import Derived.Test.YtgljkechjkllgaaSx8
namespace Go.Sx
open Go.RowKit

theorem fold_list : ∀ (vs : List Value) (off k : Nat) (cells : Array Value), off + k + vs.length ≤ cells.size →
    ((vs.zipIdx k).foldl (fun cs (p : Value × Nat) => cs.setIfInBounds (off + p.2) p.1) cells).toList = cells.toList.take (off + k) ++ vs ++ cells.toList.drop (off + k + vs.length)
  | [], off, k, cells, h => by simp
  | v :: vs, off, k, cells, h => by
    simp only [List.length_cons] at h
    have hlt : off + k < cells.toList.length := by simp; omega
    rw [List.zipIdx_cons, List.foldl_cons, fold_list vs off (k + 1) _ (by simp; omega)]
    simp only [Array.toList_setIfInBounds, List.length_cons]
    rw [List.drop_set, if_pos (by omega), show off + (k + 1) = off + k + 1 by omega, List.take_add_one, List.getElem?_set_self hlt, List.take_set_of_le (Nat.le_refl _)]
    simp [Nat.add_assoc, Nat.add_comm 1]

theorem fill_step {place : Nat → Option (Nat × Nat)} {cells : Array Value} {i off size : Nat} {vs : List Value} {v : Value} {rest : List (Nat × Value)} {r : Array Value} (hp : place i = some (off, size)) (hv : v.cells = vs.toArray) (hn : vs.length = size) (hle : off + size ≤ cells.size)
    (hrest : Instr.fill place (cells.toList.take off ++ vs ++ cells.toList.drop (off + size)).toArray rest = some r) : Instr.fill place cells ((i, v) :: rest) = some r := by
  unfold Instr.fill
  rw [hp]
  simp only [hv, List.size_toArray, hn]
  have : ¬ (size ≠ size ∨ off + size > cells.size) := by omega
  rw [if_neg (by simpa using hle)]
  rw [← hrest]
  congr 1
  apply Array.ext'
  have h := fold_list vs off 0 cells (by omega)
  rw [← Array.foldl_toList, Array.toList_zipIdx]
  simpa [hn] using h

/-- Parts of a literal, one by one, over the flat segments. -/
theorem fill_one {place : Nat → Option (Nat × Nat)} {segs : List Seg} {i off : Nat} {u v : Value} {rest : List (Nat × Value)} {r : Array Value} (j : Nat) (hp : place i = some (off, 1)) (hc : v.cells = #[v]) (hj : segs[j]? = some (.one u)) (ho : soff segs j = off)
    (hrest : Instr.fill place (flat (segs.set j (.one v))).toArray rest = some r) : Instr.fill place (flat segs).toArray ((i, v) :: rest) = some r := by
  subst ho
  have h2 := flat_get_one hj
  have hlt := (List.getElem?_eq_some_iff.1 h2).1
  refine fill_step (vs := [v]) hp hc rfl (by simp; omega) ?_
  rw [← hrest, ← flat_set_one hj v]
  congr 2
  show (flat segs).take (soff segs j) ++ [v] ++ (flat segs).drop (soff segs j + 1) = _
  rw [List.set_eq_take_append_cons_drop, if_pos hlt]
  simp
theorem fill_arr {β : Type} {e : β → Value} {t : Nat → β} {place : Nat → Option (Nat × Nat)} {segs : List Seg} {i off N q s : Nat} {z : β} {rest : List (Nat × Value)} {r : Array Value} (j : Nat) (hp : place i = some (off, 1)) (hc : (e z).cells = #[e z]) (hj : segs[j]? = some (.arr N (enf e t))) (hq : Nat.blt q N = true) (hs : soff segs j = s) (ho : s + q = off)
    (hrest : Instr.fill place (flat (segs.set j (.arr N (enf e (upd t q z))))).toArray rest = some r) : Instr.fill place (flat segs).toArray ((i, e z) :: rest) = some r := by
  subst hs ho
  replace hq : q < N := by simpa using hq
  have h2 := flat_get_arr hj hq
  have hlt := (List.getElem?_eq_some_iff.1 h2).1
  refine fill_step (vs := [e z]) hp hc rfl (by simp; omega) ?_
  rw [← hrest, ← flat_set_arr hj hq z]
  congr 2
  show (flat segs).take (soff segs j + q) ++ [e z] ++ (flat segs).drop (soff segs j + q + 1) = _
  rw [List.set_eq_take_append_cons_drop, if_pos hlt]
  simp
theorem fill_sub {β : Type} {e : β → Value} {t gg : Nat → β} {place : Nat → Option (Nat × Nat)} {segs : List Seg} {i off N M q s : Nat} {rest : List (Nat × Value)} {r : Array Value} (j : Nat) (hp : place i = some (off, M)) (hj : segs[j]? = some (.arr N (enf e t))) (hq : Nat.ble (q + M) N = true) (hs : soff segs j = s) (ho : s + q = off)
    (hrest : Instr.fill place (flat (segs.set j (.arr N (enf e (updN t q M gg))))).toArray rest = some r) : Instr.fill place (flat segs).toArray ((i, sval [.arr M (enf e gg)]) :: rest) = some r := by
  subst hs ho
  replace hq : q + M ≤ N := Nat.le_of_ble_eq_true hq
  have hM : (flat [Seg.arr M (enf e gg)]).length = M := by simp [flat, Seg.cells]
  refine fill_step (vs := flat [Seg.arr M (enf e gg)]) hp rfl hM ?_ ?_
  · rw [List.size_toArray, flat_cut hj, List.length_append, soff_length, List.length_append, Seg.length_cells]
    simp only [Seg.len]; omega
  · rw [← hrest, ← flat_splice_arr hj hq]
theorem fill_mid {place : Nat → Option (Nat × Nat)} {segs news : List Seg} {i off M : Nat} {rest : List (Nat × Value)} {r : Array Value} (j c : Nat) (hp : place i = some (off, M)) (hl : slen news = slen ((segs.drop j).take c)) (hM : slen news = M) (ho : soff segs j = off)
    (hrest : Instr.fill place (flat (segs.take j ++ news ++ segs.drop (j + c))).toArray rest = some r) : Instr.fill place (flat segs).toArray ((i, sval news) :: rest) = some r := by
  subst ho hM
  refine fill_step (vs := flat news) hp rfl (flat_length _) ?_ ?_
  · rw [List.size_toArray, flat_length, hl]; exact soff_le _ _ _
  · rw [← hrest, ← flat_splice_mid segs news j c hl]

def SzOk (P : Program) : List Field → List Nat → Prop
  | [], [] => True
  | f :: fs, s :: ss => (∀ w, (sizeOf f.type).run P w = .ok s w) ∧ SzOk P fs ss
  | _, _ => False
theorem run_places {P : Program} {w : World} : ∀ {fs : List Field} {ss : List Nat}, SzOk P fs ss → (fs.mapM fun f => do pure (f.offset, ← sizeOf f.type) : Sem (List (Nat × Nat))).run P w = .ok (List.zipWith (fun f s => (f.offset, s)) fs ss) w
  | [], [], _ => rfl
  | [], _ :: _, h => h.elim
  | _ :: _, [], h => h.elim
  | f :: fs, s :: ss, h => by
    rw [List.mapM_cons]
    simp only [Sem.run_bind, Result.andThen_ok, h.1 w, Sem.run_pure, run_places h.2, List.zipWith_cons_cons]

section
variable {P : Program} {w0 : World} {n : Nat} {I : Hp} {Γ : Gm} {L : List Asn} {cs : List Code} {α : Type} {m : Option α} {D : α → Post} {ops : Array Oper} {os : List Oper}
variable {d : Nat} {ty : TypeId} {pos : String} {af : Array Edge} {g : Option (Nat × Bool)}

theorem evp_eq {a : Act} (hF : Fr n Γ a) : ∀ (ps : List (Nat × Operand)) (us : List (Nat × Value)), ps.map (fun p => (p.1, ev Γ p.2)) = us.map (fun p => (p.1, some p.2)) → ps.map (fun p => (p.1, a.eval p.2)) = us
  | [], [], _ => rfl
  | [], _ :: _, h => by simp at h
  | _ :: _, [], h => by simp at h
  | p :: ps, u :: us, h => by
    simp only [List.map_cons, List.cons.injEq, Prod.mk.injEq] at h ⊢
    obtain ⟨⟨h1, h2⟩, h3⟩ := h
    exact ⟨Prod.ext h1 (hF.eval h2), evp_eq hF ps us h3⟩

/-- A struct's literal. -/
theorem TL.buildS {T : TypeId} {parts : Array (Nat × Operand)} {zv : Value} {fs : Array Field} {segs segs0 : List Seg} (szs : List Nat) (hT : P.underlying T = some (.struct fs)) (hsz : SzOk P fs.toList szs) (hzv : ∀ w, (zeroValue T).run P w = .ok zv w) (hz : zv.cells = (flat segs0).toArray)
    (vs : List (Nat × Value)) (hvs : parts.toList.map (fun p => (p.1, ev Γ p.2)) = vs.map (fun p => (p.1, some p.2)))
    (hfill : ∀ pl : Array (Nat × Nat), pl = (List.zipWith (fun f s => (f.offset, s)) fs.toList szs).toArray → Instr.fill (fun i => pl[i]?) (flat segs0).toArray vs = some (flat segs).toArray)
    (hg : gd ops Γ ⟨some d, .build T parts, ty, pos, af, g⟩ = some true) (hn : Nat.blt d n = true)
    (k : TL P w0 n I ((d, sval segs) :: Γ) L ops os cs m D) : TL P w0 n I Γ L ops (⟨some d, .build T parts, ty, pos, af, g⟩ :: os) cs m D := by
  refine .val hg rfl (by simpa using hn) (fun a w hF _ => run_v ?_) k
  have hp : (parts.map fun (p : Nat × Operand) => (p.1, a.eval p.2)).toList = vs := by rw [Array.toList_map]; exact evp_eq hF _ _ hvs
  have hm : (fs.mapM fun f => do pure (f.offset, ← sizeOf f.type) : Sem (Array (Nat × Nat))).run P w = .ok (List.zipWith (fun f s => (f.offset, s)) fs.toList szs).toArray w := by
    rw [Array.mapM_eq_mapM_toList, map_eq_pure_bind, Sem.run_bind, run_places hsz]; rfl
  have hf := hfill _ rfl
  simp only [Instr.build, Sem.run_bind, hzv w, Result.andThen_ok, run_underlying hT, hm, hz]
  rw [hp]
  simp only [hf]
  rfl
/-- An array's literal. -/
theorem TL.buildA {T e : TypeId} {len sz : Nat} {parts : Array (Nat × Operand)} {zv : Value} {segs segs0 : List Seg} (hT : P.underlying T = some (.array len e)) (hsz : ∀ w, (sizeOf e).run P w = .ok sz w) (hzv : ∀ w, (zeroValue T).run P w = .ok zv w) (hz : zv.cells = (flat segs0).toArray)
    (vs : List (Nat × Value)) (hvs : parts.toList.map (fun p => (p.1, ev Γ p.2)) = vs.map (fun p => (p.1, some p.2)))
    (hfill : Instr.fill (fun i => some (i * sz, sz)) (flat segs0).toArray vs = some (flat segs).toArray)
    (hg : gd ops Γ ⟨some d, .build T parts, ty, pos, af, g⟩ = some true) (hn : Nat.blt d n = true)
    (k : TL P w0 n I ((d, sval segs) :: Γ) L ops os cs m D) : TL P w0 n I Γ L ops (⟨some d, .build T parts, ty, pos, af, g⟩ :: os) cs m D := by
  refine .val hg rfl (by simpa using hn) (fun a w hF _ => run_v ?_) k
  have hp : (parts.map fun (p : Nat × Operand) => (p.1, a.eval p.2)).toList = vs := by rw [Array.toList_map]; exact evp_eq hF _ _ hvs
  simp only [Instr.build, Sem.run_bind, hzv w, Result.andThen_ok, run_underlying hT, hsz w, hz]
  rw [hp]
  simp only [hfill]
  rfl

/-! ### functions as values -/
theorem TL.makeFunc {f : FuncId} {fst cap : Array Operand} {us vs : List Value} (hg : gd ops Γ ⟨some d, .makeFunc (.func f) fst cap, ty, pos, af, g⟩ = some true) (hn : Nat.blt d n = true) (hf : evs Γ fst.toList = some us) (hx : evs Γ cap.toList = some vs)
    (k : TL P w0 n I ((d, .func (.func f) us.toArray vs.toArray) :: Γ) L ops os cs m D) : TL P w0 n I Γ L ops (⟨some d, .makeFunc (.func f) fst cap, ty, pos, af, g⟩ :: os) cs m D := by
  refine .val hg rfl (by simpa using hn) (fun a w hF _ => run_v ?_) k
  have h1 : cap.map a.eval = vs.toArray := by
    apply Array.ext'
    simp [hF.evals hx]
  have h0 : fst.map a.eval = us.toArray := by
    apply Array.ext'
    simp [hF.evals hf]
  rw [h1, h0]
  rfl
theorem run_callv {f : FuncId} {fst cap : List Value} {t : Nat} {args : Array Operand} {ts : Array TypeId} {vs : List Value} {dst : Option Nat} (hc : ∀ (args : Array Value) (w : World), (callFunc f args).run P w = .ok (.enter f args) w) {a : Act} (hF : Fr n Γ a) (hf : lk Γ t = some (.func (.func f) fst.toArray cap.toArray)) (hx : evs Γ args.toList = some vs) (w : World) :
    (execOp a.eval ⟨dst, .call { callee := .value (.tmp t), args := args, argTypes := ts }, ty, pos, af, g⟩).run P w = .ok (.enter f (fst ++ vs ++ cap).toArray) w := by
  have h1 : args.map a.eval = vs.toArray := by
    apply Array.ext'
    simp [hF.evals hx]
  have h2 : a.eval (.tmp t) = .func (.func f) fst.toArray cap.toArray := hF.eval (x := .tmp t) hf
  unfold execOp
  simp only [resolve, h1, h2, Deferred.ofValue, Sem.run_bind, Sem.run_pure, Result.andThen_ok, invoke]
  simpa using hc (fst ++ vs ++ cap).toArray w
/-- A call of a function value. -/
theorem TL.callv {β : Type} {f : FuncId} {fst cap : List Value} {t : Nat} {args : Array Operand} {ts : Array TypeId} {vs : List Value} {mf : Option β} {kont : β → Option α} {R : β → Value → List Asn → Prop}
    (hcall : ∀ (args : Array Value) (w : World), (callFunc f args).run P w = .ok (.enter f args) w) (hf : lk Γ t = some (.func (.func f) fst.toArray cap.toArray))
    (hg : gd ops Γ ⟨some d, .call { callee := .value (.tmp t), args := args, argTypes := ts }, ty, pos, af, g⟩ = some true) (hn : Nat.blt d n = true) (hx : evs Γ args.toList = some vs)
    (hc : ∀ w, St w0 I L w → ∀ r, mf = some r → Calls P f (fst ++ vs ++ cap).toArray w (Ret w (R r)))
    (k : ∀ r v L', R r v L' → TL P w0 n I ((d, v) :: Γ) (L' ++ L) ops os cs (kont r) D) :
    TL P w0 n I Γ L ops (⟨some d, .call { callee := .value (.tmp t), args := args, argTypes := ts }, ty, pos, af, g⟩ :: os) cs (mf.bind kont) D := by
  intro a w hF hS r hr
  obtain ⟨r1, hr1, hr2⟩ := Option.bind_eq_some_iff.1 hr
  refine TL.core (m := some r) (D := D) hg (fun a w hF hS r' hr' => ?_) a w hF hS r rfl
  obtain rfl := Option.some.inj hr'
  unfold Oper.wp
  rw [run_callv hcall hF hf hx, Oper.upon_enter]
  refine (hc w hS r1 hr1).mono ?_
  rintro e w' ⟨v, L', rfl, hR, hS'⟩
  exact k r1 v L' hR _ _ (hF.put (by simpa using hn)) (hS.call hS') _ hr2
theorem TL.callvH {β : Type} {f : FuncId} {fst cap : List Value} {t : Nat} {args : Array Operand} {ts : Array TypeId} {vs : List Value} {mf : Option β} {r : β} {R : β → Value → List Asn → Prop} (hr : mf = some r)
    (hcall : ∀ (args : Array Value) (w : World), (callFunc f args).run P w = .ok (.enter f args) w) (hf : lk Γ t = some (.func (.func f) fst.toArray cap.toArray))
    (hg : gd ops Γ ⟨some d, .call { callee := .value (.tmp t), args := args, argTypes := ts }, ty, pos, af, g⟩ = some true) (hn : Nat.blt d n = true) (hx : evs Γ args.toList = some vs)
    (hc : ∀ w, St w0 I L w → ∀ r, mf = some r → Calls P f (fst ++ vs ++ cap).toArray w (Ret w (R r)))
    (k : ∀ v L', R r v L' → TL P w0 n I ((d, v) :: Γ) (L' ++ L) ops os cs m D) :
    TL P w0 n I Γ L ops (⟨some d, .call { callee := .value (.tmp t), args := args, argTypes := ts }, ty, pos, af, g⟩ :: os) cs m D := by
  intro a w hF hS o ho
  refine TL.core (m := some o) (D := D) hg (fun a w hF hS r' hr' => ?_) a w hF hS o rfl
  obtain rfl := Option.some.inj hr'
  unfold Oper.wp
  rw [run_callv hcall hF hf hx, Oper.upon_enter]
  refine (hc w hS r hr).mono ?_
  rintro e w' ⟨v, L', rfl, hR, hS'⟩
  exact k v L' hR _ _ (hF.put (by simpa using hn)) (hS.call hS') _ ho
end
end Go.Sx
