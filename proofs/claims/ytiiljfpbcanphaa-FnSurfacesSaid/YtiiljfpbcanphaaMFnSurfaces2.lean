/- Functions of the program, as pure functions. -/
import Derived.Test.YtiiljfpbcanphaaMFnSurfaces1
import Derived.Test.YtiiljfpbcanphaaProg
/- spec.OrientSurface, as a pure function. -/
set_option linter.unusedVariables false
namespace Go.Proofs.Ytiiljfpbcanphaa.G
open Go Go.Sx Go.Proofs

def spec_OrientSurface.f (s1 : List (List Int)) : Option ((List (List Int)) × Int) := (G.spec_l07Is.f s1).bind (fun r_1 => (bif (!r_1) then some (([] : List (List Int)), 1) else (G.spec_l07Orient.f s1).bind (fun p => match p with | (r_2, r_3) => (bif (!r_3) then some (([] : List (List Int)), 5) else some (r_2, 0)))))

def spec_OrientSurface.R (r : (List (List Int)) × Int) (v : Value) (L : List Asn) : Prop := ∃ (s0 : SV) (ss0 : List SV), v = .tuple #[SV.v s0, .int .i64 r.2] ∧ L = [mat Ei 2 22 s0 ss0 r.1]

set_option maxRecDepth 100000 in
set_option maxHeartbeats 4000000 in
theorem spec_OrientSurface.calls (w : World) (s2 : SV) (ss1 : List SV) (s1 : List (List Int)) (h1 : ReadsM Ei (hp w) s2 ss1 s1) :
  ∀ r, spec_OrientSurface.f s1 = some r → Calls Try.prog 33 #[SV.v s2] w (Ret w (spec_OrientSurface.R r)) := by

 refine calls_T (n := 17) (Γ := [(0, SV.v s2)]) (R := spec_OrientSurface.R) Try.func33 rfl rfl (Nat.le_of_ble_eq_true rfl) ⟨rfl, trivial⟩ ?_
 unfold spec_OrientSurface.f
 refine TC.seq ?_
 refine TC.region ?_
 refine TL.assign rfl rfl (v := SV.v ⟨none, 0, 0⟩) rfl ?_
 refine TL.assign rfl rfl (v := .int .i64 0) rfl ?_
 refine TL.done ?_
 refine TC.seq ?_
 refine TC.seq ?_
 refine TC.region ?_
 refine TL.move rfl rfl (v := SV.v s2) rfl ?_
 refine TL.call (R := G.spec_l07Is.R) Try.call100 rfl rfl rfl (fun w hS => G.spec_l07Is.calls w s2 ss1 s1 ((RdM.old h1) w hS)) ?_
 rintro r_1 _ _ ⟨rfl, rfl⟩
 refine TL.not r_1 rfl rfl rfl ?_
 refine TL.done ?_
 refine TC.cond (b := (!r_1)) rfl (fun c1 => ?_) (fun c2 => ?_)
 ·refine TC.seq ?_
  refine TC.region ?_
  refine TL.assign rfl rfl (v := SV.v ⟨none, 0, 0⟩) rfl ?_
  refine TL.assign rfl rfl (v := .int .i64 1) rfl ?_
  refine TL.done ?_
  refine TC.nilmat Ei 2 22 ?_
  exact TC.retF (Fin.body (fin2 (.inr rfl) rfl (.tmp rfl) (.tmp rfl) [0] rfl ⟨⟨none, 0, 0⟩, [], rfl, rfl⟩))
 ·refine TC.skip ?_
  refine TC.seq ?_
  refine TC.region ?_
  refine TL.move rfl rfl (v := SV.v s2) rfl ?_
  refine TL.call (R := G.spec_l07Orient.R) Try.call101 rfl rfl rfl (fun w hS => G.spec_l07Orient.calls w s2 ss1 s1 ((RdM.old h1) w hS)) ?_
  rintro ⟨r_2, r_3⟩ _ _ ⟨s3, ss2, rfl, rfl⟩
  refine TL.move rfl rfl (v := .tuple #[SV.v s3, .bool r_3]) rfl ?_
  refine TL.extract rfl rfl rfl (v := SV.v s3) rfl ?_
  refine TL.extract rfl rfl rfl (v := .bool r_3) rfl ?_
  refine TL.assign rfl rfl (v := SV.v s3) rfl ?_
  refine TL.assign rfl rfl (v := .bool r_3) rfl ?_
  refine TL.done ?_
  refine TC.seq ?_
  refine TC.seq ?_
  refine TC.region ?_
  refine TL.move rfl rfl (v := .bool r_3) rfl ?_
  refine TL.not r_3 rfl rfl rfl ?_
  refine TL.done ?_
  refine TC.cond (b := (!r_3)) rfl (fun c3 => ?_) (fun c4 => ?_)
  ·refine TC.seq ?_
   refine TC.region ?_
   refine TL.assign rfl rfl (v := SV.v ⟨none, 0, 0⟩) rfl ?_
   refine TL.assign rfl rfl (v := .int .i64 5) rfl ?_
   refine TL.done ?_
   refine TC.nilmat Ei 2 22 ?_
   exact TC.retF (Fin.body (fin2 (.inr rfl) rfl (.tmp rfl) (.tmp rfl) [0] rfl ⟨⟨none, 0, 0⟩, [], rfl, rfl⟩))
  ·refine TC.skip ?_
   refine TC.seq ?_
   refine TC.region ?_
   refine TL.move rfl rfl (v := SV.v s3) rfl ?_
   refine TL.assign rfl rfl (v := SV.v s3) rfl ?_
   refine TL.assign rfl rfl (v := .int .i64 0) rfl ?_
   refine TL.done ?_
   exact TC.retF (Fin.body (fin2 (.inr rfl) rfl (.tmp rfl) (.tmp rfl) [0] rfl ⟨s3, ss2, rfl, rfl⟩))

end Go.Proofs.Ytiiljfpbcanphaa.G

/- impl.in, as a pure function. -/
set_option linter.unusedVariables false
namespace Go.Proofs.Ytiiljfpbcanphaa.G
open Go Go.Sx Go.Proofs

def impl_in.f (n_1 : Int) (low1 : Int) (high1 : Int) : Option Bool := some ((decide (n_1 ≥ low1)) && (decide (n_1 ≤ high1)))

def impl_in.R (r : Bool) (v : Value) (L : List Asn) : Prop := v = .bool r ∧ L = []

set_option maxRecDepth 100000 in
set_option maxHeartbeats 4000000 in
theorem impl_in.calls (w : World) (n_1 : Int) (low1 : Int) (high1 : Int) :
  ∀ r, impl_in.f n_1 low1 high1 = some r → Calls Try.prog 72 #[.int .i64 n_1, .int .i64 low1, .int .i64 high1] w (Ret w (impl_in.R r)) := by

 refine calls_T (n := 15) (Γ := [(0, .int .i64 n_1), (1, .int .i64 low1), (2, .int .i64 high1)]) (R := impl_in.R) Try.func72 rfl rfl (Nat.le_of_ble_eq_true rfl) ⟨rfl, rfl, rfl, trivial⟩ ?_
 unfold impl_in.f
 refine TC.seq ?_
 refine TC.region ?_
 refine TL.assign rfl rfl (v := .bool false) rfl ?_
 refine TL.done ?_
 refine TC.seq ?_
 refine TC.region ?_
 refine TL.move rfl rfl (v := .int .i64 n_1) rfl ?_
 refine TL.move rfl rfl (v := .int .i64 low1) rfl ?_
 refine TL.bin .i64 n_1 low1 rfl rfl rfl rfl (v := .bool (decide (n_1 ≥ low1))) rfl ?_
 refine TL.move rfl rfl (v := .bool (decide (n_1 ≥ low1))) rfl ?_
 refine TL.cutU 4 [(14, .bool ((decide (n_1 ≥ low1)) && (decide (n_1 ≤ high1)))), (0, .int .i64 n_1), (1, .int .i64 low1), (2, .int .i64 high1), (6, .bool false), (7, .int .i64 n_1), (8, .int .i64 low1), (9, .bool (decide (n_1 ≥ low1))), (10, .bool (decide (n_1 ≥ low1)))] [] ?_ ?_
 ·refine TL.cases (t := 10) (b := (decide (n_1 ≥ low1))) rfl (fun c1 => ?_) (fun c2 => ?_)
  ·refine TL.move rfl rfl (v := .int .i64 n_1) rfl ?_
   refine TL.move rfl rfl (v := .int .i64 high1) rfl ?_
   refine TL.bin .i64 n_1 high1 rfl rfl rfl rfl (v := .bool (decide (n_1 ≤ high1))) rfl ?_
   refine TL.pick rfl rfl (b := true) rfl (r := .bool (decide (n_1 ≤ high1))) rfl ?_
   refine TL.done ?_
   exact TC.nrm () () ⟨(by rw [c1]; rfl), rfl, rfl, rfl, rfl, rfl, rfl, rfl, (by rw [c1]; rfl), trivial⟩ [] (by kernel_rfl)
  ·refine TL.skip rfl rfl (by decide) ?_
   refine TL.skip rfl rfl (by decide) ?_
   refine TL.skip rfl rfl (by decide) ?_
   refine TL.pick rfl rfl (b := false) rfl (r := .bool false) rfl ?_
   refine TL.done ?_
   exact TC.nrm () () ⟨(by rw [c2]; rfl), rfl, rfl, rfl, rfl, rfl, rfl, rfl, (by rw [c2]; rfl), trivial⟩ [] (by kernel_rfl)
 ·refine TL.assign rfl rfl (v := .bool ((decide (n_1 ≥ low1)) && (decide (n_1 ≤ high1)))) rfl ?_
  refine TL.done ?_
  exact TC.retF (Fin.body (fin1 (.inr rfl) rfl (.tmp rfl) [] rfl ⟨rfl, rfl⟩))

end Go.Proofs.Ytiiljfpbcanphaa.G

/- slices.IndexFunc[[]int64,int64], as a pure function. -/
set_option linter.unusedVariables false
namespace Go.Proofs.Ytiiljfpbcanphaa.G
open Go Go.Sx Go.Proofs

def slices_IndexFunc_int64_int64.b0 (s1 : List Int) (f2 : Int → Option Bool) : Int → Option (LR Int Int) := fun x1 => (bif (decide (x1 < (s1.length : Int))) then chk x1 s1.length ((f2 (gt s1 x1)).bind (fun r_1 => (bif r_1 then some (.ret (x1)) else some (.next (w64 (x1 + 1)))))) else some (.brk x1))

def slices_IndexFunc_int64_int64.f (s1 : List Int) (f2 : Int → Option Bool) : Option Int := (loop (slices_IndexFunc_int64_int64.b0 s1 f2) 0).bind (ln (fun x1 => some (-1)))

def slices_IndexFunc_int64_int64.R (r : Int) (v : Value) (L : List Asn) : Prop := v = .int .i64 r ∧ L = []

set_option maxRecDepth 100000 in
set_option maxHeartbeats 4000000 in
theorem slices_IndexFunc_int64_int64.calls (w : World) (s2 : SV) (s1 : List Int) (f1 : Nat) (fst1 : List Value) (cap1 : List Value) (f2 : Int → Option Bool) (h1 : Reads Ei (hp w) s2 s1) (hc1 : ∀ (args_ : Array Value) (w_ : World), (callFunc f1 args_).run Try.prog w_ = .ok (.enter f1 args_) w_) (hf1 : ∀ w_, Hle (hp w) (hp w_) → ∀ (x0_ : Int), ∀ r_, f2 x0_ = some r_ → Calls Try.prog f1 (fst1 ++ ([.int .i64 x0_] : List Value) ++ cap1).toArray w_ (Ret w_ (fun (v_ : Value) (L_ : List Asn) => v_ = .bool r_ ∧ L_ = []))) :
  ∀ r, slices_IndexFunc_int64_int64.f s1 f2 = some r → Calls Try.prog 150 #[SV.v s2, .func (.func f1) fst1.toArray cap1.toArray] w (Ret w (slices_IndexFunc_int64_int64.R r)) := by

 refine calls_T (n := 19) (Γ := [(0, SV.v s2), (1, .func (.func f1) fst1.toArray cap1.toArray)]) (R := slices_IndexFunc_int64_int64.R) Try.func150 rfl rfl (Nat.le_of_ble_eq_true rfl) ⟨rfl, rfl, trivial⟩ ?_
 unfold slices_IndexFunc_int64_int64.f
 refine TC.seq ?_
 refine TC.region ?_
 refine TL.assign rfl rfl (v := .int .i64 0) rfl ?_
 refine TL.done ?_
 refine TC.seq ?_
 refine TC.seq ?_
 refine TC.region ?_
 refine TL.move rfl rfl (v := SV.v s2) rfl ?_
 refine TL.len (Rd.old h1) Try.underlying22 rfl rfl rfl ?_
 refine TL.move rfl rfl (v := .int .i64 0) rfl ?_
 refine TL.done ?_
 refine TC.loopK (σ := Int) (γ := Unit) (Γ' := (fun x1 _ => [(0, SV.v s2), (1, .func (.func f1) fst1.toArray cap1.toArray), (7, .int .i64 (s1.length : Int)), (8, .int .i64 x1)])) (L' := (fun x1 _ => [])) (Γb := (fun x1 _ => [(0, SV.v s2), (1, .func (.func f1) fst1.toArray cap1.toArray), (7, .int .i64 (s1.length : Int)), (8, .int .i64 x1)])) (Lb := (fun x1 _ => [])) (0) (()) ⟨rfl, rfl, rfl, rfl, trivial⟩ [] rfl ?_ ?_
 ·rintro x1 _
  refine TC.seq ?_
  refine TC.region ?_
  refine TL.bin .i64 x1 (s1.length : Int) rfl rfl rfl rfl (v := .bool (decide (x1 < (s1.length : Int)))) rfl ?_
  refine TL.done ?_
  refine TC.seq ?_
  refine TC.cond (b := (decide (x1 < (s1.length : Int)))) rfl (fun c1 => ?_) (fun c2 => ?_)
  ·refine TC.skip ?_
   refine TC.seq ?_
   refine TC.block (NoEx.loop rfl NoEx.body) ?_
   refine TC.seq ?_
   refine TC.region ?_
   refine TL.move rfl rfl (v := .int .i64 x1) rfl ?_
   refine TL.assign rfl rfl (v := .int .i64 x1) rfl ?_
   refine TL.done ?_
   refine TC.seq ?_
   refine TC.region ?_
   refine TL.move rfl rfl (v := .func (.func f1) fst1.toArray cap1.toArray) rfl ?_
   refine TL.move rfl rfl (v := SV.v s2) rfl ?_
   refine TL.move rfl rfl (v := .int .i64 x1) rfl ?_
   refine TL.chk fun h2 => ?_
   refine TL.ixs x1 x1.toNat (Rd.old h1) h2 Try.underlying22 Try.sizeOf2 rfl rfl rfl rfl (by omega) ?_
   refine TL.loadE (Rd.old h1) Try.isAgg2 x1.toNat 0 (gt_spec h2) (v := .int .i64 (gt s1 x1)) rfl (by simp only [show Ei.sz = 1 from rfl] <;> omega) rfl rfl rfl ?_
   refine TL.callv (R := (fun r_ => (fun (v_ : Value) (L_ : List Asn) => v_ = .bool r_ ∧ L_ = []))) (vs := [.int .i64 (gt s1 x1)]) hc1 rfl rfl rfl rfl (fun w hS => hf1 w hS.iw (gt s1 x1)) ?_
   rintro r_1 _ _ ⟨rfl, rfl⟩
   refine TL.done ?_
   refine TC.cond (b := r_1) rfl (fun c3 => ?_) (fun c4 => ?_)
   ·refine TC.seq ?_
    refine TC.region ?_
    refine TL.move rfl rfl (v := .int .i64 x1) rfl ?_
    refine TL.assign rfl rfl (v := .int .i64 x1) rfl ?_
    refine TL.done ?_
    exact TC.retF (Fin.loop Far.ret (Fin.body (fin1 (.inr rfl) rfl (.tmp rfl) [] rfl ⟨rfl, rfl⟩)))
   ·refine TC.skip ?_
    refine TC.region ?_
    refine TL.bin .i64 x1 1 rfl rfl rfl rfl (v := .int .i64 (w64 (x1 + 1))) rfl ?_
    refine TL.move rfl rfl (v := .int .i64 (w64 (x1 + 1))) rfl ?_
    refine TL.done ?_
    exact TC.next ((w64 (x1 + 1))) (()) ⟨rfl, rfl, rfl, rfl, trivial⟩ [] rfl
  ·exact TC.brk (x1) (()) ⟨rfl, rfl, rfl, rfl, trivial⟩ [] rfl
 ·rintro x1 _
  refine TC.seq ?_
  refine TC.region ?_
  refine TL.assign rfl rfl (v := .int .i64 (-1)) rfl ?_
  refine TL.done ?_
  exact TC.retF (Fin.body (fin1 (.inr rfl) rfl (.tmp rfl) [] rfl ⟨rfl, rfl⟩))

end Go.Proofs.Ytiiljfpbcanphaa.G

/- slices.ContainsFunc[[]int64,int64], as a pure function. -/
set_option linter.unusedVariables false
namespace Go.Proofs.Ytiiljfpbcanphaa.G
open Go Go.Sx Go.Proofs

def slices_ContainsFunc_int64_int64.f (s1 : List Int) (f2 : Int → Option Bool) : Option Bool := (G.slices_IndexFunc_int64_int64.f s1 f2).bind (fun r_1 => some (decide (r_1 ≥ 0)))

def slices_ContainsFunc_int64_int64.R (r : Bool) (v : Value) (L : List Asn) : Prop := v = .bool r ∧ L = []

set_option maxRecDepth 100000 in
set_option maxHeartbeats 4000000 in
theorem slices_ContainsFunc_int64_int64.calls (w : World) (s2 : SV) (s1 : List Int) (f1 : Nat) (fst1 : List Value) (cap1 : List Value) (f2 : Int → Option Bool) (h1 : Reads Ei (hp w) s2 s1) (hc1 : ∀ (args_ : Array Value) (w_ : World), (callFunc f1 args_).run Try.prog w_ = .ok (.enter f1 args_) w_) (hf1 : ∀ w_, Hle (hp w) (hp w_) → ∀ (x0_ : Int), ∀ r_, f2 x0_ = some r_ → Calls Try.prog f1 (fst1 ++ ([.int .i64 x0_] : List Value) ++ cap1).toArray w_ (Ret w_ (fun (v_ : Value) (L_ : List Asn) => v_ = .bool r_ ∧ L_ = []))) :
  ∀ r, slices_ContainsFunc_int64_int64.f s1 f2 = some r → Calls Try.prog 103 #[SV.v s2, .func (.func f1) fst1.toArray cap1.toArray] w (Ret w (slices_ContainsFunc_int64_int64.R r)) := by

 refine calls_T (n := 9) (Γ := [(0, SV.v s2), (1, .func (.func f1) fst1.toArray cap1.toArray)]) (R := slices_ContainsFunc_int64_int64.R) Try.func103 rfl rfl (Nat.le_of_ble_eq_true rfl) ⟨rfl, rfl, trivial⟩ ?_
 unfold slices_ContainsFunc_int64_int64.f
 refine TC.seq ?_
 refine TC.region ?_
 refine TL.assign rfl rfl (v := .bool false) rfl ?_
 refine TL.done ?_
 refine TC.seq ?_
 refine TC.region ?_
 refine TL.move rfl rfl (v := SV.v s2) rfl ?_
 refine TL.move rfl rfl (v := .func (.func f1) fst1.toArray cap1.toArray) rfl ?_
 refine TL.call (R := G.slices_IndexFunc_int64_int64.R) Try.call150 rfl rfl rfl (fun w hS => G.slices_IndexFunc_int64_int64.calls w s2 s1 f1 fst1 cap1 f2 ((Rd.old h1) w hS) hc1 (fun w_ hle_ => hf1 w_ (hS.iw.trans hle_))) ?_
 rintro r_1 _ _ ⟨rfl, rfl⟩
 refine TL.bin .i64 r_1 0 rfl rfl rfl rfl (v := .bool (decide (r_1 ≥ 0))) rfl ?_
 refine TL.assign rfl rfl (v := .bool (decide (r_1 ≥ 0))) rfl ?_
 refine TL.done ?_
 exact TC.retF (Fin.body (fin1 (.inr rfl) rfl (.tmp rfl) [] rfl ⟨rfl, rfl⟩))

end Go.Proofs.Ytiiljfpbcanphaa.G

/- impl.edgesOf, as a pure function. -/
set_option linter.unusedVariables false
namespace Go.Proofs.Ytiiljfpbcanphaa.G
open Go Go.Sx Go.Proofs

def impl_edgesOf.f (s1 : List (List Int)) : Option Int := some (w64 (Int.tdiv (w64 ((s1.length : Int) * 3)) 2))

def impl_edgesOf.R (r : Int) (v : Value) (L : List Asn) : Prop := v = .int .i64 r ∧ L = []

set_option maxRecDepth 100000 in
set_option maxHeartbeats 4000000 in
theorem impl_edgesOf.calls (w : World) (s2 : SV) (ss1 : List SV) (s1 : List (List Int)) (h1 : ReadsM Ei (hp w) s2 ss1 s1) :
  ∀ r, impl_edgesOf.f s1 = some r → Calls Try.prog 118 #[SV.v s2] w (Ret w (impl_edgesOf.R r)) := by

 refine calls_T (n := 7) (Γ := [(0, SV.v s2)]) (R := impl_edgesOf.R) Try.func118 rfl rfl (Nat.le_of_ble_eq_true rfl) ⟨rfl, trivial⟩ ?_
 unfold impl_edgesOf.f
 refine TC.seq ?_
 refine TC.region ?_
 refine TL.assign rfl rfl (v := .int .i64 0) rfl ?_
 refine TL.done ?_
 refine TC.seq ?_
 refine TC.region ?_
 refine TL.move rfl rfl (v := SV.v s2) rfl ?_
 refine TL.lenM (RdM.old h1) Try.underlying32 rfl rfl rfl ?_
 refine TL.bin .i64 (s1.length : Int) 3 rfl rfl rfl rfl (v := .int .i64 (w64 ((s1.length : Int) * 3))) rfl ?_
 refine TL.quo .i64 (w64 ((s1.length : Int) * 3)) 2 (by decide) rfl rfl rfl rfl ?_
 refine TL.assign rfl rfl (v := .int .i64 (w64 (Int.tdiv (w64 ((s1.length : Int) * 3)) 2))) rfl ?_
 refine TL.done ?_
 exact TC.retF (Fin.body (fin1 (.inr rfl) rfl (.tmp rfl) [] rfl ⟨rfl, rfl⟩))

end Go.Proofs.Ytiiljfpbcanphaa.G

/- impl.size, as a pure function. -/
set_option linter.unusedVariables false
namespace Go.Proofs.Ytiiljfpbcanphaa.G
open Go Go.Sx Go.Proofs

def impl_size.f (k_1 : Int) : Option Int := some (if (w64 (0 - k_1)) > k_1 then (w64 (0 - k_1)) else k_1)

def impl_size.R (r : Int) (v : Value) (L : List Asn) : Prop := v = .int .i64 r ∧ L = []

set_option maxRecDepth 100000 in
set_option maxHeartbeats 4000000 in
theorem impl_size.calls (w : World) (k_1 : Int) :
  ∀ r, impl_size.f k_1 = some r → Calls Try.prog 167 #[.int .i64 k_1] w (Ret w (impl_size.R r)) := by

 refine calls_T (n := 7) (Γ := [(0, .int .i64 k_1)]) (R := impl_size.R) Try.func167 rfl rfl (Nat.le_of_ble_eq_true rfl) ⟨rfl, trivial⟩ ?_
 unfold impl_size.f
 refine TC.seq ?_
 refine TC.region ?_
 refine TL.assign rfl rfl (v := .int .i64 0) rfl ?_
 refine TL.done ?_
 refine TC.seq ?_
 refine TC.region ?_
 refine TL.move rfl rfl (v := .int .i64 k_1) rfl ?_
 refine TL.move rfl rfl (v := .int .i64 k_1) rfl ?_
 refine TL.neg .i64 k_1 rfl rfl rfl ?_
 refine TL.max2 rfl rfl rfl rfl ?_
 refine TL.assign rfl rfl (v := .int .i64 (if (w64 (0 - k_1)) > k_1 then (w64 (0 - k_1)) else k_1)) rfl ?_
 refine TL.done ?_
 exact TC.retF (Fin.body (fin1 (.inr rfl) rfl (.tmp rfl) [] rfl ⟨rfl, rfl⟩))

end Go.Proofs.Ytiiljfpbcanphaa.G

/- impl.sidesOfEdges, as a pure function. -/
set_option linter.unusedVariables false
namespace Go.Proofs.Ytiiljfpbcanphaa.G
open Go Go.Sx Go.Proofs

def impl_sidesOfEdges.b0 (s1 : List (List Int)) (x1 : Int) : (List (List (Int × Int))) × Int → Option (LB ((List (List (Int × Int))) × Int)) := fun p => match p with | (out2, x2) => (bif (decide (x2 < ((gt s1 x1).length : Int))) then chk x2 ((gt s1 x1).length) ((G.impl_size.f (gt (gt s1 x1) x2)).bind (fun r_2 => chk r_2 out2.length (small ((gt out2 r_2).length + ([(x1, x2)] : List (Int × Int)).length) (some (.next ((out2.set r_2.toNat ((gt out2 r_2) ++ ([(x1, x2)] : List (Int × Int)))), (w64 (x2 + 1)))))))) else some (.brk (out2, x2)))

def impl_sidesOfEdges.b1 (s1 : List (List Int)) : (List (List (Int × Int))) × Int → Option (LB ((List (List (Int × Int))) × Int)) := fun p => match p with | (out1, x1) => (bif (decide (x1 < (s1.length : Int))) then chk x1 s1.length ((loop1 (impl_sidesOfEdges.b0 s1 x1) (out1, 0)).bind (fun p => match p with | (out2, x2) => some (.next (out2, (w64 (x1 + 1)))))) else some (.brk (out1, x1)))

def impl_sidesOfEdges.f (s1 : List (List Int)) : Option (List (List (Int × Int))) := (G.impl_edgesOf.f s1).bind (fun r_1 => grd (decide (0 ≤ (w64 (r_1 + 1)))) (small (w64 (r_1 + 1)).toNat ((loop1 (impl_sidesOfEdges.b1 s1) ((List.replicate (w64 (r_1 + 1)).toNat ([] : List (Int × Int))), 0)).bind (fun p => match p with | (out1, x1) => some out1))))

def impl_sidesOfEdges.R (r : List (List (Int × Int))) (v : Value) (L : List Asn) : Prop := ∃ (s0 : SV) (ss0 : List SV), v = SV.v s0 ∧ L = [mat Eii 108 104 s0 ss0 r]

set_option maxRecDepth 100000 in
set_option maxHeartbeats 4000000 in
theorem impl_sidesOfEdges.calls (w : World) (s2 : SV) (ss1 : List SV) (s1 : List (List Int)) (h1 : ReadsM Ei (hp w) s2 ss1 s1) :
  ∀ r, impl_sidesOfEdges.f s1 = some r → Calls Try.prog 119 #[SV.v s2] w (Ret w (impl_sidesOfEdges.R r)) := by

 refine calls_T (n := 43) (Γ := [(0, SV.v s2)]) (R := impl_sidesOfEdges.R) Try.func119 rfl rfl (Nat.le_of_ble_eq_true rfl) ⟨rfl, trivial⟩ ?_
 unfold impl_sidesOfEdges.f
 refine TC.seq ?_
 refine TC.region ?_
 refine TL.assign rfl rfl (v := SV.v ⟨none, 0, 0⟩) rfl ?_
 refine TL.done ?_
 refine TC.seq ?_
 refine TC.region ?_
 refine TL.move rfl rfl (v := SV.v s2) rfl ?_
 refine TL.call (R := G.impl_edgesOf.R) Try.call118 rfl rfl rfl (fun w hS => G.impl_edgesOf.calls w s2 ss1 s1 ((RdM.old h1) w hS)) ?_
 rintro r_1 _ _ ⟨rfl, rfl⟩
 refine TL.bin .i64 r_1 1 rfl rfl rfl rfl (v := .int .i64 (w64 (r_1 + 1))) rfl ?_
 refine TL.grd fun h3 => ?_
 refine TL.small fun h2 => ?_
 refine TL.mkslice Ev (⟨none, 0, 0⟩ : SV) (w64 (r_1 + 1)) Try.underlying105 (info_of Try.type104) (zv := (Try.t104.zero.getD (.bool false))) rfl rfl rfl (by simp [Ev]) (by decide) (by simpa using h3) (by omega) rfl rfl rfl rfl fun s3 => ?_
 refine TL.rowsRep Eii 108 ((w64 (r_1 + 1)).toNat) ?_
 refine TL.matmk 1 0 rfl rfl ?_
 refine TL.drop 1 rfl ?_
 refine TL.asL [mat Eii 108 104 s3 (List.replicate (w64 (r_1 + 1)).toNat (⟨none, 0, 0⟩ : SV)) (List.replicate (w64 (r_1 + 1)).toNat ([] : List (Int × Int)))] rfl ?_
 refine TL.assign rfl rfl (v := SV.v s3) rfl ?_
 refine TL.done ?_
 refine TC.seq ?_
 refine TC.seq ?_
 refine TC.region ?_
 refine TL.move rfl rfl (v := SV.v s2) rfl ?_
 refine TL.lenM (RdM.old h1) Try.underlying32 rfl rfl rfl ?_
 refine TL.move rfl rfl (v := .int .i64 0) rfl ?_
 refine TL.done ?_
 refine TC.loop1 (σ := (List (List (Int × Int))) × Int) (γ := (List SV)) (Γ' := (fun p q => match p, q with | (out1, x1), ss2 => [(3, SV.v s3), (12, SV.v s2), (13, .int .i64 (s1.length : Int)), (14, .int .i64 x1)])) (L' := (fun p q => match p, q with | (out1, x1), ss2 => [mat Eii 108 104 s3 ss2 out1])) (Γb := (fun p q => match p, q with | (out1, x1), ss2 => [(3, SV.v s3), (12, SV.v s2), (13, .int .i64 (s1.length : Int)), (14, .int .i64 x1)])) (Lb := (fun p q => match p, q with | (out1, x1), ss2 => [mat Eii 108 104 s3 ss2 out1])) (((List.replicate (w64 (r_1 + 1)).toNat ([] : List (Int × Int))), 0)) ((List.replicate (w64 (r_1 + 1)).toNat (⟨none, 0, 0⟩ : SV))) ⟨rfl, rfl, rfl, rfl, trivial⟩ [0] rfl ?_ ?_
 ·rintro ⟨out1, x1⟩ ss2
  refine TC.seq ?_
  refine TC.region ?_
  refine TL.bin .i64 x1 (s1.length : Int) rfl rfl rfl rfl (v := .bool (decide (x1 < (s1.length : Int)))) rfl ?_
  refine TL.done ?_
  refine TC.seq ?_
  refine TC.cond (b := (decide (x1 < (s1.length : Int)))) rfl (fun c1 => ?_) (fun c2 => ?_)
  ·refine TC.skip ?_
   refine TC.seq ?_
   refine TC.block (NoEx.loop1 rfl) ?_
   refine TC.seq ?_
   refine TC.region ?_
   refine TL.move rfl rfl (v := .int .i64 x1) rfl ?_
   refine TL.chk fun h4 => ?_
   refine TL.ixsM x1 x1.toNat (RdM.old h1) h4 Try.underlying32 Try.sizeOf22 rfl rfl rfl rfl (by omega) ?_
   refine TL.loadM2 (RdM.old h1) Try.isAgg22 x1 h4 (by omega) rfl rfl rfl ?_
   refine TL.assign rfl rfl (v := .int .i64 x1) rfl ?_
   refine TL.assign rfl rfl (v := SV.v (gt ss1 x1)) rfl ?_
   refine TL.done ?_
   refine TC.seq ?_
   refine TC.region ?_
   refine TL.move rfl rfl (v := SV.v (gt ss1 x1)) rfl ?_
   refine TL.len (RdM.inn (RdM.old h1) h4) Try.underlying22 rfl rfl rfl ?_
   refine TL.move rfl rfl (v := .int .i64 0) rfl ?_
   refine TL.done ?_
   refine TC.loop1 (σ := (List (List (Int × Int))) × Int) (γ := (List SV)) (Γ' := (fun p q => match p, q with | (out2, x2), ss3 => [(3, SV.v s3), (4, .int .i64 x1), (12, SV.v s2), (13, .int .i64 (s1.length : Int)), (14, .int .i64 x1), (19, SV.v (gt ss1 x1)), (20, .int .i64 ((gt s1 x1).length : Int)), (21, .int .i64 x2)])) (L' := (fun p q => match p, q with | (out2, x2), ss3 => [mat Eii 108 104 s3 ss3 out2])) (Γb := (fun p q => match p, q with | (out2, x2), ss3 => [(3, SV.v s3), (4, .int .i64 x1), (12, SV.v s2), (13, .int .i64 (s1.length : Int)), (14, .int .i64 x1), (19, SV.v (gt ss1 x1)), (20, .int .i64 ((gt s1 x1).length : Int)), (21, .int .i64 x2)])) (Lb := (fun p q => match p, q with | (out2, x2), ss3 => [mat Eii 108 104 s3 ss3 out2])) ((out1, 0)) (ss2) ⟨rfl, rfl, rfl, rfl, rfl, rfl, rfl, rfl, trivial⟩ [0] rfl ?_ ?_
   ·rintro ⟨out2, x2⟩ ss3
    refine TC.seq ?_
    refine TC.region ?_
    refine TL.bin .i64 x2 ((gt s1 x1).length : Int) rfl rfl rfl rfl (v := .bool (decide (x2 < ((gt s1 x1).length : Int)))) rfl ?_
    refine TL.done ?_
    refine TC.seq ?_
    refine TC.cond (b := (decide (x2 < ((gt s1 x1).length : Int)))) rfl (fun c3 => ?_) (fun c4 => ?_)
    ·refine TC.skip ?_
     refine TC.seq ?_
     refine TC.block (NoEx.loop1 rfl) ?_
     refine TC.seq ?_
     refine TC.region ?_
     refine TL.move rfl rfl (v := .int .i64 x2) rfl ?_
     refine TL.chk fun h5 => ?_
     refine TL.ixs x2 x2.toNat (RdM.inn (RdM.old h1) h4) h5 Try.underlying22 Try.sizeOf2 rfl rfl rfl rfl (by omega) ?_
     refine TL.loadE (RdM.inn (RdM.old h1) h4) Try.isAgg2 x2.toNat 0 (gt_spec h5) (v := .int .i64 (gt (gt s1 x1) x2)) rfl (by simp only [show Ei.sz = 1 from rfl] <;> omega) rfl rfl rfl ?_
     refine TL.assign rfl rfl (v := .int .i64 x2) rfl ?_
     refine TL.assign rfl rfl (v := .int .i64 (gt (gt s1 x1) x2)) rfl ?_
     refine TL.done ?_
     refine TC.region ?_
     refine TL.move rfl rfl (v := SV.v s3) rfl ?_
     refine TL.move rfl rfl (v := .int .i64 (gt (gt s1 x1) x2)) rfl ?_
     refine TL.bindE ?_
     rintro r_2 hr1
     refine TL.callH (R := G.impl_size.R) hr1 Try.call167 rfl rfl rfl (fun w hS => G.impl_size.calls w (gt (gt s1 x1) x2)) ?_
     rintro _ _ ⟨rfl, rfl⟩
     refine TL.move rfl rfl (v := SV.v s3) rfl ?_
     refine TL.move rfl rfl (v := .int .i64 (gt (gt s1 x1) x2)) rfl ?_
     refine TL.callH (R := G.impl_size.R) hr1 Try.call167 rfl rfl rfl (fun w hS => G.impl_size.calls w (gt (gt s1 x1) x2)) ?_
     rintro _ _ ⟨rfl, rfl⟩
     refine TL.chk fun h6 => ?_
     refine TL.ixsM r_2 r_2.toNat (RdM.mat 0 rfl) h6 Try.underlying105 Try.sizeOf104 rfl rfl rfl rfl (by omega) ?_
     refine TL.loadM2 (RdM.mat 0 rfl) Try.isAgg104 r_2 h6 (by omega) rfl rfl rfl ?_
     refine TL.move rfl rfl (v := .int .i64 x1) rfl ?_
     refine TL.move rfl rfl (v := .int .i64 x2) rfl ?_
     refine TL.buildS (segs0 := [.one (.int .i64 0), .one (.int .i64 0)]) (segs := [.one (.int .i64 x1), .one (.int .i64 x2)]) [1, 1] Try.underlying108 ⟨Try.sizeOf3, Try.sizeOf3, trivial⟩ Try.zeroValue108 rfl [(0, .int .i64 x1), (1, .int .i64 x2)] rfl (fun pl hpl => by subst hpl; exact fill_one 0 rfl rfl rfl rfl (fill_one 1 rfl rfl rfl rfl (rfl))) rfl rfl ?_
     refine TL.blit Eii ([(x1, x2)] : List (Int × Int)) Try.underlying104 Try.sizeOf108 Try.zeroValue108 rfl rfl rfl [(0, sval [.one (.int .i64 x1), .one (.int .i64 x2)])] rfl ⟨rfl, rfl, trivial⟩ rfl rfl fun s4 => ?_
     refine TL.matopen 1 r_2 rfl h6 ?_
     refine TL.small fun h7 => ?_
     refine TL.append 0 rfl (Rd.row 1 rfl) Try.underlying104 (info_of Try.type108) (zv := (Try.t108.zero.getD (.bool false))) rfl rfl rfl (by decide) h7 rfl rfl rfl rfl fun s5 => ?_
     refine TL.ixsX r_2 r_2.toNat 2 rfl h6 Try.underlying105 Try.sizeOf104 rfl rfl rfl rfl (by omega) ?_
     refine TL.matXlen 2 rfl fun h8 => ?_
     refine TL.matXcut 2 rfl ?_
     refine TL.stE 0 (r_2.toNat) s5 (v := SV.v s5) rfl Try.sizeOf104 rfl rfl rfl (by have h_ := h6; have l_ := h8; (try simp only [List.length_set] at h_ l_ ⊢); omega) (by simp only [show Ev.sz = 1 from rfl] <;> omega) rfl rfl rfl ?_
     refine TL.rowsPut 1 3 rfl rfl ?_
     refine TL.matmk 0 3 rfl rfl ?_
     refine TL.drop 0 rfl ?_
     refine TL.asL [emp, row Eii 108 s4 ([(x1, x2)] : List (Int × Int)), mat Eii 108 104 s3 (ss3.set r_2.toNat s5) (out2.set r_2.toNat ((gt out2 r_2) ++ ([(x1, x2)] : List (Int × Int))))] (by kernel_rfl) ?_
     refine TL.done ?_
     refine TC.region ?_
     refine TL.bin .i64 x2 1 rfl rfl rfl rfl (v := .int .i64 (w64 (x2 + 1))) rfl ?_
     refine TL.move rfl rfl (v := .int .i64 (w64 (x2 + 1))) rfl ?_
     refine TL.done ?_
     exact TC.next1 (((out2.set r_2.toNat ((gt out2 r_2) ++ ([(x1, x2)] : List (Int × Int)))), (w64 (x2 + 1)))) ((ss3.set r_2.toNat s5)) ⟨rfl, rfl, rfl, rfl, rfl, rfl, rfl, rfl, trivial⟩ [2] rfl
    ·exact TC.brk1 ((out2, x2)) (ss3) ⟨rfl, rfl, rfl, rfl, rfl, rfl, rfl, rfl, trivial⟩ [0] rfl
   ·rintro ⟨out2, x2⟩ ss3
    refine TC.region ?_
    refine TL.bin .i64 x1 1 rfl rfl rfl rfl (v := .int .i64 (w64 (x1 + 1))) rfl ?_
    refine TL.move rfl rfl (v := .int .i64 (w64 (x1 + 1))) rfl ?_
    refine TL.done ?_
    exact TC.next1 ((out2, (w64 (x1 + 1)))) (ss3) ⟨rfl, rfl, rfl, rfl, trivial⟩ [0] rfl
  ·exact TC.brk1 ((out1, x1)) (ss2) ⟨rfl, rfl, rfl, rfl, trivial⟩ [0] rfl
 ·rintro ⟨out1, x1⟩ ss2
  refine TC.seq ?_
  refine TC.region ?_
  refine TL.move rfl rfl (v := SV.v s3) rfl ?_
  refine TL.assign rfl rfl (v := SV.v s3) rfl ?_
  refine TL.done ?_
  exact TC.retF (Fin.body (fin1 (.inr rfl) rfl (.tmp rfl) [0] rfl ⟨s3, ss2, rfl, rfl⟩))

end Go.Proofs.Ytiiljfpbcanphaa.G

/- impl.IsSurface$1, as a pure function. -/
set_option linter.unusedVariables false
namespace Go.Proofs.Ytiiljfpbcanphaa.G
open Go Go.Sx Go.Proofs

def impl_IsSurface_1.f (k_1 : Int) (c1 : List (List Int)) : Option Bool := (bif (k_1 == 0) then some true else (G.impl_edgesOf.f c1).bind (fun r_1 => (G.impl_in.f k_1 (w64 (0 - r_1)) r_1).bind (fun r_3 => some (!r_3))))

def impl_IsSurface_1.R (r : Bool) (v : Value) (L : List Asn) : Prop := v = .bool r ∧ L = []

set_option maxRecDepth 100000 in
set_option maxHeartbeats 4000000 in
theorem impl_IsSurface_1.calls (w : World) (k_1 : Int) (b_1 : Nat) (s1 : SV) (ss1 : List SV) (c1 : List (List Int)) (h2 : At (hp w) b_1 [.one (SV.v s1)]) (h1 : ReadsM Ei (hp w) s1 ss1 c1) :
  ∀ r, impl_IsSurface_1.f k_1 c1 = some r → Calls Try.prog 124 #[.int .i64 k_1, bp b_1 0] w (Ret w (impl_IsSurface_1.R r)) := by

 refine calls_T (n := 16) (Γ := [(0, .int .i64 k_1), (1, bp b_1 0)]) (R := impl_IsSurface_1.R) Try.func124 rfl rfl (Nat.le_of_ble_eq_true rfl) ⟨rfl, rfl, trivial⟩ ?_
 unfold impl_IsSurface_1.f
 refine TC.seq ?_
 refine TC.region ?_
 refine TL.assign rfl rfl (v := .bool false) rfl ?_
 refine TL.done ?_
 refine TC.seq ?_
 refine TC.ifB (k_1 == 0) (fun c2 => ?_) (fun c2 => ?_)
 ·refine TC.wk (Γ' := [(0, .int .i64 k_1), (1, bp b_1 0)]) ⟨rfl, rfl, trivial⟩ ?_
  refine TC.drawG [(0, .int .i64 k_1), (1, bp b_1 0)] [] ⟨rfl, rfl, trivial⟩ trivial (fun l_ g2 => []) (fun g2 => [.int .i64 k_1, .bool true, .bool true, undef, undef, undef, undef, undef, undef, undef, undef, .bool true, .bool true]) [[], [0], [0, 1], [0, 1, 2], [0, 1, 2], [0, 1, 2, 4], [0, 1, 2, 4, 5], [0, 1, 2], [0, 1, 2, 4, 5, 7], [0, 1, 2, 3, 4, 5, 6, 7, 8], [0, 1, 2, 3, 4, 5, 6, 7, 8, 9], [0, 1, 2, 3, 4, 5, 6, 7, 8, 9, 10], [0, 1, 2, 3, 4, 5, 6, 7, 8, 9, 10, 11]] [[some false, some false, some false, some false, some false, some false, some false, some false, some false, some false, some false, some false, some false], [some true, some false, some false, some false, some false, some false, some false, some false, some false, some false, some false, some false, some false], [some true, some true, some false, some false, some false, some false, some false, some false, some false, some false, some false, some false, some false], [some true, some true, some true, some false, none, none, none, none, none, some false, some false, some false, some false], [some true, some true, some true, none, some false, some false, some false, none, some false, some false, some false, some false, some false], [some true, some true, some true, none, some true, some false, some false, none, some false, some false, some false, some false, some false], [some true, some true, some true, none, some true, some true, some false, none, none, some false, some false, some false, some false], [some true, some true, some true, none, none, none, none, some false, some false, some false, some false, some false, some false], [some true, some true, some true, none, some true, some true, none, some true, some false, some false, some false, some false, some false], [some true, some true, some true, some true, some true, some true, some true, some true, some true, some false, some false, some false, some false], [some true, some true, some true, some true, some true, some true, some true, some true, some true, some true, some false, some false, some false], [some true, some true, some true, some true, some true, some true, some true, some true, some true, some true, some true, some false, some false], [some true, some true, some true, some true, some true, some true, some true, some true, some true, some true, some true, some true, some false]] (by kernel_rfl) (fun _ => rfl) rfl rfl rfl rfl rfl (fun _ _ => ⟨⟨⟨⟨⟨⟨⟨⟨⟨⟨⟨⟨⟨trivial, rfl⟩, rfl⟩, rfl⟩, rfl⟩, rfl⟩, rfl⟩, rfl⟩, rfl⟩, rfl⟩, rfl⟩, rfl⟩, rfl⟩, rfl⟩) 0 [] (fun _ => by kernel_rfl) ?_ ?_
  ·refine ⟨rfl, ?_, rfl, ?_, rfl, ?_, rfl, ?_, rfl, ?_, rfl, ?_, rfl, ?_, rfl, ?_, rfl, ?_, rfl, ?_, rfl, ?_, rfl, ?_, rfl, ?_, trivial⟩
   ·intro g2
    refine TL.move rfl rfl (v := .int .i64 k_1) rfl ?_
    refine TL.done ?_
    exact TC.nrm () [] ⟨rfl, trivial⟩ [] (by kernel_rfl)
   ·intro g2
    refine TL.bin .i64 k_1 0 rfl rfl rfl rfl (v := .bool (k_1 == 0)) rfl ?_
    refine TL.done ?_
    exact TC.nrm () [] ⟨(by rw [c2]; rfl), trivial⟩ [] (by kernel_rfl)
   ·intro g2
    refine TL.move rfl rfl (v := .bool true) rfl ?_
    refine TL.done ?_
    exact TC.nrm () [] ⟨rfl, trivial⟩ [] (by kernel_rfl)
   ·intro b4_ b5_ b6_ b7_ b8_ g2
    refine TL.skip rfl rfl (by decide) ?_
    refine TL.done ?_
    exact TC.nrm () [] ⟨rfl, trivial⟩ [] (by kernel_rfl)
   ·intro b3_ b7_ g2
    refine TL.asL [] (by kernel_rfl) ?_
    refine TL.skip rfl rfl (by decide) ?_
    refine TL.done ?_
    exact TC.nrm () [] ⟨rfl, trivial⟩ [] (by kernel_rfl)
   ·intro b3_ b7_ g2
    refine TL.asL [] (by kernel_rfl) ?_
    refine TL.skip rfl rfl (by decide) ?_
    refine TL.done ?_
    exact TC.nrm () [] ⟨rfl, trivial⟩ [] (by kernel_rfl)
   ·intro b3_ b7_ b8_ g2
    refine TL.skip rfl rfl (by decide) ?_
    refine TL.done ?_
    exact TC.nrm () [] ⟨rfl, trivial⟩ [] (by kernel_rfl)
   ·intro b3_ b4_ b5_ b6_ g2
    refine TL.asL [] (by kernel_rfl) ?_
    refine TL.skip rfl rfl (by decide) ?_
    refine TL.done ?_
    exact TC.nrm () [] ⟨rfl, trivial⟩ [] (by kernel_rfl)
   ·intro b3_ b6_ g2
    refine TL.asL [] (by kernel_rfl) ?_
    refine TL.skip rfl rfl (by decide) ?_
    refine TL.done ?_
    exact TC.nrm () [] ⟨rfl, trivial⟩ [] (by kernel_rfl)
   ·intro g2
    refine TL.asL [] (by kernel_rfl) ?_
    refine TL.skip rfl rfl (by decide) ?_
    refine TL.done ?_
    exact TC.nrm () [] ⟨rfl, trivial⟩ [] (by kernel_rfl)
   ·intro g2
    refine TL.skip rfl rfl (by decide) ?_
    refine TL.done ?_
    exact TC.nrm () [] ⟨rfl, trivial⟩ [] (by kernel_rfl)
   ·intro g2
    refine TL.pick rfl rfl (b := true) rfl (r := .bool true) rfl ?_
    refine TL.done ?_
    exact TC.nrm () [] ⟨rfl, trivial⟩ [] (by kernel_rfl)
   ·intro g2
    refine TL.assign rfl rfl (v := .bool true) rfl ?_
    refine TL.done ?_
    exact TC.nrm () [] ⟨rfl, trivial⟩ [] (by kernel_rfl)
  ·intro g2
   refine TC.asL [] (by kernel_rfl) ?_
   exact TC.retF (Fin.body (fin1 (.inr rfl) rfl (.tmp rfl) [] rfl ⟨rfl, rfl⟩))
 ·refine TC.wk (Γ' := [(0, .int .i64 k_1), (1, bp b_1 0)]) ⟨rfl, rfl, trivial⟩ ?_
  refine TC.bindE ?_
  rintro r_1 hr1
  refine TC.bindE ?_
  rintro r_3 hr2
  refine TC.drawG [(0, .int .i64 k_1), (1, bp b_1 0)] [] ⟨rfl, rfl, trivial⟩ trivial (fun l_ g3 => []) (fun g3 => [.int .i64 k_1, .bool false, .bool false, .int .i64 k_1, SV.v s1, .int .i64 r_1, .int .i64 (w64 (0 - r_1)), SV.v s1, .int .i64 r_1, .bool r_3, .bool (!r_3), .bool (!r_3), .bool (!r_3)]) [[], [0], [0, 1], [0, 1, 2], [0, 1, 2], [0, 1, 2, 4], [0, 1, 2, 4, 5], [0, 1, 2], [0, 1, 2, 4, 5, 7], [0, 1, 2, 3, 4, 5, 6, 7, 8], [0, 1, 2, 3, 4, 5, 6, 7, 8, 9], [0, 1, 2, 3, 4, 5, 6, 7, 8, 9, 10], [0, 1, 2, 3, 4, 5, 6, 7, 8, 9, 10, 11]] [[some false, some false, some false, some false, some false, some false, some false, some false, some false, some false, some false, some false, some false], [some true, some false, some false, some false, some false, some false, some false, some false, some false, some false, some false, some false, some false], [some true, some true, some false, some false, some false, some false, some false, some false, some false, some false, some false, some false, some false], [some true, some true, some true, some false, none, none, none, none, none, some false, some false, some false, some false], [some true, some true, some true, none, some false, some false, some false, none, some false, some false, some false, some false, some false], [some true, some true, some true, none, some true, some false, some false, none, some false, some false, some false, some false, some false], [some true, some true, some true, none, some true, some true, some false, none, none, some false, some false, some false, some false], [some true, some true, some true, none, none, none, none, some false, some false, some false, some false, some false, some false], [some true, some true, some true, none, some true, some true, none, some true, some false, some false, some false, some false, some false], [some true, some true, some true, some true, some true, some true, some true, some true, some true, some false, some false, some false, some false], [some true, some true, some true, some true, some true, some true, some true, some true, some true, some true, some false, some false, some false], [some true, some true, some true, some true, some true, some true, some true, some true, some true, some true, some true, some false, some false], [some true, some true, some true, some true, some true, some true, some true, some true, some true, some true, some true, some true, some false]] (by kernel_rfl) (fun _ => rfl) rfl rfl rfl rfl rfl (fun _ _ => ⟨⟨⟨⟨⟨⟨⟨⟨⟨⟨⟨⟨⟨trivial, rfl⟩, rfl⟩, rfl⟩, rfl⟩, rfl⟩, rfl⟩, rfl⟩, rfl⟩, rfl⟩, rfl⟩, rfl⟩, rfl⟩, rfl⟩) 0 [] (fun _ => by kernel_rfl) ?_ ?_
  ·refine ⟨rfl, ?_, rfl, ?_, rfl, ?_, rfl, ?_, rfl, ?_, rfl, ?_, rfl, ?_, rfl, ?_, rfl, ?_, rfl, ?_, rfl, ?_, rfl, ?_, rfl, ?_, trivial⟩
   ·intro g3
    refine TL.move rfl rfl (v := .int .i64 k_1) rfl ?_
    refine TL.done ?_
    exact TC.nrm () [] ⟨rfl, trivial⟩ [] (by kernel_rfl)
   ·intro g3
    refine TL.bin .i64 k_1 0 rfl rfl rfl rfl (v := .bool (k_1 == 0)) rfl ?_
    refine TL.done ?_
    exact TC.nrm () [] ⟨(by rw [c2]; rfl), trivial⟩ [] (by kernel_rfl)
   ·intro g3
    refine TL.move rfl rfl (v := .bool false) rfl ?_
    refine TL.done ?_
    exact TC.nrm () [] ⟨rfl, trivial⟩ [] (by kernel_rfl)
   ·intro b4_ b5_ b6_ b7_ b8_ g3
    refine TL.move rfl rfl (v := .int .i64 k_1) rfl ?_
    refine TL.done ?_
    exact TC.nrm () [] ⟨rfl, trivial⟩ [] (by kernel_rfl)
   ·intro b3_ b7_ g3
    refine TL.asL [] (by kernel_rfl) ?_
    refine TL.load1 0 (Src.at h2) Try.isAgg32 rfl rfl rfl rfl rfl ?_
    refine TL.done ?_
    exact TC.nrm () [] ⟨rfl, trivial⟩ [] (by kernel_rfl)
   ·intro b3_ b7_ g3
    refine TL.asL [] (by kernel_rfl) ?_
    refine TL.callH (R := G.impl_edgesOf.R) hr1 Try.call118 rfl rfl rfl (fun w hS => G.impl_edgesOf.calls w s1 ss1 c1 ((RdM.old h1) w hS)) ?_
    rintro _ _ ⟨rfl, rfl⟩
    refine TL.done ?_
    exact TC.nrm () [] ⟨rfl, trivial⟩ [] (by kernel_rfl)
   ·intro b3_ b7_ b8_ g3
    refine TL.neg .i64 r_1 rfl rfl rfl ?_
    refine TL.done ?_
    exact TC.nrm () [] ⟨rfl, trivial⟩ [] (by kernel_rfl)
   ·intro b3_ b4_ b5_ b6_ g3
    refine TL.asL [] (by kernel_rfl) ?_
    refine TL.load1 0 (Src.at h2) Try.isAgg32 rfl rfl rfl rfl rfl ?_
    refine TL.done ?_
    exact TC.nrm () [] ⟨rfl, trivial⟩ [] (by kernel_rfl)
   ·intro b3_ b6_ g3
    refine TL.asL [] (by kernel_rfl) ?_
    refine TL.callH (R := G.impl_edgesOf.R) hr1 Try.call118 rfl rfl rfl (fun w hS => G.impl_edgesOf.calls w s1 ss1 c1 ((RdM.old h1) w hS)) ?_
    rintro _ _ ⟨rfl, rfl⟩
    refine TL.done ?_
    exact TC.nrm () [] ⟨rfl, trivial⟩ [] (by kernel_rfl)
   ·intro g3
    refine TL.asL [] (by kernel_rfl) ?_
    refine TL.callH (R := G.impl_in.R) hr2 Try.call72 rfl rfl rfl (fun w hS => G.impl_in.calls w k_1 (w64 (0 - r_1)) r_1) ?_
    rintro _ _ ⟨rfl, rfl⟩
    refine TL.done ?_
    exact TC.nrm () [] ⟨rfl, trivial⟩ [] (by kernel_rfl)
   ·intro g3
    refine TL.not r_3 rfl rfl rfl ?_
    refine TL.done ?_
    exact TC.nrm () [] ⟨rfl, trivial⟩ [] (by kernel_rfl)
   ·intro g3
    refine TL.pick rfl rfl (b := false) rfl (r := .bool (!r_3)) rfl ?_
    refine TL.done ?_
    exact TC.nrm () [] ⟨rfl, trivial⟩ [] (by kernel_rfl)
   ·intro g3
    refine TL.assign rfl rfl (v := .bool (!r_3)) rfl ?_
    refine TL.done ?_
    exact TC.nrm () [] ⟨rfl, trivial⟩ [] (by kernel_rfl)
  ·intro g3
   refine TC.asL [] (by kernel_rfl) ?_
   exact TC.retF (Fin.body (fin1 (.inr rfl) rfl (.tmp rfl) [] rfl ⟨rfl, rfl⟩))

end Go.Proofs.Ytiiljfpbcanphaa.G

/- impl.sided], as a pure function. -/
set_option linter.unusedVariables false
namespace Go.Proofs.Ytiiljfpbcanphaa.G
open Go Go.Sx Go.Proofs

def slices_IndexFunc_impl_sided_impl_sided.b0 (s1 : List (List (Int × Int))) (f2 : (List (Int × Int)) → Option Bool) : Int → Option (LR Int Int) := fun x1 => (bif (decide (x1 < (s1.length : Int))) then chk x1 s1.length ((f2 (gt s1 x1)).bind (fun r_1 => (bif r_1 then some (.ret (x1)) else some (.next (w64 (x1 + 1)))))) else some (.brk x1))

def slices_IndexFunc_impl_sided_impl_sided.f (s1 : List (List (Int × Int))) (f2 : (List (Int × Int)) → Option Bool) : Option Int := (loop (slices_IndexFunc_impl_sided_impl_sided.b0 s1 f2) 0).bind (ln (fun x1 => some (-1)))

def slices_IndexFunc_impl_sided_impl_sided.R (r : Int) (v : Value) (L : List Asn) : Prop := v = .int .i64 r ∧ L = []

set_option maxRecDepth 100000 in
set_option maxHeartbeats 4000000 in
theorem slices_IndexFunc_impl_sided_impl_sided.calls (w : World) (s2 : SV) (ss1 : List SV) (s1 : List (List (Int × Int))) (f1 : Nat) (fst1 : List Value) (cap1 : List Value) (f2 : (List (Int × Int)) → Option Bool) (h1 : ReadsM Eii (hp w) s2 ss1 s1) (hc1 : ∀ (args_ : Array Value) (w_ : World), (callFunc f1 args_).run Try.prog w_ = .ok (.enter f1 args_) w_) (hf1 : ∀ w_, Hle (hp w) (hp w_) → ∀ (s1_ : SV) (x0_ : List (Int × Int)), Reads Eii (hp w_) s1_ x0_ → ∀ r_, f2 x0_ = some r_ → Calls Try.prog f1 (fst1 ++ ([SV.v s1_] : List Value) ++ cap1).toArray w_ (Ret w_ (fun (v_ : Value) (L_ : List Asn) => v_ = .bool r_ ∧ L_ = []))) :
  ∀ r, slices_IndexFunc_impl_sided_impl_sided.f s1 f2 = some r → Calls Try.prog 169 #[SV.v s2, .func (.func f1) fst1.toArray cap1.toArray] w (Ret w (slices_IndexFunc_impl_sided_impl_sided.R r)) := by

 refine calls_T (n := 19) (Γ := [(0, SV.v s2), (1, .func (.func f1) fst1.toArray cap1.toArray)]) (R := slices_IndexFunc_impl_sided_impl_sided.R) Try.func169 rfl rfl (Nat.le_of_ble_eq_true rfl) ⟨rfl, rfl, trivial⟩ ?_
 unfold slices_IndexFunc_impl_sided_impl_sided.f
 refine TC.seq ?_
 refine TC.region ?_
 refine TL.assign rfl rfl (v := .int .i64 0) rfl ?_
 refine TL.done ?_
 refine TC.seq ?_
 refine TC.seq ?_
 refine TC.region ?_
 refine TL.move rfl rfl (v := SV.v s2) rfl ?_
 refine TL.lenM (RdM.old h1) Try.underlying105 rfl rfl rfl ?_
 refine TL.move rfl rfl (v := .int .i64 0) rfl ?_
 refine TL.done ?_
 refine TC.loopK (σ := Int) (γ := Unit) (Γ' := (fun x1 _ => [(0, SV.v s2), (1, .func (.func f1) fst1.toArray cap1.toArray), (7, .int .i64 (s1.length : Int)), (8, .int .i64 x1)])) (L' := (fun x1 _ => [])) (Γb := (fun x1 _ => [(0, SV.v s2), (1, .func (.func f1) fst1.toArray cap1.toArray), (7, .int .i64 (s1.length : Int)), (8, .int .i64 x1)])) (Lb := (fun x1 _ => [])) (0) (()) ⟨rfl, rfl, rfl, rfl, trivial⟩ [] rfl ?_ ?_
 ·rintro x1 _
  refine TC.seq ?_
  refine TC.region ?_
  refine TL.bin .i64 x1 (s1.length : Int) rfl rfl rfl rfl (v := .bool (decide (x1 < (s1.length : Int)))) rfl ?_
  refine TL.done ?_
  refine TC.seq ?_
  refine TC.cond (b := (decide (x1 < (s1.length : Int)))) rfl (fun c1 => ?_) (fun c2 => ?_)
  ·refine TC.skip ?_
   refine TC.seq ?_
   refine TC.block (NoEx.loop rfl NoEx.body) ?_
   refine TC.seq ?_
   refine TC.region ?_
   refine TL.move rfl rfl (v := .int .i64 x1) rfl ?_
   refine TL.assign rfl rfl (v := .int .i64 x1) rfl ?_
   refine TL.done ?_
   refine TC.seq ?_
   refine TC.region ?_
   refine TL.move rfl rfl (v := .func (.func f1) fst1.toArray cap1.toArray) rfl ?_
   refine TL.move rfl rfl (v := SV.v s2) rfl ?_
   refine TL.move rfl rfl (v := .int .i64 x1) rfl ?_
   refine TL.chk fun h2 => ?_
   refine TL.ixsM x1 x1.toNat (RdM.old h1) h2 Try.underlying105 Try.sizeOf104 rfl rfl rfl rfl (by omega) ?_
   refine TL.loadM2 (RdM.old h1) Try.isAgg104 x1 h2 (by omega) rfl rfl rfl ?_
   refine TL.callv (R := (fun r_ => (fun (v_ : Value) (L_ : List Asn) => v_ = .bool r_ ∧ L_ = []))) (vs := [SV.v (gt ss1 x1)]) hc1 rfl rfl rfl rfl (fun w hS => hf1 w hS.iw (gt ss1 x1) (gt s1 x1) ((RdM.inn (RdM.old h1) h2) w hS)) ?_
   rintro r_1 _ _ ⟨rfl, rfl⟩
   refine TL.done ?_
   refine TC.cond (b := r_1) rfl (fun c3 => ?_) (fun c4 => ?_)
   ·refine TC.seq ?_
    refine TC.region ?_
    refine TL.move rfl rfl (v := .int .i64 x1) rfl ?_
    refine TL.assign rfl rfl (v := .int .i64 x1) rfl ?_
    refine TL.done ?_
    exact TC.retF (Fin.loop Far.ret (Fin.body (fin1 (.inr rfl) rfl (.tmp rfl) [] rfl ⟨rfl, rfl⟩)))
   ·refine TC.skip ?_
    refine TC.region ?_
    refine TL.bin .i64 x1 1 rfl rfl rfl rfl (v := .int .i64 (w64 (x1 + 1))) rfl ?_
    refine TL.move rfl rfl (v := .int .i64 (w64 (x1 + 1))) rfl ?_
    refine TL.done ?_
    exact TC.next ((w64 (x1 + 1))) (()) ⟨rfl, rfl, rfl, rfl, trivial⟩ [] rfl
  ·exact TC.brk (x1) (()) ⟨rfl, rfl, rfl, rfl, trivial⟩ [] rfl
 ·rintro x1 _
  refine TC.seq ?_
  refine TC.region ?_
  refine TL.assign rfl rfl (v := .int .i64 (-1)) rfl ?_
  refine TL.done ?_
  exact TC.retF (Fin.body (fin1 (.inr rfl) rfl (.tmp rfl) [] rfl ⟨rfl, rfl⟩))

end Go.Proofs.Ytiiljfpbcanphaa.G

/- impl.sided], as a pure function. -/
set_option linter.unusedVariables false
namespace Go.Proofs.Ytiiljfpbcanphaa.G
open Go Go.Sx Go.Proofs

def slices_ContainsFunc_impl_sided_impl_sided.f (s1 : List (List (Int × Int))) (f2 : (List (Int × Int)) → Option Bool) : Option Bool := (G.slices_IndexFunc_impl_sided_impl_sided.f s1 f2).bind (fun r_1 => some (decide (r_1 ≥ 0)))

def slices_ContainsFunc_impl_sided_impl_sided.R (r : Bool) (v : Value) (L : List Asn) : Prop := v = .bool r ∧ L = []

set_option maxRecDepth 100000 in
set_option maxHeartbeats 4000000 in
theorem slices_ContainsFunc_impl_sided_impl_sided.calls (w : World) (s2 : SV) (ss1 : List SV) (s1 : List (List (Int × Int))) (f1 : Nat) (fst1 : List Value) (cap1 : List Value) (f2 : (List (Int × Int)) → Option Bool) (h1 : ReadsM Eii (hp w) s2 ss1 s1) (hc1 : ∀ (args_ : Array Value) (w_ : World), (callFunc f1 args_).run Try.prog w_ = .ok (.enter f1 args_) w_) (hf1 : ∀ w_, Hle (hp w) (hp w_) → ∀ (s1_ : SV) (x0_ : List (Int × Int)), Reads Eii (hp w_) s1_ x0_ → ∀ r_, f2 x0_ = some r_ → Calls Try.prog f1 (fst1 ++ ([SV.v s1_] : List Value) ++ cap1).toArray w_ (Ret w_ (fun (v_ : Value) (L_ : List Asn) => v_ = .bool r_ ∧ L_ = []))) :
  ∀ r, slices_ContainsFunc_impl_sided_impl_sided.f s1 f2 = some r → Calls Try.prog 125 #[SV.v s2, .func (.func f1) fst1.toArray cap1.toArray] w (Ret w (slices_ContainsFunc_impl_sided_impl_sided.R r)) := by

 refine calls_T (n := 9) (Γ := [(0, SV.v s2), (1, .func (.func f1) fst1.toArray cap1.toArray)]) (R := slices_ContainsFunc_impl_sided_impl_sided.R) Try.func125 rfl rfl (Nat.le_of_ble_eq_true rfl) ⟨rfl, rfl, trivial⟩ ?_
 unfold slices_ContainsFunc_impl_sided_impl_sided.f
 refine TC.seq ?_
 refine TC.region ?_
 refine TL.assign rfl rfl (v := .bool false) rfl ?_
 refine TL.done ?_
 refine TC.seq ?_
 refine TC.region ?_
 refine TL.move rfl rfl (v := SV.v s2) rfl ?_
 refine TL.move rfl rfl (v := .func (.func f1) fst1.toArray cap1.toArray) rfl ?_
 refine TL.call (R := G.slices_IndexFunc_impl_sided_impl_sided.R) Try.call169 rfl rfl rfl (fun w hS => G.slices_IndexFunc_impl_sided_impl_sided.calls w s2 ss1 s1 f1 fst1 cap1 f2 ((RdM.old h1) w hS) hc1 (fun w_ hle_ => hf1 w_ (hS.iw.trans hle_))) ?_
 rintro r_1 _ _ ⟨rfl, rfl⟩
 refine TL.bin .i64 r_1 0 rfl rfl rfl rfl (v := .bool (decide (r_1 ≥ 0))) rfl ?_
 refine TL.assign rfl rfl (v := .bool (decide (r_1 ≥ 0))) rfl ?_
 refine TL.done ?_
 exact TC.retF (Fin.body (fin1 (.inr rfl) rfl (.tmp rfl) [] rfl ⟨rfl, rfl⟩))

end Go.Proofs.Ytiiljfpbcanphaa.G

/- impl.IsSurface$2, as a pure function. -/
set_option linter.unusedVariables false
namespace Go.Proofs.Ytiiljfpbcanphaa.G
open Go Go.Sx Go.Proofs

def impl_IsSurface_2.f (list_1 : List (Int × Int)) : Option Bool := some ((list_1.length : Int) != 2)

def impl_IsSurface_2.R (r : Bool) (v : Value) (L : List Asn) : Prop := v = .bool r ∧ L = []

set_option maxRecDepth 100000 in
set_option maxHeartbeats 4000000 in
theorem impl_IsSurface_2.calls (w : World) (s1 : SV) (list_1 : List (Int × Int)) (h1 : Reads Eii (hp w) s1 list_1) :
  ∀ r, impl_IsSurface_2.f list_1 = some r → Calls Try.prog 126 #[SV.v s1] w (Ret w (impl_IsSurface_2.R r)) := by

 refine calls_T (n := 6) (Γ := [(0, SV.v s1)]) (R := impl_IsSurface_2.R) Try.func126 rfl rfl (Nat.le_of_ble_eq_true rfl) ⟨rfl, trivial⟩ ?_
 unfold impl_IsSurface_2.f
 refine TC.seq ?_
 refine TC.region ?_
 refine TL.assign rfl rfl (v := .bool false) rfl ?_
 refine TL.done ?_
 refine TC.seq ?_
 refine TC.region ?_
 refine TL.move rfl rfl (v := SV.v s1) rfl ?_
 refine TL.len (Rd.old h1) Try.underlying104 rfl rfl rfl ?_
 refine TL.bin .i64 (list_1.length : Int) 2 rfl rfl rfl rfl (v := .bool ((list_1.length : Int) != 2)) rfl ?_
 refine TL.assign rfl rfl (v := .bool ((list_1.length : Int) != 2)) rfl ?_
 refine TL.done ?_
 exact TC.retF (Fin.body (fin1 (.inr rfl) rfl (.tmp rfl) [] rfl ⟨rfl, rfl⟩))

end Go.Proofs.Ytiiljfpbcanphaa.G

/- impl.IsSurface, as a pure function. -/
set_option linter.unusedVariables false
namespace Go.Proofs.Ytiiljfpbcanphaa.G
open Go Go.Sx Go.Proofs

def impl_IsSurface.b0 (s1 : List (List Int)) : Int → Option (LR Int Bool) := fun x1 => (bif (decide (x1 < (s1.length : Int))) then chk x1 s1.length ((bif (((gt s1 x1).length : Int) != 3) then some true else (G.slices_ContainsFunc_int64_int64.f (gt s1 x1) (fun x0_ => G.impl_IsSurface_1.f x0_ s1)).bind (fun r_2 => some r_2)).bind (fun b_2 => (bif b_2 then some (.ret (false)) else some (.next (w64 (x1 + 1)))))) else some (.brk x1))

def impl_IsSurface.f (s1 : List (List Int)) : Option Bool := (G.impl_in.f (s1.length : Int) 2 12).bind (fun r_1 => (bif ((!r_1) || ((Int.tmod (s1.length : Int) 2) != 0)) then some false else (loop (impl_IsSurface.b0 s1) 0).bind (ln (fun x1 => (G.impl_sidesOfEdges.f s1).bind (fun r_3 => grd (decide (0 ≤ 1) && decide (1 ≤ (r_3.length : Int)) && decide ((r_3.length : Int) ≤ (r_3.length : Int))) ((G.slices_ContainsFunc_impl_sided_impl_sided.f ((r_3.drop 1).take (r_3.length - 1)) G.impl_IsSurface_2.f).bind (fun r_4 => some (!r_4))))))))

def impl_IsSurface.R (r : Bool) (v : Value) (L : List Asn) : Prop := v = .bool r ∧ L = []

set_option maxRecDepth 100000 in
set_option maxHeartbeats 4000000 in
theorem impl_IsSurface.calls (w : World) (s2 : SV) (ss1 : List SV) (s1 : List (List Int)) (h1 : ReadsM Ei (hp w) s2 ss1 s1) :
  ∀ r, impl_IsSurface.f s1 = some r → Calls Try.prog 44 #[SV.v s2] w (Ret w (impl_IsSurface.R r)) := by

 refine calls_T (n := 35) (Γ := [(0, SV.v s2)]) (R := impl_IsSurface.R) Try.func44 rfl rfl (Nat.le_of_ble_eq_true rfl) ⟨rfl, trivial⟩ ?_
 unfold impl_IsSurface.f
 refine TC.seq ?_
 refine TC.region ?_
 refine TL.box [.one (SV.v s2)] rfl rfl rfl rfl fun b_1 => ?_
 refine TL.assign rfl rfl (v := .bool false) rfl ?_
 refine TL.done ?_
 refine TC.seq ?_
 refine TC.seq ?_
 refine TC.region ?_
 refine TL.load1 0 (Src.box 0 rfl) Try.isAgg32 rfl rfl rfl rfl rfl ?_
 refine TL.lenM (RdM.old h1) Try.underlying32 rfl rfl rfl ?_
 refine TL.call (R := G.impl_in.R) Try.call72 rfl rfl rfl (fun w hS => G.impl_in.calls w (s1.length : Int) 2 12) ?_
 rintro r_1 _ _ ⟨rfl, rfl⟩
 refine TL.not r_1 rfl rfl rfl ?_
 refine TL.move rfl rfl (v := .bool (!r_1)) rfl ?_
 refine TL.cutU 5 [(14, .bool ((!r_1) || ((Int.tmod (s1.length : Int) 2) != 0))), (0, SV.v s2), (1, bp b_1 0), (2, .bool false), (5, SV.v s2), (6, .int .i64 (s1.length : Int)), (7, .bool r_1), (8, .bool (!r_1)), (9, .bool (!r_1))] [box b_1 32 [.one (SV.v s2)]] ?_ ?_
 ·refine TL.cases (t := 9) (b := (!r_1)) rfl (fun c1 => ?_) (fun c2 => ?_)
  ·refine TL.skip rfl rfl (by decide) ?_
   refine TL.skip rfl rfl (by decide) ?_
   refine TL.skip rfl rfl (by decide) ?_
   refine TL.skip rfl rfl (by decide) ?_
   refine TL.pick rfl rfl (b := true) rfl (r := .bool true) rfl ?_
   refine TL.done ?_
   exact TC.nrm () () ⟨(by rw [c1]; rfl), rfl, rfl, rfl, rfl, rfl, rfl, rfl, (by rw [c1]; rfl), trivial⟩ [0] (by kernel_rfl)
  ·refine TL.load1 0 (Src.box 0 rfl) Try.isAgg32 rfl rfl rfl rfl rfl ?_
   refine TL.lenM (RdM.old h1) Try.underlying32 rfl rfl rfl ?_
   refine TL.rem .i64 (s1.length : Int) 2 (by decide) rfl rfl rfl rfl ?_
   refine TL.bin .i64 (Int.tmod (s1.length : Int) 2) 0 rfl rfl rfl rfl (v := .bool ((Int.tmod (s1.length : Int) 2) != 0)) rfl ?_
   refine TL.pick rfl rfl (b := false) rfl (r := .bool ((Int.tmod (s1.length : Int) 2) != 0)) rfl ?_
   refine TL.done ?_
   exact TC.nrm () () ⟨(by rw [c2]; rfl), rfl, rfl, rfl, rfl, rfl, rfl, rfl, (by rw [c2]; rfl), trivial⟩ [0] (by kernel_rfl)
 ·refine TL.done ?_
  refine TC.cond (b := ((!r_1) || ((Int.tmod (s1.length : Int) 2) != 0))) rfl (fun c3 => ?_) (fun c4 => ?_)
  ·refine TC.seq ?_
   refine TC.region ?_
   refine TL.assign rfl rfl (v := .bool false) rfl ?_
   refine TL.done ?_
   exact TC.retF (Fin.body (fin1 (.inr rfl) rfl (.tmp rfl) [] rfl ⟨rfl, rfl⟩))
  ·refine TC.skip ?_
   refine TC.seq ?_
   refine TC.seq ?_
   refine TC.region ?_
   refine TL.load1 0 (Src.box 0 rfl) Try.isAgg32 rfl rfl rfl rfl rfl ?_
   refine TL.lenM (RdM.old h1) Try.underlying32 rfl rfl rfl ?_
   refine TL.move rfl rfl (v := .int .i64 0) rfl ?_
   refine TL.done ?_
   refine TC.loopK (σ := Int) (γ := Unit) (Γ' := (fun x1 _ => [(1, bp b_1 0), (15, SV.v s2), (16, .int .i64 (s1.length : Int)), (17, .int .i64 x1)])) (L' := (fun x1 _ => [box b_1 32 [.one (SV.v s2)]])) (Γb := (fun x1 _ => [(1, bp b_1 0), (15, SV.v s2), (16, .int .i64 (s1.length : Int)), (17, .int .i64 x1)])) (Lb := (fun x1 _ => [box b_1 32 [.one (SV.v s2)]])) (0) (()) ⟨rfl, rfl, rfl, rfl, trivial⟩ [0] rfl ?_ ?_
   ·rintro x1 _
    refine TC.seq ?_
    refine TC.region ?_
    refine TL.bin .i64 x1 (s1.length : Int) rfl rfl rfl rfl (v := .bool (decide (x1 < (s1.length : Int)))) rfl ?_
    refine TL.done ?_
    refine TC.seq ?_
    refine TC.cond (b := (decide (x1 < (s1.length : Int)))) rfl (fun c5 => ?_) (fun c6 => ?_)
    ·refine TC.skip ?_
     refine TC.seq ?_
     refine TC.block (NoEx.loop rfl NoEx.body) ?_
     refine TC.seq ?_
     refine TC.region ?_
     refine TL.chk fun h2 => ?_
     refine TL.ixsM x1 x1.toNat (RdM.old h1) h2 Try.underlying32 Try.sizeOf22 rfl rfl rfl rfl (by omega) ?_
     refine TL.loadM2 (RdM.old h1) Try.isAgg22 x1 h2 (by omega) rfl rfl rfl ?_
     refine TL.assign rfl rfl (v := SV.v (gt ss1 x1)) rfl ?_
     refine TL.done ?_
     refine TC.seq ?_
     refine TC.region ?_
     refine TL.move rfl rfl (v := SV.v (gt ss1 x1)) rfl ?_
     refine TL.len (RdM.inn (RdM.old h1) h2) Try.underlying22 rfl rfl rfl ?_
     refine TL.bin .i64 ((gt s1 x1).length : Int) 3 rfl rfl rfl rfl (v := .bool (((gt s1 x1).length : Int) != 3)) rfl ?_
     refine TL.move rfl rfl (v := .bool (((gt s1 x1).length : Int) != 3)) rfl ?_
     refine TL.cutJ (σ := Bool) (γ := Unit) (Γ' := fun b_2 _ => [(28, .bool b_2), (1, bp b_1 0), (15, SV.v s2), (16, .int .i64 (s1.length : Int)), (17, .int .i64 x1), (18, .bool (decide (x1 < (s1.length : Int)))), (19, ep s2 x1.toNat), (20, SV.v (gt ss1 x1)), (4, SV.v (gt ss1 x1)), (21, SV.v (gt ss1 x1)), (22, .int .i64 ((gt s1 x1).length : Int)), (23, .bool (((gt s1 x1).length : Int) != 3)), (24, .bool (((gt s1 x1).length : Int) != 3))]) (L' := fun _ _ => [box b_1 32 [.one (SV.v s2)]]) 4 ?_ ?_
     ·refine TL.ifb (t := 24) (b := (((gt s1 x1).length : Int) != 3)) rfl (fun c7 => ?_) (fun c8 => ?_)
      ·refine TL.skip rfl rfl (by decide) ?_
       refine TL.skip rfl rfl (by decide) ?_
       refine TL.skip rfl rfl (by decide) ?_
       refine TL.pick rfl rfl (b := true) rfl (r := .bool true) rfl ?_
       refine TL.done ?_
       exact TC.nrm (true) () ⟨rfl, rfl, rfl, rfl, rfl, rfl, rfl, rfl, rfl, rfl, rfl, rfl, (by rw [c7]; rfl), trivial⟩ [0] (by kernel_rfl)
      ·refine TL.move rfl rfl (v := SV.v (gt ss1 x1)) rfl ?_
       refine TL.makeFunc rfl rfl (us := []) (vs := [bp b_1 0]) rfl rfl ?_
       refine TL.call (R := G.slices_ContainsFunc_int64_int64.R) Try.call103 rfl rfl rfl (fun w hS => G.slices_ContainsFunc_int64_int64.calls w (gt ss1 x1) (gt s1 x1) 124 [] [bp b_1 0] (fun x0_ => G.impl_IsSurface_1.f x0_ s1) ((RdM.inn (RdM.old h1) h2) w hS) Try.call124 (fun w_ hle_ x0_ r_ hr_ => G.impl_IsSurface_1.calls w_ x0_ b_1 s2 ss1 s1 (((Src.box 0 rfl) w hS).mono hle_) (((RdM.old h1) w hS).mono hle_) r_ hr_)) ?_
       rintro r_2 _ _ ⟨rfl, rfl⟩
       refine TL.pick rfl rfl (b := false) rfl (r := .bool r_2) rfl ?_
       refine TL.done ?_
       exact TC.nrm (r_2) () ⟨rfl, rfl, rfl, rfl, rfl, rfl, rfl, rfl, rfl, rfl, rfl, rfl, (by rw [c8]; rfl), trivial⟩ [0] (by kernel_rfl)
     ·rintro b_2 _
      refine TL.done ?_
      refine TC.cond (b := b_2) rfl (fun c9 => ?_) (fun c10 => ?_)
      ·refine TC.seq ?_
       refine TC.region ?_
       refine TL.assign rfl rfl (v := .bool false) rfl ?_
       refine TL.done ?_
       exact TC.retF (Fin.loop Far.ret (Fin.body (fin1 (.inr rfl) rfl (.tmp rfl) [] rfl ⟨rfl, rfl⟩)))
      ·refine TC.skip ?_
       refine TC.region ?_
       refine TL.bin .i64 x1 1 rfl rfl rfl rfl (v := .int .i64 (w64 (x1 + 1))) rfl ?_
       refine TL.move rfl rfl (v := .int .i64 (w64 (x1 + 1))) rfl ?_
       refine TL.done ?_
       exact TC.next ((w64 (x1 + 1))) (()) ⟨rfl, rfl, rfl, rfl, trivial⟩ [0] rfl
    ·exact TC.brk (x1) (()) ⟨rfl, rfl, rfl, rfl, trivial⟩ [0] rfl
   ·rintro x1 _
    refine TC.seq ?_
    refine TC.region ?_
    refine TL.load1 0 (Src.box 0 rfl) Try.isAgg32 rfl rfl rfl rfl rfl ?_
    refine TL.call (R := G.impl_sidesOfEdges.R) Try.call119 rfl rfl rfl (fun w hS => G.impl_sidesOfEdges.calls w s2 ss1 s1 ((RdM.old h1) w hS)) ?_
    rintro r_3 _ _ ⟨s3, ss2, rfl, rfl⟩
    refine TL.grd fun h3 => ?_
    refine TL.sliceM (li := (some 1)) (hi' := none) (l := 1) (h := r_3.length) (RdM.mat 0 rfl) Try.underlying105 Try.sizeOf104 rfl rfl (by have h_ := h3; simp only [Bool.and_eq_true, decide_eq_true_eq] at h_; first | rfl | omega | (simp only [Option.getD_none, Option.getD_some]; omega)) (by have h_ := h3; simp only [Bool.and_eq_true, decide_eq_true_eq] at h_; first | rfl | omega | (simp only [Option.getD_none, Option.getD_some]; omega)) (by have h_ := h3; simp only [Bool.and_eq_true, decide_eq_true_eq] at h_; omega) (by have h_ := h3; simp only [Bool.and_eq_true, decide_eq_true_eq] at h_; omega) rfl rfl rfl ?_
    refine TL.call (R := G.slices_ContainsFunc_impl_sided_impl_sided.R) Try.call125 rfl rfl rfl (fun w hS => G.slices_ContainsFunc_impl_sided_impl_sided.calls w (SV.cut s3 1 r_3.length s3.c Ev.sz) ((ss2.drop 1).take (r_3.length - 1)) ((r_3.drop 1).take (r_3.length - 1)) 126 [] [] G.impl_IsSurface_2.f ((RdM.cut (RdM.mat 0 rfl) (by have h_ := h3; simp only [Bool.and_eq_true, decide_eq_true_eq] at h_; omega) (by have h_ := h3; simp only [Bool.and_eq_true, decide_eq_true_eq] at h_; omega)) w hS) Try.call126 (fun w_ hle_ s1_ x0_ h0_ r_ hr_ => G.impl_IsSurface_2.calls w_ s1_ x0_ h0_ r_ hr_)) ?_
    rintro r_4 _ _ ⟨rfl, rfl⟩
    refine TL.not r_4 rfl rfl rfl ?_
    refine TL.assign rfl rfl (v := .bool (!r_4)) rfl ?_
    refine TL.done ?_
    exact TC.retF (Fin.body (fin1 (.inr rfl) rfl (.tmp rfl) [] rfl ⟨rfl, rfl⟩))

end Go.Proofs.Ytiiljfpbcanphaa.G

/- slices.Clone[[]int64,int64], as a pure function. -/
set_option linter.unusedVariables false
namespace Go.Proofs.Ytiiljfpbcanphaa.G
open Go Go.Sx Go.Proofs

def slices_Clone_int64_int64.f (s1 : List Int) : Option (List Int) := small (([] : List Int).length + s1.length) (some (([] : List Int) ++ s1))

def slices_Clone_int64_int64.R (r : List Int) (v : Value) (L : List Asn) : Prop := ∃ (s0 : SV), v = SV.v s0 ∧ L = [row Ei 2 s0 r]

set_option maxRecDepth 100000 in
set_option maxHeartbeats 4000000 in
theorem slices_Clone_int64_int64.calls (w : World) (s2 : SV) (s1 : List Int) (h1 : Reads Ei (hp w) s2 s1) :
  ∀ r, slices_Clone_int64_int64.f s1 = some r → Calls Try.prog 139 #[SV.v s2] w (Ret w (slices_Clone_int64_int64.R r)) := by

 refine calls_T (n := 8) (Γ := [(0, SV.v s2)]) (R := slices_Clone_int64_int64.R) Try.func139 rfl rfl (Nat.le_of_ble_eq_true rfl) ⟨rfl, trivial⟩ ?_
 unfold slices_Clone_int64_int64.f
 refine TC.seq ?_
 refine TC.region ?_
 refine TL.assign rfl rfl (v := SV.v ⟨none, 0, 0⟩) rfl ?_
 refine TL.done ?_
 refine TC.seq ?_
 refine TC.seq ?_
 refine TC.region ?_
 refine TL.move rfl rfl (v := SV.v s2) rfl ?_
 refine TL.isNil s2 Try.underlying22 rfl rfl rfl rfl ?_
 refine TL.done ?_
 refine TC.condN (b := s2.a.isNone) rfl (fun c1 => ?_) (fun c2 => ?_)
 ·have e_ := h1.isnil c1
  refine TC.as (m' := some ([] : List Int)) (by rw [e_]; rfl) ?_
  refine TC.seq ?_
  refine TC.region ?_
  refine TL.assign rfl rfl (v := SV.v ⟨none, 0, 0⟩) rfl ?_
  refine TL.done ?_
  refine TC.nilrow Ei 2 ?_
  exact TC.retF (Fin.body (fin1 (.inr rfl) rfl (.tmp rfl) [0] rfl ⟨⟨none, 0, 0⟩, rfl, rfl⟩))
 ·refine TC.skip ?_
  refine TC.seq ?_
  refine TC.region ?_
  refine TL.bslice0 Ei Try.underlying22 Try.sizeOf2 rfl rfl fun s3 => ?_
  refine TL.move rfl rfl (v := SV.v s2) rfl ?_
  refine TL.small fun h2 => ?_
  refine TL.append 0 rfl (Rd.old h1) Try.underlying22 (info_of Try.type2) (zv := (Try.t2.zero.getD (.bool false))) rfl rfl rfl (by decide) h2 rfl rfl rfl rfl fun s4 => ?_
  refine TL.assign rfl rfl (v := SV.v s4) rfl ?_
  refine TL.done ?_
  exact TC.retF (Fin.body (fin1 (.inr rfl) rfl (.tmp rfl) [0] rfl ⟨s4, rfl, rfl⟩))

end Go.Proofs.Ytiiljfpbcanphaa.G

/- impl.cloneSurface, as a pure function. -/
set_option linter.unusedVariables false
namespace Go.Proofs.Ytiiljfpbcanphaa.G
open Go Go.Sx Go.Proofs

def impl_cloneSurface.b0 (s1 : List (List Int)) : (List (List Int)) × Int → Option (LB ((List (List Int)) × Int)) := fun p => match p with | (out1, x1) => (bif (decide (x1 < (s1.length : Int))) then chk x1 s1.length ((G.slices_Clone_int64_int64.f (gt s1 x1)).bind (fun r_1 => small (out1.length + 1) (some (.next ((out1 ++ [r_1]), (w64 (x1 + 1))))))) else some (.brk (out1, x1)))

def impl_cloneSurface.f (s1 : List (List Int)) : Option (List (List Int)) := (loop1 (impl_cloneSurface.b0 s1) (([] : List (List Int)), 0)).bind (fun p => match p with | (out1, x1) => some out1)

def impl_cloneSurface.R (r : List (List Int)) (v : Value) (L : List Asn) : Prop := ∃ (s0 : SV) (ss0 : List SV), v = SV.v s0 ∧ L = [mat Ei 2 22 s0 ss0 r]

set_option maxRecDepth 100000 in
set_option maxHeartbeats 4000000 in
theorem impl_cloneSurface.calls (w : World) (s2 : SV) (ss1 : List SV) (s1 : List (List Int)) (h1 : ReadsM Ei (hp w) s2 ss1 s1) :
  ∀ r, impl_cloneSurface.f s1 = some r → Calls Try.prog 102 #[SV.v s2] w (Ret w (impl_cloneSurface.R r)) := by

 refine calls_T (n := 20) (Γ := [(0, SV.v s2)]) (R := impl_cloneSurface.R) Try.func102 rfl rfl (Nat.le_of_ble_eq_true rfl) ⟨rfl, trivial⟩ ?_
 unfold impl_cloneSurface.f
 refine TC.seq ?_
 refine TC.region ?_
 refine TL.assign rfl rfl (v := SV.v ⟨none, 0, 0⟩) rfl ?_
 refine TL.done ?_
 refine TC.seq ?_
 refine TC.region ?_
 refine TL.bslice0 Ev Try.underlying32 Try.sizeOf22 rfl rfl fun s3 => ?_
 refine TL.rows0 Ei 2 ?_
 refine TL.matmk 1 0 rfl rfl ?_
 refine TL.asL [mat Ei 2 22 s3 ([] : List SV) ([] : List (List Int)), emp] (by kernel_rfl) ?_
 refine TL.assign rfl rfl (v := SV.v s3) rfl ?_
 refine TL.done ?_
 refine TC.seq ?_
 refine TC.seq ?_
 refine TC.region ?_
 refine TL.move rfl rfl (v := SV.v s2) rfl ?_
 refine TL.lenM (RdM.old h1) Try.underlying32 rfl rfl rfl ?_
 refine TL.move rfl rfl (v := .int .i64 0) rfl ?_
 refine TL.done ?_
 refine TC.loop1 (σ := (List (List Int)) × Int) (γ := SV × (List SV)) (Γ' := (fun p q => match p, q with | (out1, x1), (s4, ss2) => [(3, SV.v s4), (7, SV.v s2), (8, .int .i64 (s1.length : Int)), (9, .int .i64 x1)])) (L' := (fun p q => match p, q with | (out1, x1), (s4, ss2) => [mat Ei 2 22 s4 ss2 out1])) (Γb := (fun p q => match p, q with | (out1, x1), (s4, ss2) => [(3, SV.v s4), (7, SV.v s2), (8, .int .i64 (s1.length : Int)), (9, .int .i64 x1)])) (Lb := (fun p q => match p, q with | (out1, x1), (s4, ss2) => [mat Ei 2 22 s4 ss2 out1])) ((([] : List (List Int)), 0)) ((s3, ([] : List SV))) ⟨rfl, rfl, rfl, rfl, trivial⟩ [0] rfl ?_ ?_
 ·rintro ⟨out1, x1⟩ ⟨s4, ss2⟩
  refine TC.seq ?_
  refine TC.region ?_
  refine TL.bin .i64 x1 (s1.length : Int) rfl rfl rfl rfl (v := .bool (decide (x1 < (s1.length : Int)))) rfl ?_
  refine TL.done ?_
  refine TC.seq ?_
  refine TC.cond (b := (decide (x1 < (s1.length : Int)))) rfl (fun c1 => ?_) (fun c2 => ?_)
  ·refine TC.skip ?_
   refine TC.seq ?_
   refine TC.block (NoEx.loop1 rfl) ?_
   refine TC.seq ?_
   refine TC.region ?_
   refine TL.chk fun h2 => ?_
   refine TL.ixsM x1 x1.toNat (RdM.old h1) h2 Try.underlying32 Try.sizeOf22 rfl rfl rfl rfl (by omega) ?_
   refine TL.loadM2 (RdM.old h1) Try.isAgg22 x1 h2 (by omega) rfl rfl rfl ?_
   refine TL.assign rfl rfl (v := SV.v (gt ss1 x1)) rfl ?_
   refine TL.done ?_
   refine TC.region ?_
   refine TL.move rfl rfl (v := SV.v s4) rfl ?_
   refine TL.move rfl rfl (v := SV.v (gt ss1 x1)) rfl ?_
   refine TL.call (R := G.slices_Clone_int64_int64.R) Try.call139 rfl rfl rfl (fun w hS => G.slices_Clone_int64_int64.calls w (gt ss1 x1) (gt s1 x1) ((RdM.inn (RdM.old h1) h2) w hS)) ?_
   rintro r_1 _ _ ⟨s5, rfl, rfl⟩
   refine TL.blit Ev ([s5] : List SV) Try.underlying32 Try.sizeOf22 Try.zeroValue22 rfl rfl rfl [(0, SV.v s5)] rfl ⟨rfl, rfl, trivial⟩ rfl rfl fun s6 => ?_
   refine TL.small fun h3 => ?_
   refine TL.matlen 2 rfl fun h4 => ?_
   refine TL.matcut 2 rfl ?_
   refine TL.append 0 rfl (Rd.row 1 rfl) Try.underlying32 (info_of Try.type22) (zv := (Try.t22.zero.getD (.bool false))) rfl rfl rfl (by decide) (by have h_ := h3; have l_ := h4; (try simp only [List.length_cons, List.length_nil] at h_ l_ ⊢); omega) rfl rfl rfl rfl fun s7 => ?_
   refine TL.rowsPush 3 2 rfl rfl ?_
   skip
   refine TL.matmk 0 2 rfl rfl ?_
   refine TL.drop 0 rfl ?_
   refine TL.asL [row Ev 22 s6 ([s5] : List SV), mat Ei 2 22 s7 (ss2 ++ [s5]) (out1 ++ [r_1]), emp] (by kernel_rfl) ?_
   refine TL.assign rfl rfl (v := SV.v s7) rfl ?_
   refine TL.done ?_
   refine TC.region ?_
   refine TL.bin .i64 x1 1 rfl rfl rfl rfl (v := .int .i64 (w64 (x1 + 1))) rfl ?_
   refine TL.move rfl rfl (v := .int .i64 (w64 (x1 + 1))) rfl ?_
   refine TL.done ?_
   exact TC.next1 (((out1 ++ [r_1]), (w64 (x1 + 1)))) ((s7, (ss2 ++ [s5]))) ⟨rfl, rfl, rfl, rfl, trivial⟩ [1] rfl
  ·exact TC.brk1 ((out1, x1)) ((s4, ss2)) ⟨rfl, rfl, rfl, rfl, trivial⟩ [0] rfl
 ·rintro ⟨out1, x1⟩ ⟨s4, ss2⟩
  refine TC.seq ?_
  refine TC.region ?_
  refine TL.move rfl rfl (v := SV.v s4) rfl ?_
  refine TL.assign rfl rfl (v := SV.v s4) rfl ?_
  refine TL.done ?_
  exact TC.retF (Fin.body (fin1 (.inr rfl) rfl (.tmp rfl) [0] rfl ⟨s4, ss2, rfl, rfl⟩))

end Go.Proofs.Ytiiljfpbcanphaa.G
