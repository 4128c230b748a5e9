/- Functions of the program, as pure functions. -/
import Derived.Test.YtnppkcemnjkboaaMGenusOf2
import Derived.Test.YtnppkcemnjkboaaProg
/- impl.IsSurface$1, as a pure function. -/
set_option linter.unusedVariables false
namespace Go.Proofs.Ytnppkcemnjkboaa.G
open Go Go.Sx Go.Proofs

def impl_IsSurface_1.f (k_1 : Int) (c1 : List (List Int)) : Option Bool := (bif (k_1 == 0) then some true else (G.impl_edgesOf.f c1).bind (fun r_1 => (G.impl_in.f k_1 (w64 (0 - r_1)) r_1).bind (fun r_3 => some (!r_3))))

def impl_IsSurface_1.R (r : Bool) (v : Value) (L : List Asn) : Prop := v = .bool r ∧ L = []

set_option maxRecDepth 100000 in
set_option maxHeartbeats 4000000 in
theorem impl_IsSurface_1.calls (w : World) (k_1 : Int) (b_1 : Nat) (s1 : SV) (ss1 : List SV) (c1 : List (List Int)) (h2 : At (hp w) b_1 [.one (SV.v s1)]) (h1 : ReadsM Ei (hp w) s1 ss1 c1) :
    ∀ r, impl_IsSurface_1.f k_1 c1 = some r → Calls Try.prog 86 #[.int .i64 k_1, bp b_1 0] w (Ret w (impl_IsSurface_1.R r)) := by

  refine calls_T (n := 16) (Γ := [(0, .int .i64 k_1), (1, bp b_1 0)]) (R := impl_IsSurface_1.R) Try.func86 rfl rfl (Nat.le_of_ble_eq_true rfl) ⟨rfl, rfl, trivial⟩ ?_
  unfold impl_IsSurface_1.f
  refine TC.seq ?_
  refine TC.region ?_
  refine TL.assign rfl rfl (v := .bool false) rfl ?_
  refine TL.done ?_
  refine TC.seq ?_
  refine TC.ifB (k_1 == 0) (fun c2 => ?_) (fun c2 => ?_)
  · refine TC.wk (Γ' := [(0, .int .i64 k_1), (1, bp b_1 0)]) ⟨rfl, rfl, trivial⟩ ?_
    refine TC.drawG [(0, .int .i64 k_1), (1, bp b_1 0)] [] ⟨rfl, rfl, trivial⟩ trivial (fun l_ g2 => []) (fun g2 => [.int .i64 k_1, .bool true, .bool true, undef, undef, undef, undef, undef, undef, undef, undef, .bool true, .bool true]) [[], [0], [0, 1], [0, 1, 2], [0, 1, 2], [0, 1, 2, 4], [0, 1, 2, 4, 5], [0, 1, 2], [0, 1, 2, 4, 5, 7], [0, 1, 2, 3, 4, 5, 6, 7, 8], [0, 1, 2, 3, 4, 5, 6, 7, 8, 9], [0, 1, 2, 3, 4, 5, 6, 7, 8, 9, 10], [0, 1, 2, 3, 4, 5, 6, 7, 8, 9, 10, 11]] [[some false, some false, some false, some false, some false, some false, some false, some false, some false, some false, some false, some false, some false], [some true, some false, some false, some false, some false, some false, some false, some false, some false, some false, some false, some false, some false], [some true, some true, some false, some false, some false, some false, some false, some false, some false, some false, some false, some false, some false], [some true, some true, some true, some false, none, none, none, none, none, some false, some false, some false, some false], [some true, some true, some true, none, some false, some false, some false, none, some false, some false, some false, some false, some false], [some true, some true, some true, none, some true, some false, some false, none, some false, some false, some false, some false, some false], [some true, some true, some true, none, some true, some true, some false, none, none, some false, some false, some false, some false], [some true, some true, some true, none, none, none, none, some false, some false, some false, some false, some false, some false], [some true, some true, some true, none, some true, some true, none, some true, some false, some false, some false, some false, some false], [some true, some true, some true, some true, some true, some true, some true, some true, some true, some false, some false, some false, some false], [some true, some true, some true, some true, some true, some true, some true, some true, some true, some true, some false, some false, some false], [some true, some true, some true, some true, some true, some true, some true, some true, some true, some true, some true, some false, some false], [some true, some true, some true, some true, some true, some true, some true, some true, some true, some true, some true, some true, some false]] (by kernel_rfl) (fun _ => rfl) rfl rfl rfl rfl rfl (fun _ _ => ⟨⟨⟨⟨⟨⟨⟨⟨⟨⟨⟨⟨⟨trivial, rfl⟩, rfl⟩, rfl⟩, rfl⟩, rfl⟩, rfl⟩, rfl⟩, rfl⟩, rfl⟩, rfl⟩, rfl⟩, rfl⟩, rfl⟩) 0 [] (fun _ => rfl) ?_ ?_
    · refine ⟨rfl, ?_, rfl, ?_, rfl, ?_, rfl, ?_, rfl, ?_, rfl, ?_, rfl, ?_, rfl, ?_, rfl, ?_, rfl, ?_, rfl, ?_, rfl, ?_, rfl, ?_, trivial⟩
      · intro g2
        refine TL.move rfl rfl (v := .int .i64 k_1) rfl ?_
        refine TL.done ?_
        exact TC.nrm () [] ⟨rfl, trivial⟩ [] rfl
      · intro g2
        refine TL.bin .i64 k_1 0 rfl rfl rfl rfl (v := .bool (k_1 == 0)) rfl ?_
        refine TL.done ?_
        exact TC.nrm () [] ⟨(by rw [c2]; rfl), trivial⟩ [] rfl
      · intro g2
        refine TL.move rfl rfl (v := .bool true) rfl ?_
        refine TL.done ?_
        exact TC.nrm () [] ⟨rfl, trivial⟩ [] rfl
      · intro b4_ b5_ b6_ b7_ b8_ g2
        refine TL.skip rfl rfl (by decide) ?_
        refine TL.done ?_
        exact TC.nrm () [] ⟨rfl, trivial⟩ [] rfl
      · intro b3_ b7_ g2
        refine TL.asL [] rfl ?_
        refine TL.skip rfl rfl (by decide) ?_
        refine TL.done ?_
        exact TC.nrm () [] ⟨rfl, trivial⟩ [] rfl
      · intro b3_ b7_ g2
        refine TL.asL [] rfl ?_
        refine TL.skip rfl rfl (by decide) ?_
        refine TL.done ?_
        exact TC.nrm () [] ⟨rfl, trivial⟩ [] rfl
      · intro b3_ b7_ b8_ g2
        refine TL.skip rfl rfl (by decide) ?_
        refine TL.done ?_
        exact TC.nrm () [] ⟨rfl, trivial⟩ [] rfl
      · intro b3_ b4_ b5_ b6_ g2
        refine TL.asL [] rfl ?_
        refine TL.skip rfl rfl (by decide) ?_
        refine TL.done ?_
        exact TC.nrm () [] ⟨rfl, trivial⟩ [] rfl
      · intro b3_ b6_ g2
        refine TL.asL [] rfl ?_
        refine TL.skip rfl rfl (by decide) ?_
        refine TL.done ?_
        exact TC.nrm () [] ⟨rfl, trivial⟩ [] rfl
      · intro g2
        refine TL.asL [] rfl ?_
        refine TL.skip rfl rfl (by decide) ?_
        refine TL.done ?_
        exact TC.nrm () [] ⟨rfl, trivial⟩ [] rfl
      · intro g2
        refine TL.skip rfl rfl (by decide) ?_
        refine TL.done ?_
        exact TC.nrm () [] ⟨rfl, trivial⟩ [] rfl
      · intro g2
        refine TL.pick rfl rfl (b := true) rfl (r := .bool true) rfl ?_
        refine TL.done ?_
        exact TC.nrm () [] ⟨rfl, trivial⟩ [] rfl
      · intro g2
        refine TL.assign rfl rfl (v := .bool true) rfl ?_
        refine TL.done ?_
        exact TC.nrm () [] ⟨rfl, trivial⟩ [] rfl
    · intro g2
      refine TC.asL [] rfl ?_
      exact TC.retF (Fin.body (fin1 (.inr rfl) rfl (.tmp rfl) [] rfl ⟨rfl, rfl⟩))
  · refine TC.wk (Γ' := [(0, .int .i64 k_1), (1, bp b_1 0)]) ⟨rfl, rfl, trivial⟩ ?_
    refine TC.bindE ?_
    rintro r_1 hr1
    refine TC.bindE ?_
    rintro r_3 hr2
    refine TC.drawG [(0, .int .i64 k_1), (1, bp b_1 0)] [] ⟨rfl, rfl, trivial⟩ trivial (fun l_ g3 => []) (fun g3 => [.int .i64 k_1, .bool false, .bool false, .int .i64 k_1, SV.v s1, .int .i64 r_1, .int .i64 (w64 (0 - r_1)), SV.v s1, .int .i64 r_1, .bool r_3, .bool (!r_3), .bool (!r_3), .bool (!r_3)]) [[], [0], [0, 1], [0, 1, 2], [0, 1, 2], [0, 1, 2, 4], [0, 1, 2, 4, 5], [0, 1, 2], [0, 1, 2, 4, 5, 7], [0, 1, 2, 3, 4, 5, 6, 7, 8], [0, 1, 2, 3, 4, 5, 6, 7, 8, 9], [0, 1, 2, 3, 4, 5, 6, 7, 8, 9, 10], [0, 1, 2, 3, 4, 5, 6, 7, 8, 9, 10, 11]] [[some false, some false, some false, some false, some false, some false, some false, some false, some false, some false, some false, some false, some false], [some true, some false, some false, some false, some false, some false, some false, some false, some false, some false, some false, some false, some false], [some true, some true, some false, some false, some false, some false, some false, some false, some false, some false, some false, some false, some false], [some true, some true, some true, some false, none, none, none, none, none, some false, some false, some false, some false], [some true, some true, some true, none, some false, some false, some false, none, some false, some false, some false, some false, some false], [some true, some true, some true, none, some true, some false, some false, none, some false, some false, some false, some false, some false], [some true, some true, some true, none, some true, some true, some false, none, none, some false, some false, some false, some false], [some true, some true, some true, none, none, none, none, some false, some false, some false, some false, some false, some false], [some true, some true, some true, none, some true, some true, none, some true, some false, some false, some false, some false, some false], [some true, some true, some true, some true, some true, some true, some true, some true, some true, some false, some false, some false, some false], [some true, some true, some true, some true, some true, some true, some true, some true, some true, some true, some false, some false, some false], [some true, some true, some true, some true, some true, some true, some true, some true, some true, some true, some true, some false, some false], [some true, some true, some true, some true, some true, some true, some true, some true, some true, some true, some true, some true, some false]] (by kernel_rfl) (fun _ => rfl) rfl rfl rfl rfl rfl (fun _ _ => ⟨⟨⟨⟨⟨⟨⟨⟨⟨⟨⟨⟨⟨trivial, rfl⟩, rfl⟩, rfl⟩, rfl⟩, rfl⟩, rfl⟩, rfl⟩, rfl⟩, rfl⟩, rfl⟩, rfl⟩, rfl⟩, rfl⟩) 0 [] (fun _ => rfl) ?_ ?_
    · refine ⟨rfl, ?_, rfl, ?_, rfl, ?_, rfl, ?_, rfl, ?_, rfl, ?_, rfl, ?_, rfl, ?_, rfl, ?_, rfl, ?_, rfl, ?_, rfl, ?_, rfl, ?_, trivial⟩
      · intro g3
        refine TL.move rfl rfl (v := .int .i64 k_1) rfl ?_
        refine TL.done ?_
        exact TC.nrm () [] ⟨rfl, trivial⟩ [] rfl
      · intro g3
        refine TL.bin .i64 k_1 0 rfl rfl rfl rfl (v := .bool (k_1 == 0)) rfl ?_
        refine TL.done ?_
        exact TC.nrm () [] ⟨(by rw [c2]; rfl), trivial⟩ [] rfl
      · intro g3
        refine TL.move rfl rfl (v := .bool false) rfl ?_
        refine TL.done ?_
        exact TC.nrm () [] ⟨rfl, trivial⟩ [] rfl
      · intro b4_ b5_ b6_ b7_ b8_ g3
        refine TL.move rfl rfl (v := .int .i64 k_1) rfl ?_
        refine TL.done ?_
        exact TC.nrm () [] ⟨rfl, trivial⟩ [] rfl
      · intro b3_ b7_ g3
        refine TL.asL [] rfl ?_
        refine TL.load1 0 (Src.at h2) Try.isAgg22 rfl rfl rfl rfl rfl ?_
        refine TL.done ?_
        exact TC.nrm () [] ⟨rfl, trivial⟩ [] rfl
      · intro b3_ b7_ g3
        refine TL.asL [] rfl ?_
        refine TL.callH (R := G.impl_edgesOf.R) hr1 Try.call62 rfl rfl rfl (fun w hS => G.impl_edgesOf.calls w s1 ss1 c1 ((RdM.old h1) w hS)) ?_
        rintro _ _ ⟨rfl, rfl⟩
        refine TL.done ?_
        exact TC.nrm () [] ⟨rfl, trivial⟩ [] rfl
      · intro b3_ b7_ b8_ g3
        refine TL.neg .i64 r_1 rfl rfl rfl ?_
        refine TL.done ?_
        exact TC.nrm () [] ⟨rfl, trivial⟩ [] rfl
      · intro b3_ b4_ b5_ b6_ g3
        refine TL.asL [] rfl ?_
        refine TL.load1 0 (Src.at h2) Try.isAgg22 rfl rfl rfl rfl rfl ?_
        refine TL.done ?_
        exact TC.nrm () [] ⟨rfl, trivial⟩ [] rfl
      · intro b3_ b6_ g3
        refine TL.asL [] rfl ?_
        refine TL.callH (R := G.impl_edgesOf.R) hr1 Try.call62 rfl rfl rfl (fun w hS => G.impl_edgesOf.calls w s1 ss1 c1 ((RdM.old h1) w hS)) ?_
        rintro _ _ ⟨rfl, rfl⟩
        refine TL.done ?_
        exact TC.nrm () [] ⟨rfl, trivial⟩ [] rfl
      · intro g3
        refine TL.asL [] rfl ?_
        refine TL.callH (R := G.impl_in.R) hr2 Try.call60 rfl rfl rfl (fun w hS => G.impl_in.calls w k_1 (w64 (0 - r_1)) r_1) ?_
        rintro _ _ ⟨rfl, rfl⟩
        refine TL.done ?_
        exact TC.nrm () [] ⟨rfl, trivial⟩ [] rfl
      · intro g3
        refine TL.not r_3 rfl rfl rfl ?_
        refine TL.done ?_
        exact TC.nrm () [] ⟨rfl, trivial⟩ [] rfl
      · intro g3
        refine TL.pick rfl rfl (b := false) rfl (r := .bool (!r_3)) rfl ?_
        refine TL.done ?_
        exact TC.nrm () [] ⟨rfl, trivial⟩ [] rfl
      · intro g3
        refine TL.assign rfl rfl (v := .bool (!r_3)) rfl ?_
        refine TL.done ?_
        exact TC.nrm () [] ⟨rfl, trivial⟩ [] rfl
    · intro g3
      refine TC.asL [] rfl ?_
      exact TC.retF (Fin.body (fin1 (.inr rfl) rfl (.tmp rfl) [] rfl ⟨rfl, rfl⟩))

end Go.Proofs.Ytnppkcemnjkboaa.G

/- impl.sided], as a pure function. -/
set_option linter.unusedVariables false
namespace Go.Proofs.Ytnppkcemnjkboaa.G
open Go Go.Sx Go.Proofs

def slices_IndexFunc_impl_sided_impl_sided.b0 (s1 : List (List (Int × Int))) (f2 : (List (Int × Int)) → Option Bool) : Int → Option (LR Int Int) := fun x1 => (bif (decide (x1 < (s1.length : Int))) then chk x1 s1.length ((f2 (gt s1 x1)).bind (fun r_1 => (bif r_1 then some (.ret (x1)) else some (.next (w64 (x1 + 1)))))) else some (.brk x1))

def slices_IndexFunc_impl_sided_impl_sided.f (s1 : List (List (Int × Int))) (f2 : (List (Int × Int)) → Option Bool) : Option Int := (loop (slices_IndexFunc_impl_sided_impl_sided.b0 s1 f2) 0).bind (ln (fun x1 => some (-1)))

def slices_IndexFunc_impl_sided_impl_sided.R (r : Int) (v : Value) (L : List Asn) : Prop := v = .int .i64 r ∧ L = []

set_option maxRecDepth 100000 in
set_option maxHeartbeats 4000000 in
theorem slices_IndexFunc_impl_sided_impl_sided.calls (w : World) (s2 : SV) (ss1 : List SV) (s1 : List (List (Int × Int))) (f1 : Nat) (fst1 : List Value) (cap1 : List Value) (f2 : (List (Int × Int)) → Option Bool) (h1 : ReadsM Eii (hp w) s2 ss1 s1) (hc1 : ∀ (args_ : Array Value) (w_ : World), (callFunc f1 args_).run Try.prog w_ = .ok (.enter f1 args_) w_) (hf1 : ∀ w_, Hle (hp w) (hp w_) → ∀ (s1_ : SV) (x0_ : List (Int × Int)), Reads Eii (hp w_) s1_ x0_ → ∀ r_, f2 x0_ = some r_ → Calls Try.prog f1 (fst1 ++ ([SV.v s1_] : List Value) ++ cap1).toArray w_ (Ret w_ (fun (v_ : Value) (L_ : List Asn) => v_ = .bool r_ ∧ L_ = []))) :
    ∀ r, slices_IndexFunc_impl_sided_impl_sided.f s1 f2 = some r → Calls Try.prog 117 #[SV.v s2, .func (.func f1) fst1.toArray cap1.toArray] w (Ret w (slices_IndexFunc_impl_sided_impl_sided.R r)) := by

  refine calls_T (n := 19) (Γ := [(0, SV.v s2), (1, .func (.func f1) fst1.toArray cap1.toArray)]) (R := slices_IndexFunc_impl_sided_impl_sided.R) Try.func117 rfl rfl (Nat.le_of_ble_eq_true rfl) ⟨rfl, rfl, trivial⟩ ?_
  unfold slices_IndexFunc_impl_sided_impl_sided.f
  refine TC.seq ?_
  refine TC.region ?_
  refine TL.assign rfl rfl (v := .int .i64 0) rfl ?_
  refine TL.done ?_
  refine TC.seq ?_
  refine TC.seq ?_
  refine TC.region ?_
  refine TL.move rfl rfl (v := SV.v s2) rfl ?_
  refine TL.lenM (RdM.old h1) Try.underlying65 rfl rfl rfl ?_
  refine TL.move rfl rfl (v := .int .i64 0) rfl ?_
  refine TL.done ?_
  refine TC.loopK (σ := Int) (γ := Unit) (Γ' := (fun x1 _ => [(0, SV.v s2), (1, .func (.func f1) fst1.toArray cap1.toArray), (7, .int .i64 (s1.length : Int)), (8, .int .i64 x1)])) (L' := (fun x1 _ => [])) (Γb := (fun x1 _ => [(0, SV.v s2), (1, .func (.func f1) fst1.toArray cap1.toArray), (7, .int .i64 (s1.length : Int)), (8, .int .i64 x1)])) (Lb := (fun x1 _ => [])) (0) (()) ⟨rfl, rfl, rfl, rfl, trivial⟩ [] rfl ?_ ?_
  · rintro x1 _
    refine TC.seq ?_
    refine TC.region ?_
    refine TL.bin .i64 x1 (s1.length : Int) rfl rfl rfl rfl (v := .bool (decide (x1 < (s1.length : Int)))) rfl ?_
    refine TL.done ?_
    refine TC.seq ?_
    refine TC.cond (b := (decide (x1 < (s1.length : Int)))) rfl (fun c1 => ?_) (fun c2 => ?_)
    · refine TC.skip ?_
      refine TC.seq ?_
      refine TC.block (NoEx.loop rfl NoEx.body) ?_
      refine TC.seq ?_
      refine TC.region ?_
      refine TL.move rfl rfl (v := .int .i64 x1) rfl ?_
      refine TL.assign rfl rfl (v := .int .i64 x1) rfl ?_
      refine TL.done ?_
      refine TC.seq ?_
      refine TC.region ?_
      refine TL.move rfl rfl (v := .func (.func f1) fst1.toArray cap1.toArray) rfl ?_
      refine TL.move rfl rfl (v := SV.v s2) rfl ?_
      refine TL.move rfl rfl (v := .int .i64 x1) rfl ?_
      refine TL.chk fun h2 => ?_
      refine TL.ixsM x1 x1.toNat (RdM.old h1) h2 Try.underlying65 Try.sizeOf64 rfl rfl rfl rfl (by omega) ?_
      refine TL.loadM2 (RdM.old h1) Try.isAgg64 x1 h2 (by omega) rfl rfl rfl ?_
      refine TL.callv (R := (fun r_ => (fun (v_ : Value) (L_ : List Asn) => v_ = .bool r_ ∧ L_ = []))) (vs := [SV.v (gt ss1 x1)]) hc1 rfl rfl rfl rfl (fun w hS => hf1 w hS.iw (gt ss1 x1) (gt s1 x1) ((RdM.inn (RdM.old h1) h2) w hS)) ?_
      rintro r_1 _ _ ⟨rfl, rfl⟩
      refine TL.done ?_
      refine TC.cond (b := r_1) rfl (fun c3 => ?_) (fun c4 => ?_)
      · refine TC.seq ?_
        refine TC.region ?_
        refine TL.move rfl rfl (v := .int .i64 x1) rfl ?_
        refine TL.assign rfl rfl (v := .int .i64 x1) rfl ?_
        refine TL.done ?_
        exact TC.retF (Fin.loop Far.ret (Fin.body (fin1 (.inr rfl) rfl (.tmp rfl) [] rfl ⟨rfl, rfl⟩)))
      · refine TC.skip ?_
        refine TC.region ?_
        refine TL.bin .i64 x1 1 rfl rfl rfl rfl (v := .int .i64 (w64 (x1 + 1))) rfl ?_
        refine TL.move rfl rfl (v := .int .i64 (w64 (x1 + 1))) rfl ?_
        refine TL.done ?_
        exact TC.next ((w64 (x1 + 1))) (()) ⟨rfl, rfl, rfl, rfl, trivial⟩ [] rfl
    · exact TC.brk (x1) (()) ⟨rfl, rfl, rfl, rfl, trivial⟩ [] rfl
  · rintro x1 _
    refine TC.seq ?_
    refine TC.region ?_
    refine TL.assign rfl rfl (v := .int .i64 (-1)) rfl ?_
    refine TL.done ?_
    exact TC.retF (Fin.body (fin1 (.inr rfl) rfl (.tmp rfl) [] rfl ⟨rfl, rfl⟩))

end Go.Proofs.Ytnppkcemnjkboaa.G

/- impl.sided], as a pure function. -/
set_option linter.unusedVariables false
namespace Go.Proofs.Ytnppkcemnjkboaa.G
open Go Go.Sx Go.Proofs

def slices_ContainsFunc_impl_sided_impl_sided.f (s1 : List (List (Int × Int))) (f2 : (List (Int × Int)) → Option Bool) : Option Bool := (G.slices_IndexFunc_impl_sided_impl_sided.f s1 f2).bind (fun r_1 => some (decide (r_1 ≥ 0)))

def slices_ContainsFunc_impl_sided_impl_sided.R (r : Bool) (v : Value) (L : List Asn) : Prop := v = .bool r ∧ L = []

set_option maxRecDepth 100000 in
set_option maxHeartbeats 4000000 in
theorem slices_ContainsFunc_impl_sided_impl_sided.calls (w : World) (s2 : SV) (ss1 : List SV) (s1 : List (List (Int × Int))) (f1 : Nat) (fst1 : List Value) (cap1 : List Value) (f2 : (List (Int × Int)) → Option Bool) (h1 : ReadsM Eii (hp w) s2 ss1 s1) (hc1 : ∀ (args_ : Array Value) (w_ : World), (callFunc f1 args_).run Try.prog w_ = .ok (.enter f1 args_) w_) (hf1 : ∀ w_, Hle (hp w) (hp w_) → ∀ (s1_ : SV) (x0_ : List (Int × Int)), Reads Eii (hp w_) s1_ x0_ → ∀ r_, f2 x0_ = some r_ → Calls Try.prog f1 (fst1 ++ ([SV.v s1_] : List Value) ++ cap1).toArray w_ (Ret w_ (fun (v_ : Value) (L_ : List Asn) => v_ = .bool r_ ∧ L_ = []))) :
    ∀ r, slices_ContainsFunc_impl_sided_impl_sided.f s1 f2 = some r → Calls Try.prog 87 #[SV.v s2, .func (.func f1) fst1.toArray cap1.toArray] w (Ret w (slices_ContainsFunc_impl_sided_impl_sided.R r)) := by

  refine calls_T (n := 9) (Γ := [(0, SV.v s2), (1, .func (.func f1) fst1.toArray cap1.toArray)]) (R := slices_ContainsFunc_impl_sided_impl_sided.R) Try.func87 rfl rfl (Nat.le_of_ble_eq_true rfl) ⟨rfl, rfl, trivial⟩ ?_
  unfold slices_ContainsFunc_impl_sided_impl_sided.f
  refine TC.seq ?_
  refine TC.region ?_
  refine TL.assign rfl rfl (v := .bool false) rfl ?_
  refine TL.done ?_
  refine TC.seq ?_
  refine TC.region ?_
  refine TL.move rfl rfl (v := SV.v s2) rfl ?_
  refine TL.move rfl rfl (v := .func (.func f1) fst1.toArray cap1.toArray) rfl ?_
  refine TL.call (R := G.slices_IndexFunc_impl_sided_impl_sided.R) Try.call117 rfl rfl rfl (fun w hS => G.slices_IndexFunc_impl_sided_impl_sided.calls w s2 ss1 s1 f1 fst1 cap1 f2 ((RdM.old h1) w hS) hc1 (fun w_ hle_ => hf1 w_ (hS.iw.trans hle_))) ?_
  rintro r_1 _ _ ⟨rfl, rfl⟩
  refine TL.bin .i64 r_1 0 rfl rfl rfl rfl (v := .bool (decide (r_1 ≥ 0))) rfl ?_
  refine TL.assign rfl rfl (v := .bool (decide (r_1 ≥ 0))) rfl ?_
  refine TL.done ?_
  exact TC.retF (Fin.body (fin1 (.inr rfl) rfl (.tmp rfl) [] rfl ⟨rfl, rfl⟩))

end Go.Proofs.Ytnppkcemnjkboaa.G

/- impl.IsSurface$2, as a pure function. -/
set_option linter.unusedVariables false
namespace Go.Proofs.Ytnppkcemnjkboaa.G
open Go Go.Sx Go.Proofs

def impl_IsSurface_2.f (list_1 : List (Int × Int)) : Option Bool := some ((list_1.length : Int) != 2)

def impl_IsSurface_2.R (r : Bool) (v : Value) (L : List Asn) : Prop := v = .bool r ∧ L = []

set_option maxRecDepth 100000 in
set_option maxHeartbeats 4000000 in
theorem impl_IsSurface_2.calls (w : World) (s1 : SV) (list_1 : List (Int × Int)) (h1 : Reads Eii (hp w) s1 list_1) :
    ∀ r, impl_IsSurface_2.f list_1 = some r → Calls Try.prog 88 #[SV.v s1] w (Ret w (impl_IsSurface_2.R r)) := by

  refine calls_T (n := 6) (Γ := [(0, SV.v s1)]) (R := impl_IsSurface_2.R) Try.func88 rfl rfl (Nat.le_of_ble_eq_true rfl) ⟨rfl, trivial⟩ ?_
  unfold impl_IsSurface_2.f
  refine TC.seq ?_
  refine TC.region ?_
  refine TL.assign rfl rfl (v := .bool false) rfl ?_
  refine TL.done ?_
  refine TC.seq ?_
  refine TC.region ?_
  refine TL.move rfl rfl (v := SV.v s1) rfl ?_
  refine TL.len (Rd.old h1) Try.underlying64 rfl rfl rfl ?_
  refine TL.bin .i64 (list_1.length : Int) 2 rfl rfl rfl rfl (v := .bool ((list_1.length : Int) != 2)) rfl ?_
  refine TL.assign rfl rfl (v := .bool ((list_1.length : Int) != 2)) rfl ?_
  refine TL.done ?_
  exact TC.retF (Fin.body (fin1 (.inr rfl) rfl (.tmp rfl) [] rfl ⟨rfl, rfl⟩))

end Go.Proofs.Ytnppkcemnjkboaa.G

/- impl.IsSurface, as a pure function. -/
set_option linter.unusedVariables false
namespace Go.Proofs.Ytnppkcemnjkboaa.G
open Go Go.Sx Go.Proofs

def impl_IsSurface.b0 (s1 : List (List Int)) : Int → Option (LR Int Bool) := fun x1 => (bif (decide (x1 < (s1.length : Int))) then chk x1 s1.length ((bif (((gt s1 x1).length : Int) != 3) then some true else (G.slices_ContainsFunc_int64_int64.f (gt s1 x1) (fun x0_ => G.impl_IsSurface_1.f x0_ s1)).bind (fun r_2 => some r_2)).bind (fun b_2 => (bif b_2 then some (.ret (false)) else some (.next (w64 (x1 + 1)))))) else some (.brk x1))

def impl_IsSurface.f (s1 : List (List Int)) : Option Bool := (G.impl_in.f (s1.length : Int) 2 12).bind (fun r_1 => (bif ((!r_1) || ((Int.tmod (s1.length : Int) 2) != 0)) then some false else (loop (impl_IsSurface.b0 s1) 0).bind (ln (fun x1 => (G.impl_sidesOfEdges.f s1).bind (fun r_3 => grd (decide (0 ≤ 1) && decide (1 ≤ (r_3.length : Int)) && decide ((r_3.length : Int) ≤ (r_3.length : Int))) ((G.slices_ContainsFunc_impl_sided_impl_sided.f ((r_3.drop 1).take (r_3.length - 1)) G.impl_IsSurface_2.f).bind (fun r_4 => some (!r_4))))))))

def impl_IsSurface.R (r : Bool) (v : Value) (L : List Asn) : Prop := v = .bool r ∧ L = []

set_option maxRecDepth 100000 in
set_option maxHeartbeats 4000000 in
theorem impl_IsSurface.calls (w : World) (s2 : SV) (ss1 : List SV) (s1 : List (List Int)) (h1 : ReadsM Ei (hp w) s2 ss1 s1) :
    ∀ r, impl_IsSurface.f s1 = some r → Calls Try.prog 37 #[SV.v s2] w (Ret w (impl_IsSurface.R r)) := by

  refine calls_T (n := 35) (Γ := [(0, SV.v s2)]) (R := impl_IsSurface.R) Try.func37 rfl rfl (Nat.le_of_ble_eq_true rfl) ⟨rfl, trivial⟩ ?_
  unfold impl_IsSurface.f
  refine TC.seq ?_
  refine TC.region ?_
  refine TL.box [.one (SV.v s2)] rfl rfl rfl rfl fun b_1 => ?_
  refine TL.assign rfl rfl (v := .bool false) rfl ?_
  refine TL.done ?_
  refine TC.seq ?_
  refine TC.seq ?_
  refine TC.region ?_
  refine TL.load1 0 (Src.box 0 rfl) Try.isAgg22 rfl rfl rfl rfl rfl ?_
  refine TL.lenM (RdM.old h1) Try.underlying22 rfl rfl rfl ?_
  refine TL.call (R := G.impl_in.R) Try.call60 rfl rfl rfl (fun w hS => G.impl_in.calls w (s1.length : Int) 2 12) ?_
  rintro r_1 _ _ ⟨rfl, rfl⟩
  refine TL.not r_1 rfl rfl rfl ?_
  refine TL.move rfl rfl (v := .bool (!r_1)) rfl ?_
  refine TL.cutU 5 [(14, .bool ((!r_1) || ((Int.tmod (s1.length : Int) 2) != 0))), (0, SV.v s2), (1, bp b_1 0), (2, .bool false), (5, SV.v s2), (6, .int .i64 (s1.length : Int)), (7, .bool r_1), (8, .bool (!r_1)), (9, .bool (!r_1))] [box b_1 22 [.one (SV.v s2)]] ?_ ?_
  · refine TL.cases (t := 9) (b := (!r_1)) rfl (fun c1 => ?_) (fun c2 => ?_)
    · refine TL.skip rfl rfl (by decide) ?_
      refine TL.skip rfl rfl (by decide) ?_
      refine TL.skip rfl rfl (by decide) ?_
      refine TL.skip rfl rfl (by decide) ?_
      refine TL.pick rfl rfl (b := true) rfl (r := .bool true) rfl ?_
      refine TL.done ?_
      exact TC.nrm () () ⟨(by rw [c1]; rfl), rfl, rfl, rfl, rfl, rfl, rfl, rfl, (by rw [c1]; rfl), trivial⟩ [0] rfl
    · refine TL.load1 0 (Src.box 0 rfl) Try.isAgg22 rfl rfl rfl rfl rfl ?_
      refine TL.lenM (RdM.old h1) Try.underlying22 rfl rfl rfl ?_
      refine TL.rem .i64 (s1.length : Int) 2 (by decide) rfl rfl rfl rfl ?_
      refine TL.bin .i64 (Int.tmod (s1.length : Int) 2) 0 rfl rfl rfl rfl (v := .bool ((Int.tmod (s1.length : Int) 2) != 0)) rfl ?_
      refine TL.pick rfl rfl (b := false) rfl (r := .bool ((Int.tmod (s1.length : Int) 2) != 0)) rfl ?_
      refine TL.done ?_
      exact TC.nrm () () ⟨(by rw [c2]; rfl), rfl, rfl, rfl, rfl, rfl, rfl, rfl, (by rw [c2]; rfl), trivial⟩ [0] rfl
  · refine TL.done ?_
    refine TC.cond (b := ((!r_1) || ((Int.tmod (s1.length : Int) 2) != 0))) rfl (fun c3 => ?_) (fun c4 => ?_)
    · refine TC.seq ?_
      refine TC.region ?_
      refine TL.assign rfl rfl (v := .bool false) rfl ?_
      refine TL.done ?_
      exact TC.retF (Fin.body (fin1 (.inr rfl) rfl (.tmp rfl) [] rfl ⟨rfl, rfl⟩))
    · refine TC.skip ?_
      refine TC.seq ?_
      refine TC.seq ?_
      refine TC.region ?_
      refine TL.load1 0 (Src.box 0 rfl) Try.isAgg22 rfl rfl rfl rfl rfl ?_
      refine TL.lenM (RdM.old h1) Try.underlying22 rfl rfl rfl ?_
      refine TL.move rfl rfl (v := .int .i64 0) rfl ?_
      refine TL.done ?_
      refine TC.loopK (σ := Int) (γ := Unit) (Γ' := (fun x1 _ => [(1, bp b_1 0), (15, SV.v s2), (16, .int .i64 (s1.length : Int)), (17, .int .i64 x1)])) (L' := (fun x1 _ => [box b_1 22 [.one (SV.v s2)]])) (Γb := (fun x1 _ => [(1, bp b_1 0), (15, SV.v s2), (16, .int .i64 (s1.length : Int)), (17, .int .i64 x1)])) (Lb := (fun x1 _ => [box b_1 22 [.one (SV.v s2)]])) (0) (()) ⟨rfl, rfl, rfl, rfl, trivial⟩ [0] rfl ?_ ?_
      · rintro x1 _
        refine TC.seq ?_
        refine TC.region ?_
        refine TL.bin .i64 x1 (s1.length : Int) rfl rfl rfl rfl (v := .bool (decide (x1 < (s1.length : Int)))) rfl ?_
        refine TL.done ?_
        refine TC.seq ?_
        refine TC.cond (b := (decide (x1 < (s1.length : Int)))) rfl (fun c5 => ?_) (fun c6 => ?_)
        · refine TC.skip ?_
          refine TC.seq ?_
          refine TC.block (NoEx.loop rfl NoEx.body) ?_
          refine TC.seq ?_
          refine TC.region ?_
          refine TL.chk fun h2 => ?_
          refine TL.ixsM x1 x1.toNat (RdM.old h1) h2 Try.underlying22 Try.sizeOf53 rfl rfl rfl rfl (by omega) ?_
          refine TL.loadM2 (RdM.old h1) Try.isAgg53 x1 h2 (by omega) rfl rfl rfl ?_
          refine TL.assign rfl rfl (v := SV.v (gt ss1 x1)) rfl ?_
          refine TL.done ?_
          refine TC.seq ?_
          refine TC.region ?_
          refine TL.move rfl rfl (v := SV.v (gt ss1 x1)) rfl ?_
          refine TL.len (RdM.inn (RdM.old h1) h2) Try.underlying53 rfl rfl rfl ?_
          refine TL.bin .i64 ((gt s1 x1).length : Int) 3 rfl rfl rfl rfl (v := .bool (((gt s1 x1).length : Int) != 3)) rfl ?_
          refine TL.move rfl rfl (v := .bool (((gt s1 x1).length : Int) != 3)) rfl ?_
          refine TL.cutJ (σ := Bool) (γ := Unit) (Γ' := fun b_2 _ => [(28, .bool b_2), (1, bp b_1 0), (15, SV.v s2), (16, .int .i64 (s1.length : Int)), (17, .int .i64 x1), (18, .bool (decide (x1 < (s1.length : Int)))), (19, ep s2 x1.toNat), (20, SV.v (gt ss1 x1)), (4, SV.v (gt ss1 x1)), (21, SV.v (gt ss1 x1)), (22, .int .i64 ((gt s1 x1).length : Int)), (23, .bool (((gt s1 x1).length : Int) != 3)), (24, .bool (((gt s1 x1).length : Int) != 3))]) (L' := fun _ _ => [box b_1 22 [.one (SV.v s2)]]) 4 ?_ ?_
          · refine TL.ifb (t := 24) (b := (((gt s1 x1).length : Int) != 3)) rfl (fun c7 => ?_) (fun c8 => ?_)
            · refine TL.skip rfl rfl (by decide) ?_
              refine TL.skip rfl rfl (by decide) ?_
              refine TL.skip rfl rfl (by decide) ?_
              refine TL.pick rfl rfl (b := true) rfl (r := .bool true) rfl ?_
              refine TL.done ?_
              exact TC.nrm (true) () ⟨rfl, rfl, rfl, rfl, rfl, rfl, rfl, rfl, rfl, rfl, rfl, rfl, (by rw [c7]; rfl), trivial⟩ [0] rfl
            · refine TL.move rfl rfl (v := SV.v (gt ss1 x1)) rfl ?_
              refine TL.makeFunc rfl rfl (us := []) (vs := [bp b_1 0]) rfl rfl ?_
              refine TL.call (R := G.slices_ContainsFunc_int64_int64.R) Try.call77 rfl rfl rfl (fun w hS => G.slices_ContainsFunc_int64_int64.calls w (gt ss1 x1) (gt s1 x1) 86 [] [bp b_1 0] (fun x0_ => G.impl_IsSurface_1.f x0_ s1) ((RdM.inn (RdM.old h1) h2) w hS) Try.call86 (fun w_ hle_ x0_ r_ hr_ => G.impl_IsSurface_1.calls w_ x0_ b_1 s2 ss1 s1 (((Src.box 0 rfl) w hS).mono hle_) (((RdM.old h1) w hS).mono hle_) r_ hr_)) ?_
              rintro r_2 _ _ ⟨rfl, rfl⟩
              refine TL.pick rfl rfl (b := false) rfl (r := .bool r_2) rfl ?_
              refine TL.done ?_
              exact TC.nrm (r_2) () ⟨rfl, rfl, rfl, rfl, rfl, rfl, rfl, rfl, rfl, rfl, rfl, rfl, (by rw [c8]; rfl), trivial⟩ [0] rfl
          · rintro b_2 _
            refine TL.done ?_
            refine TC.cond (b := b_2) rfl (fun c9 => ?_) (fun c10 => ?_)
            · refine TC.seq ?_
              refine TC.region ?_
              refine TL.assign rfl rfl (v := .bool false) rfl ?_
              refine TL.done ?_
              exact TC.retF (Fin.loop Far.ret (Fin.body (fin1 (.inr rfl) rfl (.tmp rfl) [] rfl ⟨rfl, rfl⟩)))
            · refine TC.skip ?_
              refine TC.region ?_
              refine TL.bin .i64 x1 1 rfl rfl rfl rfl (v := .int .i64 (w64 (x1 + 1))) rfl ?_
              refine TL.move rfl rfl (v := .int .i64 (w64 (x1 + 1))) rfl ?_
              refine TL.done ?_
              exact TC.next ((w64 (x1 + 1))) (()) ⟨rfl, rfl, rfl, rfl, trivial⟩ [0] rfl
        · exact TC.brk (x1) (()) ⟨rfl, rfl, rfl, rfl, trivial⟩ [0] rfl
      · rintro x1 _
        refine TC.seq ?_
        refine TC.region ?_
        refine TL.load1 0 (Src.box 0 rfl) Try.isAgg22 rfl rfl rfl rfl rfl ?_
        refine TL.call (R := G.impl_sidesOfEdges.R) Try.call74 rfl rfl rfl (fun w hS => G.impl_sidesOfEdges.calls w s2 ss1 s1 ((RdM.old h1) w hS)) ?_
        rintro r_3 _ _ ⟨s3, ss2, rfl, rfl⟩
        refine TL.grd fun h3 => ?_
        refine TL.sliceM (li := (some 1)) (hi' := none) (l := 1) (h := r_3.length) (RdM.mat 0 rfl) Try.underlying65 Try.sizeOf64 rfl rfl (by have h_ := h3; simp only [Bool.and_eq_true, decide_eq_true_eq] at h_; first | rfl | (simp only [Option.getD_none, Option.getD_some]; omega)) (by have h_ := h3; simp only [Bool.and_eq_true, decide_eq_true_eq] at h_; first | rfl | (simp only [Option.getD_none, Option.getD_some]; omega)) (by have h_ := h3; simp only [Bool.and_eq_true, decide_eq_true_eq] at h_; omega) (by have h_ := h3; simp only [Bool.and_eq_true, decide_eq_true_eq] at h_; omega) rfl rfl rfl ?_
        refine TL.call (R := G.slices_ContainsFunc_impl_sided_impl_sided.R) Try.call87 rfl rfl rfl (fun w hS => G.slices_ContainsFunc_impl_sided_impl_sided.calls w (SV.cut s3 1 r_3.length s3.c Ev.sz) ((ss2.drop 1).take (r_3.length - 1)) ((r_3.drop 1).take (r_3.length - 1)) 88 [] [] G.impl_IsSurface_2.f ((RdM.cut (RdM.mat 0 rfl) (by have h_ := h3; simp only [Bool.and_eq_true, decide_eq_true_eq] at h_; omega) (by have h_ := h3; simp only [Bool.and_eq_true, decide_eq_true_eq] at h_; omega)) w hS) Try.call88 (fun w_ hle_ s1_ x0_ h0_ r_ hr_ => G.impl_IsSurface_2.calls w_ s1_ x0_ h0_ r_ hr_)) ?_
        rintro r_4 _ _ ⟨rfl, rfl⟩
        refine TL.not r_4 rfl rfl rfl ?_
        refine TL.assign rfl rfl (v := .bool (!r_4)) rfl ?_
        refine TL.done ?_
        exact TC.retF (Fin.body (fin1 (.inr rfl) rfl (.tmp rfl) [] rfl ⟨rfl, rfl⟩))

end Go.Proofs.Ytnppkcemnjkboaa.G

/- impl.oriented$1, as a pure function. -/
set_option linter.unusedVariables false
namespace Go.Proofs.Ytnppkcemnjkboaa.G
open Go Go.Sx Go.Proofs

def impl_oriented_1.f (list_1 : List (Int × Int)) (c1 : List (List Int)) : Option Bool := chk 0 list_1.length (chk ((gt list_1 0).1) c1.length (chk ((gt list_1 0).2) ((gt c1 ((gt list_1 0).1)).length) (chk 1 list_1.length (chk ((gt list_1 1).1) c1.length (chk ((gt list_1 1).2) ((gt c1 ((gt list_1 1).1)).length) (some ((gt (gt c1 ((gt list_1 0).1)) ((gt list_1 0).2)) == (gt (gt c1 ((gt list_1 1).1)) ((gt list_1 1).2)))))))))

def impl_oriented_1.R (r : Bool) (v : Value) (L : List Asn) : Prop := v = .bool r ∧ L = []

set_option maxRecDepth 100000 in
set_option maxHeartbeats 4000000 in
theorem impl_oriented_1.calls (w : World) (s1 : SV) (list_1 : List (Int × Int)) (b_1 : Nat) (s2 : SV) (ss1 : List SV) (c1 : List (List Int)) (h1 : Reads Eii (hp w) s1 list_1) (h3 : At (hp w) b_1 [.one (SV.v s2)]) (h2 : ReadsM Ei (hp w) s2 ss1 c1) :
    ∀ r, impl_oriented_1.f list_1 c1 = some r → Calls Try.prog 98 #[SV.v s1, bp b_1 0] w (Ret w (impl_oriented_1.R r)) := by

  refine calls_T (n := 31) (Γ := [(0, SV.v s1), (1, bp b_1 0)]) (R := impl_oriented_1.R) Try.func98 rfl rfl (Nat.le_of_ble_eq_true rfl) ⟨rfl, rfl, trivial⟩ ?_
  unfold impl_oriented_1.f
  refine TC.seq ?_
  refine TC.region ?_
  refine TL.assign rfl rfl (v := .bool false) rfl ?_
  refine TL.done ?_
  refine TC.seq ?_
  refine TC.wk (Γ' := [(0, SV.v s1), (1, bp b_1 0)]) ⟨rfl, rfl, trivial⟩ ?_
  refine TC.chk fun h4 => ?_
  refine TC.chk fun h5 => ?_
  refine TC.chk fun h6 => ?_
  refine TC.chk fun h7 => ?_
  refine TC.chk fun h8 => ?_
  refine TC.chk fun h9 => ?_
  refine TC.draw [SV.v s2, SV.v s1, ep s1 0, ep s1 0, .int .i64 ((gt list_1 0).1), ep s2 (((gt list_1 0).1).toNat), SV.v (gt ss1 ((gt list_1 0).1)), SV.v s1, ep s1 0, ep s1 1, .int .i64 ((gt list_1 0).2), ep (gt ss1 ((gt list_1 0).1)) (((gt list_1 0).2).toNat), .int .i64 (gt (gt c1 ((gt list_1 0).1)) ((gt list_1 0).2)), SV.v s2, SV.v s1, ep s1 2, ep s1 2, .int .i64 ((gt list_1 1).1), ep s2 (((gt list_1 1).1).toNat), SV.v (gt ss1 ((gt list_1 1).1)), SV.v s1, ep s1 2, ep s1 3, .int .i64 ((gt list_1 1).2), ep (gt ss1 ((gt list_1 1).1)) (((gt list_1 1).2).toNat), .int .i64 (gt (gt c1 ((gt list_1 1).1)) ((gt list_1 1).2)), .bool ((gt (gt c1 ((gt list_1 0).1)) ((gt list_1 0).2)) == (gt (gt c1 ((gt list_1 1).1)) ((gt list_1 1).2))), .bool ((gt (gt c1 ((gt list_1 0).1)) ((gt list_1 0).2)) == (gt (gt c1 ((gt list_1 1).1)) ((gt list_1 1).2)))] 28 [] (by kernel_rfl) rfl rfl rfl rfl ?_ ?_
  · refine ⟨?_, ?_, ?_, ?_, ?_, ?_, ?_, ?_, ?_, ?_, ?_, ?_, ?_, ?_, ?_, ?_, ?_, ?_, ?_, ?_, ?_, ?_, ?_, ?_, ?_, ?_, ?_, ?_, trivial⟩
    · refine TL.load1 0 (Src.at h3) Try.isAgg22 rfl rfl rfl rfl rfl ?_
      refine TL.done ?_
      exact TC.nrm () () ⟨rfl, trivial⟩ [] rfl
    · refine TL.move rfl rfl (v := SV.v s1) rfl ?_
      refine TL.done ?_
      exact TC.nrm () () ⟨rfl, trivial⟩ [] rfl
    · refine TL.ixs 0 0 (Rd.old h1) h4 Try.underlying64 Try.sizeOf68 rfl rfl rfl rfl rfl ?_
      refine TL.done ?_
      exact TC.nrm () () ⟨rfl, trivial⟩ [] rfl
    · refine TL.fae (Rd.old h1) (by have := h4; omega) Try.underlying68 rfl Try.sizeOf3 rfl 0 rfl rfl rfl rfl ?_
      refine TL.done ?_
      exact TC.nrm () () ⟨rfl, trivial⟩ [] rfl
    · refine TL.loadE (Rd.old h1) Try.isAgg3 0 0 (gt_spec h4) (v := .int .i64 ((gt list_1 0).1)) rfl rfl rfl rfl rfl ?_
      refine TL.done ?_
      exact TC.nrm () () ⟨rfl, trivial⟩ [] rfl
    · refine TL.ixsM ((gt list_1 0).1) (((gt list_1 0).1).toNat) (RdM.old h2) h5 Try.underlying22 Try.sizeOf53 rfl rfl rfl rfl (by omega) ?_
      refine TL.done ?_
      exact TC.nrm () () ⟨rfl, trivial⟩ [] rfl
    · refine TL.loadM2 (RdM.old h2) Try.isAgg53 ((gt list_1 0).1) h5 (by omega) rfl rfl rfl ?_
      refine TL.done ?_
      exact TC.nrm () () ⟨rfl, trivial⟩ [] rfl
    · refine TL.move rfl rfl (v := SV.v s1) rfl ?_
      refine TL.done ?_
      exact TC.nrm () () ⟨rfl, trivial⟩ [] rfl
    · refine TL.ixs 0 0 (Rd.old h1) h4 Try.underlying64 Try.sizeOf68 rfl rfl rfl rfl rfl ?_
      refine TL.done ?_
      exact TC.nrm () () ⟨rfl, trivial⟩ [] rfl
    · refine TL.fae (Rd.old h1) (by have := h4; omega) Try.underlying68 rfl Try.sizeOf3 rfl 1 rfl rfl rfl rfl ?_
      refine TL.done ?_
      exact TC.nrm () () ⟨rfl, trivial⟩ [] rfl
    · refine TL.loadE (Rd.old h1) Try.isAgg3 0 1 (gt_spec h4) (v := .int .i64 ((gt list_1 0).2)) rfl rfl rfl rfl rfl ?_
      refine TL.done ?_
      exact TC.nrm () () ⟨rfl, trivial⟩ [] rfl
    · refine TL.ixs ((gt list_1 0).2) (((gt list_1 0).2).toNat) (RdM.inn (RdM.old h2) h5) h6 Try.underlying53 Try.sizeOf2 rfl rfl rfl rfl (by omega) ?_
      refine TL.done ?_
      exact TC.nrm () () ⟨rfl, trivial⟩ [] rfl
    · refine TL.loadE (RdM.inn (RdM.old h2) h5) Try.isAgg2 ((gt list_1 0).2).toNat 0 (gt_spec h6) (v := .int .i64 (gt (gt c1 ((gt list_1 0).1)) ((gt list_1 0).2))) rfl (by simp only [show Ei.sz = 1 from rfl]; omega) rfl rfl rfl ?_
      refine TL.done ?_
      exact TC.nrm () () ⟨rfl, trivial⟩ [] rfl
    · refine TL.load1 0 (Src.at h3) Try.isAgg22 rfl rfl rfl rfl rfl ?_
      refine TL.done ?_
      exact TC.nrm () () ⟨rfl, trivial⟩ [] rfl
    · refine TL.move rfl rfl (v := SV.v s1) rfl ?_
      refine TL.done ?_
      exact TC.nrm () () ⟨rfl, trivial⟩ [] rfl
    · refine TL.ixs 1 2 (Rd.old h1) h7 Try.underlying64 Try.sizeOf68 rfl rfl rfl rfl rfl ?_
      refine TL.done ?_
      exact TC.nrm () () ⟨rfl, trivial⟩ [] rfl
    · refine TL.fae (Rd.old h1) (by have := h7; omega) Try.underlying68 rfl Try.sizeOf3 rfl 2 rfl rfl rfl rfl ?_
      refine TL.done ?_
      exact TC.nrm () () ⟨rfl, trivial⟩ [] rfl
    · refine TL.loadE (Rd.old h1) Try.isAgg3 1 0 (gt_spec h7) (v := .int .i64 ((gt list_1 1).1)) rfl rfl rfl rfl rfl ?_
      refine TL.done ?_
      exact TC.nrm () () ⟨rfl, trivial⟩ [] rfl
    · refine TL.ixsM ((gt list_1 1).1) (((gt list_1 1).1).toNat) (RdM.old h2) h8 Try.underlying22 Try.sizeOf53 rfl rfl rfl rfl (by omega) ?_
      refine TL.done ?_
      exact TC.nrm () () ⟨rfl, trivial⟩ [] rfl
    · refine TL.loadM2 (RdM.old h2) Try.isAgg53 ((gt list_1 1).1) h8 (by omega) rfl rfl rfl ?_
      refine TL.done ?_
      exact TC.nrm () () ⟨rfl, trivial⟩ [] rfl
    · refine TL.move rfl rfl (v := SV.v s1) rfl ?_
      refine TL.done ?_
      exact TC.nrm () () ⟨rfl, trivial⟩ [] rfl
    · refine TL.ixs 1 2 (Rd.old h1) h7 Try.underlying64 Try.sizeOf68 rfl rfl rfl rfl rfl ?_
      refine TL.done ?_
      exact TC.nrm () () ⟨rfl, trivial⟩ [] rfl
    · refine TL.fae (Rd.old h1) (by have := h7; omega) Try.underlying68 rfl Try.sizeOf3 rfl 3 rfl rfl rfl rfl ?_
      refine TL.done ?_
      exact TC.nrm () () ⟨rfl, trivial⟩ [] rfl
    · refine TL.loadE (Rd.old h1) Try.isAgg3 1 1 (gt_spec h7) (v := .int .i64 ((gt list_1 1).2)) rfl rfl rfl rfl rfl ?_
      refine TL.done ?_
      exact TC.nrm () () ⟨rfl, trivial⟩ [] rfl
    · refine TL.ixs ((gt list_1 1).2) (((gt list_1 1).2).toNat) (RdM.inn (RdM.old h2) h8) h9 Try.underlying53 Try.sizeOf2 rfl rfl rfl rfl (by omega) ?_
      refine TL.done ?_
      exact TC.nrm () () ⟨rfl, trivial⟩ [] rfl
    · refine TL.loadE (RdM.inn (RdM.old h2) h8) Try.isAgg2 ((gt list_1 1).2).toNat 0 (gt_spec h9) (v := .int .i64 (gt (gt c1 ((gt list_1 1).1)) ((gt list_1 1).2))) rfl (by simp only [show Ei.sz = 1 from rfl]; omega) rfl rfl rfl ?_
      refine TL.done ?_
      exact TC.nrm () () ⟨rfl, trivial⟩ [] rfl
    · refine TL.bin .i64 (gt (gt c1 ((gt list_1 0).1)) ((gt list_1 0).2)) (gt (gt c1 ((gt list_1 1).1)) ((gt list_1 1).2)) rfl rfl rfl rfl (v := .bool ((gt (gt c1 ((gt list_1 0).1)) ((gt list_1 0).2)) == (gt (gt c1 ((gt list_1 1).1)) ((gt list_1 1).2)))) rfl ?_
      refine TL.done ?_
      exact TC.nrm () () ⟨rfl, trivial⟩ [] rfl
    · refine TL.assign rfl rfl (v := .bool ((gt (gt c1 ((gt list_1 0).1)) ((gt list_1 0).2)) == (gt (gt c1 ((gt list_1 1).1)) ((gt list_1 1).2)))) rfl ?_
      refine TL.done ?_
      exact TC.nrm () () ⟨rfl, trivial⟩ [] rfl
  · exact TC.retF (Fin.body (fin1 (.inr rfl) rfl (.tmp rfl) [] rfl ⟨rfl, rfl⟩))

end Go.Proofs.Ytnppkcemnjkboaa.G

/- impl.oriented, as a pure function. -/
set_option linter.unusedVariables false
namespace Go.Proofs.Ytnppkcemnjkboaa.G
open Go Go.Sx Go.Proofs

def impl_oriented.f (s1 : List (List Int)) : Option Bool := (G.impl_sidesOfEdges.f s1).bind (fun r_1 => grd (decide (0 ≤ 1) && decide (1 ≤ (r_1.length : Int)) && decide ((r_1.length : Int) ≤ (r_1.length : Int))) ((G.slices_ContainsFunc_impl_sided_impl_sided.f ((r_1.drop 1).take (r_1.length - 1)) (fun x0_ => G.impl_oriented_1.f x0_ s1)).bind (fun r_2 => some (!r_2))))

def impl_oriented.R (r : Bool) (v : Value) (L : List Asn) : Prop := v = .bool r ∧ L = []

set_option maxRecDepth 100000 in
set_option maxHeartbeats 4000000 in
theorem impl_oriented.calls (w : World) (s2 : SV) (ss1 : List SV) (s1 : List (List Int)) (h1 : ReadsM Ei (hp w) s2 ss1 s1) :
    ∀ r, impl_oriented.f s1 = some r → Calls Try.prog 56 #[SV.v s2] w (Ret w (impl_oriented.R r)) := by

  refine calls_T (n := 9) (Γ := [(0, SV.v s2)]) (R := impl_oriented.R) Try.func56 rfl rfl (Nat.le_of_ble_eq_true rfl) ⟨rfl, trivial⟩ ?_
  unfold impl_oriented.f
  refine TC.seq ?_
  refine TC.region ?_
  refine TL.box [.one (SV.v s2)] rfl rfl rfl rfl fun b_1 => ?_
  refine TL.assign rfl rfl (v := .bool false) rfl ?_
  refine TL.done ?_
  refine TC.seq ?_
  refine TC.region ?_
  refine TL.load1 0 (Src.box 0 rfl) Try.isAgg22 rfl rfl rfl rfl rfl ?_
  refine TL.call (R := G.impl_sidesOfEdges.R) Try.call74 rfl rfl rfl (fun w hS => G.impl_sidesOfEdges.calls w s2 ss1 s1 ((RdM.old h1) w hS)) ?_
  rintro r_1 _ _ ⟨s3, ss2, rfl, rfl⟩
  refine TL.grd fun h2 => ?_
  refine TL.sliceM (li := (some 1)) (hi' := none) (l := 1) (h := r_1.length) (RdM.mat 0 rfl) Try.underlying65 Try.sizeOf64 rfl rfl (by have h_ := h2; simp only [Bool.and_eq_true, decide_eq_true_eq] at h_; first | rfl | (simp only [Option.getD_none, Option.getD_some]; omega)) (by have h_ := h2; simp only [Bool.and_eq_true, decide_eq_true_eq] at h_; first | rfl | (simp only [Option.getD_none, Option.getD_some]; omega)) (by have h_ := h2; simp only [Bool.and_eq_true, decide_eq_true_eq] at h_; omega) (by have h_ := h2; simp only [Bool.and_eq_true, decide_eq_true_eq] at h_; omega) rfl rfl rfl ?_
  refine TL.makeFunc rfl rfl (us := []) (vs := [bp b_1 0]) rfl rfl ?_
  refine TL.call (R := G.slices_ContainsFunc_impl_sided_impl_sided.R) Try.call87 rfl rfl rfl (fun w hS => G.slices_ContainsFunc_impl_sided_impl_sided.calls w (SV.cut s3 1 r_1.length s3.c Ev.sz) ((ss2.drop 1).take (r_1.length - 1)) ((r_1.drop 1).take (r_1.length - 1)) 98 [] [bp b_1 0] (fun x0_ => G.impl_oriented_1.f x0_ s1) ((RdM.cut (RdM.mat 0 rfl) (by have h_ := h2; simp only [Bool.and_eq_true, decide_eq_true_eq] at h_; omega) (by have h_ := h2; simp only [Bool.and_eq_true, decide_eq_true_eq] at h_; omega)) w hS) Try.call98 (fun w_ hle_ s1_ x0_ h0_ r_ hr_ => G.impl_oriented_1.calls w_ s1_ x0_ b_1 s2 ss1 s1 h0_ (((Src.box 1 rfl) w hS).mono hle_) (((RdM.old h1) w hS).mono hle_) r_ hr_)) ?_
  rintro r_2 _ _ ⟨rfl, rfl⟩
  refine TL.not r_2 rfl rfl rfl ?_
  refine TL.assign rfl rfl (v := .bool (!r_2)) rfl ?_
  refine TL.done ?_
  exact TC.retF (Fin.body (fin1 (.inr rfl) rfl (.tmp rfl) [] rfl ⟨rfl, rfl⟩))

end Go.Proofs.Ytnppkcemnjkboaa.G

/- impl.pool).add, as a pure function. -/
set_option linter.unusedVariables false
namespace Go.Proofs.Ytnppkcemnjkboaa.G
open Go Go.Sx Go.Proofs

def impl_pool_add.f (p1 : List Int) : Option (Int × (List Int)) := small (p1.length + ([(p1.length : Int)] : List Int).length) (some ((w64 (((p1 ++ ([(p1.length : Int)] : List Int)).length : Int) - 1)), (p1 ++ ([(p1.length : Int)] : List Int))))

def impl_pool_add.R (b_1 : Nat) (r : Int × (List Int)) (v : Value) (L : List Asn) : Prop := ∃ (s0 : SV), v = .int .i64 r.1 ∧ L = [box b_1 93 [.one (SV.v s0)], row Ei 3 s0 r.2]

set_option maxRecDepth 100000 in
set_option maxHeartbeats 4000000 in
theorem impl_pool_add.calls (w0 : World) (I : Hp) (w : World) (b_1 : Nat) (s1 : SV) (p1 : List Int) (hS : St w0 I [box b_1 93 [.one (SV.v s1)], row Ei 3 s1 p1] w) :
    ∀ r, impl_pool_add.f p1 = some r → Calls Try.prog 131 #[bp b_1 0] w (RetM w0 I ((impl_pool_add.R b_1) r)) := by

  refine calls_TM (w0 := w0) (I := I) (L := [box b_1 93 [.one (SV.v s1)], row Ei 3 s1 p1]) (n := 19) (Γ := [(0, bp b_1 0)]) (R := (impl_pool_add.R b_1)) Try.func131 rfl rfl (Nat.le_of_ble_eq_true rfl) ⟨rfl, trivial⟩ ?_ w hS
  unfold impl_pool_add.f
  refine TC.seq ?_
  refine TC.region ?_
  refine TL.assign rfl rfl (v := .int .i64 0) rfl ?_
  refine TL.done ?_
  refine TC.seq ?_
  refine TC.wk (Γ' := [(0, bp b_1 0), (2, .int .i64 0)]) ⟨rfl, rfl, trivial⟩ ?_
  refine TC.small fun h1 => ?_
  refine TC.drawG [(0, bp b_1 0), (2, .int .i64 0)] [] ⟨rfl, rfl, trivial⟩ trivial (fun l_ g1 => [(bif nb l_ 11 then box b_1 93 [.one (SV.v (gs (g1 72)))] else box b_1 93 [.one (SV.v s1)]), (bif nb l_ 9 then row Ei 3 (gs (g1 72)) (p1 ++ ([(p1.length : Int)] : List Int)) else row Ei 3 s1 p1), (bif nb l_ 8 then row Ei 3 (gs (g1 64)) ([(p1.length : Int)] : List Int) else emp)]) (fun g1 => [bp b_1 0, bp b_1 0, bp b_1 0, SV.v s1, bp b_1 0, bp b_1 0, SV.v s1, .int .i64 (p1.length : Int), SV.v (gs (g1 64)), SV.v (gs (g1 72)), bp b_1 0, undef]) [[], [], [1], [1, 2], [], [4], [4, 5], [4, 5, 6], [4, 5, 6, 7], [1, 2, 3, 4, 5, 6, 7, 8], [0, 1, 2, 3, 4, 5, 6, 7, 8, 9], [0, 1, 2, 3, 4, 5, 6, 7, 8, 9, 10]] [[some false, none, none, none, none, none, none, none, none, none, some false, some false], [none, some false, some false, some false, none, none, none, none, none, some false, some false, some false], [none, some true, some false, some false, none, none, none, none, none, some false, some false, some false], [none, some true, some true, some false, none, none, none, none, none, some false, some false, some false], [none, none, none, none, some false, some false, some false, some false, some false, some false, some false, some false], [none, none, none, none, some true, some false, some false, some false, some false, some false, some false, some false], [none, none, none, none, some true, some true, some false, some false, some false, some false, some false, some false], [none, none, none, none, some true, some true, some true, some false, some false, some false, some false, some false], [none, none, none, none, some true, some true, some true, some true, some false, some false, some false, some false], [none, some true, some true, some true, some true, some true, some true, some true, some true, some false, some false, some false], [some true, some true, some true, some true, some true, some true, some true, some true, some true, some true, some false, some false], [some true, some true, some true, some true, some true, some true, some true, some true, some true, some true, some true, some false]] (by kernel_rfl) (fun _ => rfl) rfl rfl rfl rfl rfl (fun _ _ => ⟨⟨⟨⟨⟨⟨⟨⟨⟨⟨⟨⟨trivial, rfl⟩, rfl⟩, rfl⟩, rfl⟩, rfl⟩, rfl⟩, rfl⟩, rfl⟩, rfl⟩, rfl⟩, rfl⟩, rfl⟩) 1 [1, 1, 0] (fun _ => rfl) ?_ ?_
  · refine ⟨rfl, ?_, rfl, ?_, rfl, ?_, rfl, ?_, rfl, ?_, rfl, ?_, rfl, ?_, rfl, ?_, rfl, ?_, rfl, ?_, rfl, ?_, rfl, ?_, trivial⟩
    · intro b1_ b2_ b3_ b4_ b5_ b6_ b7_ b8_ b9_ g1
      refine TL.move rfl rfl (v := bp b_1 0) rfl ?_
      refine TL.done ?_
      exact TC.nrm () [] ⟨rfl, trivial⟩ [0, 0, 0] rfl
    · intro b0_ b4_ b5_ b6_ b7_ b8_ g1
      refine TL.move rfl rfl (v := bp b_1 0) rfl ?_
      refine TL.done ?_
      exact TC.nrm () [] ⟨rfl, trivial⟩ [0, 0, 0] rfl
    · intro b0_ b4_ b5_ b6_ b7_ b8_ g1
      refine TL.nilCheck rfl rfl rfl ?_
      refine TL.done ?_
      exact TC.nrm () [] ⟨rfl, trivial⟩ [0, 0, 0] rfl
    · intro b0_ b4_ b5_ b6_ b7_ b8_ g1
      refine TL.asL [box b_1 93 [.one (SV.v s1)], row Ei 3 s1 p1, (bif b8_ then row Ei 3 (gs (g1 64)) ([(p1.length : Int)] : List Int) else emp)] rfl ?_
      refine TL.load1 0 (Src.box 0 rfl) Try.isAgg93 rfl rfl rfl rfl rfl ?_
      refine TL.done ?_
      exact TC.nrm () [] ⟨rfl, trivial⟩ [0, 0, 0] rfl
    · intro b0_ b1_ b2_ b3_ g1
      refine TL.move rfl rfl (v := bp b_1 0) rfl ?_
      refine TL.done ?_
      exact TC.nrm () [] ⟨rfl, trivial⟩ [0, 0, 0] rfl
    · intro b0_ b1_ b2_ b3_ g1
      refine TL.nilCheck rfl rfl rfl ?_
      refine TL.done ?_
      exact TC.nrm () [] ⟨rfl, trivial⟩ [0, 0, 0] rfl
    · intro b0_ b1_ b2_ b3_ g1
      refine TL.asL [box b_1 93 [.one (SV.v s1)], row Ei 3 s1 p1, emp] rfl ?_
      refine TL.load1 0 (Src.box 0 rfl) Try.isAgg93 rfl rfl rfl rfl rfl ?_
      refine TL.done ?_
      exact TC.nrm () [] ⟨rfl, trivial⟩ [0, 0, 0] rfl
    · intro b0_ b1_ b2_ b3_ g1
      refine TL.asL [box b_1 93 [.one (SV.v s1)], row Ei 3 s1 p1, emp] rfl ?_
      refine TL.len (Rd.row 1 rfl) Try.underlying93 rfl rfl rfl ?_
      refine TL.done ?_
      exact TC.nrm () [] ⟨rfl, trivial⟩ [0, 0, 0] rfl
    · intro b0_ b1_ b2_ b3_ g1
      refine TL.asL [box b_1 93 [.one (SV.v s1)], row Ei 3 s1 p1, emp] rfl ?_
      refine TL.blit Ei ([(p1.length : Int)] : List Int) Try.underlying93 Try.sizeOf3 Try.zeroValue3 rfl rfl rfl [(0, .int .i64 (p1.length : Int))] rfl ⟨rfl, rfl, trivial⟩ rfl rfl fun s2 => ?_
      refine TL.done ?_
      exact TC.nrm () [[s2]] ⟨rfl, trivial⟩ [1, 1, 0] rfl
    · intro b0_ g1
      refine TL.asL [box b_1 93 [.one (SV.v s1)], row Ei 3 s1 p1, row Ei 3 (gs (g1 64)) ([(p1.length : Int)] : List Int)] rfl ?_
      refine TL.append 1 rfl (Rd.row 2 rfl) Try.underlying93 (info_of Try.type3) (zv := (Try.t3.zero.getD (.bool false))) rfl rfl rfl (by decide) h1 rfl rfl rfl rfl fun s3 => ?_
      refine TL.done ?_
      exact TC.nrm () [[s3]] ⟨rfl, trivial⟩ [0, 0, 0] rfl
    · intro g1
      refine TL.nilCheck rfl rfl rfl ?_
      refine TL.done ?_
      exact TC.nrm () [] ⟨rfl, trivial⟩ [0, 0, 0] rfl
    · intro g1
      refine TL.asL [box b_1 93 [.one (SV.v s1)], row Ei 3 (gs (g1 72)) (p1 ++ ([(p1.length : Int)] : List Int)), row Ei 3 (gs (g1 64)) ([(p1.length : Int)] : List Int)] rfl ?_
      refine TL.st1 0 0 rfl Try.sizeOf93 rfl rfl rfl rfl rfl rfl rfl ?_
      refine TL.done ?_
      exact TC.nrm () [] trivial [0, 0, 0] rfl
  · intro g1
    refine TC.asL [box b_1 93 [.one (SV.v (gs (g1 72)))], row Ei 3 (gs (g1 72)) (p1 ++ ([(p1.length : Int)] : List Int)), row Ei 3 (gs (g1 64)) ([(p1.length : Int)] : List Int)] rfl ?_
    refine TC.seq ?_
    refine TC.region ?_
    refine TL.move rfl rfl (v := bp b_1 0) rfl ?_
    refine TL.nilCheck rfl rfl rfl ?_
    refine TL.load1 0 (Src.box 0 rfl) Try.isAgg93 rfl rfl rfl rfl rfl ?_
    refine TL.len (Rd.row 1 rfl) Try.underlying93 rfl rfl rfl ?_
    refine TL.bin .i64 ((p1 ++ ([(p1.length : Int)] : List Int)).length : Int) 1 rfl rfl rfl rfl (v := .int .i64 (w64 (((p1 ++ ([(p1.length : Int)] : List Int)).length : Int) - 1))) rfl ?_
    refine TL.assign rfl rfl (v := .int .i64 (w64 (((p1 ++ ([(p1.length : Int)] : List Int)).length : Int) - 1))) rfl ?_
    refine TL.done ?_
    exact TC.retF (Fin.body (fin1 (.inr rfl) rfl (.tmp rfl) [0, 0] rfl ⟨(gs (g1 72)), rfl, rfl⟩))

end Go.Proofs.Ytnppkcemnjkboaa.G

/- impl.poolOf, as a pure function. -/
set_option linter.unusedVariables false
namespace Go.Proofs.Ytnppkcemnjkboaa.G
open Go Go.Sx Go.Proofs

def impl_poolOf.b0 (n_1 : Int) : (List Int) × Int → Option (LB ((List Int) × Int)) := fun p => match p with | (p1, x1) => (bif (decide (x1 < n_1)) then (G.impl_pool_add.f p1).bind (fun p => match p with | (r_1, p2) => some (.next (p2, (w64 (x1 + 1))))) else some (.brk (p1, x1)))

def impl_poolOf.f (n_1 : Int) : Option (List Int) := (loop1 (impl_poolOf.b0 n_1) (([] : List Int), 0)).bind (fun p => match p with | (p1, x1) => some p1)

def impl_poolOf.R (r : List Int) (v : Value) (L : List Asn) : Prop := ∃ (s0 : SV), v = SV.v s0 ∧ L = [row Ei 3 s0 r]

set_option maxRecDepth 100000 in
set_option maxHeartbeats 4000000 in
theorem impl_poolOf.calls (w : World) (n_1 : Int) :
    ∀ r, impl_poolOf.f n_1 = some r → Calls Try.prog 104 #[.int .i64 n_1] w (Ret w (impl_poolOf.R r)) := by

  refine calls_T (n := 11) (Γ := [(0, .int .i64 n_1)]) (R := impl_poolOf.R) Try.func104 rfl rfl (Nat.le_of_ble_eq_true rfl) ⟨rfl, trivial⟩ ?_
  unfold impl_poolOf.f
  refine TC.seq ?_
  refine TC.region ?_
  refine TL.assign rfl rfl (v := SV.v ⟨none, 0, 0⟩) rfl ?_
  refine TL.done ?_
  refine TC.seq ?_
  refine TC.region ?_
  refine TL.bslice0 Ei Try.underlying93 Try.sizeOf3 rfl rfl fun s1 => ?_
  refine TL.alloc [.one (SV.v ⟨none, 0, 0⟩)] rfl rfl Try.zeroValue93 rfl fun b_1 => ?_
  refine TL.st1 0 0 rfl Try.sizeOf93 rfl rfl rfl rfl rfl rfl rfl ?_
  refine TL.done ?_
  refine TC.seq ?_
  refine TC.seq ?_
  refine TC.region ?_
  refine TL.move rfl rfl (v := .int .i64 n_1) rfl ?_
  refine TL.move rfl rfl (v := .int .i64 0) rfl ?_
  refine TL.done ?_
  refine TC.loop1 (σ := (List Int) × Int) (γ := SV) (Γ' := (fun p q => match p, q with | (p1, x1), s2 => [(3, bp b_1 0), (5, .int .i64 n_1), (6, .int .i64 x1)])) (L' := (fun p q => match p, q with | (p1, x1), s2 => [box b_1 93 [.one (SV.v s2)], row Ei 3 s2 p1])) (Γb := (fun p q => match p, q with | (p1, x1), s2 => [(3, bp b_1 0), (5, .int .i64 n_1), (6, .int .i64 x1)])) (Lb := (fun p q => match p, q with | (p1, x1), s2 => [box b_1 93 [.one (SV.v s2)], row Ei 3 s2 p1])) ((([] : List Int), 0)) (s1) ⟨rfl, rfl, rfl, trivial⟩ [0, 0] rfl ?_ ?_
  · rintro ⟨p1, x1⟩ s2
    refine TC.seq ?_
    refine TC.region ?_
    refine TL.bin .i64 x1 n_1 rfl rfl rfl rfl (v := .bool (decide (x1 < n_1))) rfl ?_
    refine TL.done ?_
    refine TC.seq ?_
    refine TC.cond (b := (decide (x1 < n_1))) rfl (fun c1 => ?_) (fun c2 => ?_)
    · refine TC.skip ?_
      refine TC.seq ?_
      refine TC.block (NoEx.loop1 rfl) ?_
      refine TC.region ?_
      refine TL.callX (R := G.impl_pool_add.R b_1) [0, 0] [box b_1 93 [.one (SV.v s2)], row Ei 3 s2 p1] [] rfl Try.call131 rfl rfl rfl (fun w I_ hle hB hS => G.impl_pool_add.calls _ I_ w b_1 s2 p1 hS) ?_
      rintro ⟨r_1, p2⟩ _ _ ⟨s3, rfl, rfl⟩
      refine TL.done ?_
      refine TC.region ?_
      refine TL.bin .i64 x1 1 rfl rfl rfl rfl (v := .int .i64 (w64 (x1 + 1))) rfl ?_
      refine TL.move rfl rfl (v := .int .i64 (w64 (x1 + 1))) rfl ?_
      refine TL.done ?_
      exact TC.next1 ((p2, (w64 (x1 + 1)))) (s3) ⟨rfl, rfl, rfl, trivial⟩ [0, 0] rfl
    · exact TC.brk1 ((p1, x1)) (s2) ⟨rfl, rfl, rfl, trivial⟩ [0, 0] rfl
  · rintro ⟨p1, x1⟩ s2
    refine TC.seq ?_
    refine TC.region ?_
    refine TL.load1 0 (Src.box 0 rfl) Try.isAgg93 rfl rfl rfl rfl rfl ?_
    refine TL.assign rfl rfl (v := SV.v s2) rfl ?_
    refine TL.done ?_
    exact TC.retF (Fin.body (fin1 (.inr rfl) rfl (.tmp rfl) [1] rfl ⟨s2, rfl, rfl⟩))

end Go.Proofs.Ytnppkcemnjkboaa.G

/- impl.pool).find, as a pure function. -/
set_option linter.unusedVariables false
namespace Go.Proofs.Ytnppkcemnjkboaa.G
open Go Go.Sx Go.Proofs

def impl_pool_find.b0 (p1 : List Int) : Int → Option (LB Int) := fun i2 => chk i2 p1.length ((bif ((gt p1 i2) != i2) then some (.next (gt p1 i2)) else some (.brk i2)))

def impl_pool_find.f (p1 : List Int) (i1 : Int) : Option Int := (loop1 (impl_pool_find.b0 p1) i1).bind (fun i2 => some i2)

def impl_pool_find.R (r : Int) (v : Value) (L : List Asn) : Prop := v = .int .i64 r ∧ L = []

set_option maxRecDepth 100000 in
set_option maxHeartbeats 4000000 in
theorem impl_pool_find.calls (w : World) (s1 : SV) (p1 : List Int) (i1 : Int) (h1 : Reads Ei (hp w) s1 p1) :
    ∀ r, impl_pool_find.f p1 i1 = some r → Calls Try.prog 132 #[SV.v s1, .int .i64 i1] w (Ret w (impl_pool_find.R r)) := by

  refine calls_T (n := 16) (Γ := [(0, SV.v s1), (1, .int .i64 i1)]) (R := impl_pool_find.R) Try.func132 rfl rfl (Nat.le_of_ble_eq_true rfl) ⟨rfl, rfl, trivial⟩ ?_
  unfold impl_pool_find.f
  refine TC.seq ?_
  refine TC.region ?_
  refine TL.assign rfl rfl (v := .int .i64 0) rfl ?_
  refine TL.done ?_
  refine TC.seq ?_
  refine TC.loop1 (σ := Int) (γ := Unit) (Γ' := (fun i2 _ => [(0, SV.v s1), (1, .int .i64 i2)])) (L' := (fun i2 _ => [])) (Γb := (fun i2 _ => [(0, SV.v s1), (1, .int .i64 i2)])) (Lb := (fun i2 _ => [])) (i1) (()) ⟨rfl, rfl, trivial⟩ [] rfl ?_ ?_
  · rintro i2 _
    refine TC.seq ?_
    refine TC.seq ?_
    refine TC.region ?_
    refine TL.move rfl rfl (v := SV.v s1) rfl ?_
    refine TL.move rfl rfl (v := .int .i64 i2) rfl ?_
    refine TL.chk fun h2 => ?_
    refine TL.ixs i2 i2.toNat (Rd.old h1) h2 Try.underlying93 Try.sizeOf3 rfl rfl rfl rfl (by omega) ?_
    refine TL.loadE (Rd.old h1) Try.isAgg3 i2.toNat 0 (gt_spec h2) (v := .int .i64 (gt p1 i2)) rfl (by simp only [show Ei.sz = 1 from rfl]; omega) rfl rfl rfl ?_
    refine TL.move rfl rfl (v := .int .i64 i2) rfl ?_
    refine TL.bin .i64 (gt p1 i2) i2 rfl rfl rfl rfl (v := .bool ((gt p1 i2) != i2)) rfl ?_
    refine TL.done ?_
    refine TC.cond (b := ((gt p1 i2) != i2)) rfl (fun c1 => ?_) (fun c2 => ?_)
    · refine TC.skip ?_
      refine TC.block (NoEx.loop1 rfl) ?_
      refine TC.region ?_
      refine TL.move rfl rfl (v := SV.v s1) rfl ?_
      refine TL.move rfl rfl (v := .int .i64 i2) rfl ?_
      refine TL.ixs i2 i2.toNat (Rd.old h1) h2 Try.underlying93 Try.sizeOf3 rfl rfl rfl rfl (by omega) ?_
      refine TL.loadE (Rd.old h1) Try.isAgg3 i2.toNat 0 (gt_spec h2) (v := .int .i64 (gt p1 i2)) rfl (by simp only [show Ei.sz = 1 from rfl]; omega) rfl rfl rfl ?_
      refine TL.assign rfl rfl (v := .int .i64 (gt p1 i2)) rfl ?_
      refine TL.done ?_
      exact TC.next1 ((gt p1 i2)) (()) ⟨rfl, rfl, trivial⟩ [] rfl
    · exact TC.brk1 (i2) (()) ⟨rfl, rfl, trivial⟩ [] rfl
  · rintro i2 _
    refine TC.seq ?_
    refine TC.region ?_
    refine TL.move rfl rfl (v := .int .i64 i2) rfl ?_
    refine TL.assign rfl rfl (v := .int .i64 i2) rfl ?_
    refine TL.done ?_
    exact TC.retF (Fin.body (fin1 (.inr rfl) rfl (.tmp rfl) [] rfl ⟨rfl, rfl⟩))

end Go.Proofs.Ytnppkcemnjkboaa.G

/- impl.pool).join, as a pure function. -/
set_option linter.unusedVariables false
namespace Go.Proofs.Ytnppkcemnjkboaa.G
open Go Go.Sx Go.Proofs

def impl_pool_join.f (p1 : List Int) (i1 : Int) (k_1 : Int) : Option (List Int) := (G.impl_pool_find.f p1 i1).bind (fun r_1 => (G.impl_pool_find.f p1 k_1).bind (fun r_2 => chk (if r_2 > r_1 then r_2 else r_1) p1.length (some (p1.set (if r_2 > r_1 then r_2 else r_1).toNat (if r_2 < r_1 then r_2 else r_1)))))

def impl_pool_join.R (s1 : SV) (r : List Int) (v : Value) (L : List Asn) : Prop := v = .tuple #[] ∧ L = [row Ei 3 s1 r]

set_option maxRecDepth 100000 in
set_option maxHeartbeats 4000000 in
theorem impl_pool_join.calls (w0 : World) (I : Hp) (w : World) (s1 : SV) (p1 : List Int) (i1 : Int) (k_1 : Int) (hS : St w0 I [row Ei 3 s1 p1] w) :
    ∀ r, impl_pool_join.f p1 i1 k_1 = some r → Calls Try.prog 105 #[SV.v s1, .int .i64 i1, .int .i64 k_1] w (RetM w0 I ((impl_pool_join.R s1) r)) := by

  refine calls_TM (w0 := w0) (I := I) (L := [row Ei 3 s1 p1]) (n := 22) (Γ := [(0, SV.v s1), (1, .int .i64 i1), (2, .int .i64 k_1)]) (R := (impl_pool_join.R s1)) Try.func105 rfl rfl (Nat.le_of_ble_eq_true rfl) ⟨rfl, rfl, rfl, trivial⟩ ?_ w hS
  unfold impl_pool_join.f
  refine TC.seq ?_
  refine TC.region ?_
  refine TL.move rfl rfl (v := SV.v s1) rfl ?_
  refine TL.move rfl rfl (v := .int .i64 i1) rfl ?_
  refine TL.call (R := G.impl_pool_find.R) Try.call132 rfl rfl rfl (fun w hS => G.impl_pool_find.calls w s1 p1 i1 ((Rd.row 0 rfl) w hS)) ?_
  rintro r_1 _ _ ⟨rfl, rfl⟩
  refine TL.move rfl rfl (v := SV.v s1) rfl ?_
  refine TL.move rfl rfl (v := .int .i64 k_1) rfl ?_
  refine TL.call (R := G.impl_pool_find.R) Try.call132 rfl rfl rfl (fun w hS => G.impl_pool_find.calls w s1 p1 k_1 ((Rd.row 0 rfl) w hS)) ?_
  rintro r_2 _ _ ⟨rfl, rfl⟩
  refine TL.assign rfl rfl (v := .int .i64 r_1) rfl ?_
  refine TL.assign rfl rfl (v := .int .i64 r_2) rfl ?_
  refine TL.done ?_
  refine TC.region ?_
  refine TL.move rfl rfl (v := SV.v s1) rfl ?_
  refine TL.move rfl rfl (v := .int .i64 r_1) rfl ?_
  refine TL.move rfl rfl (v := .int .i64 r_2) rfl ?_
  refine TL.max2 rfl rfl rfl rfl ?_
  refine TL.move rfl rfl (v := .int .i64 r_1) rfl ?_
  refine TL.move rfl rfl (v := .int .i64 r_2) rfl ?_
  refine TL.min2 rfl rfl rfl rfl ?_
  refine TL.chk fun h1 => ?_
  refine TL.ixs (if r_2 > r_1 then r_2 else r_1) ((if r_2 > r_1 then r_2 else r_1).toNat) (Rd.row 0 rfl) h1 Try.underlying93 Try.sizeOf3 rfl rfl rfl rfl (by omega) ?_
  refine TL.stE 0 ((if r_2 > r_1 then r_2 else r_1).toNat) (if r_2 < r_1 then r_2 else r_1) (v := .int .i64 (if r_2 < r_1 then r_2 else r_1)) rfl Try.sizeOf3 rfl rfl rfl (by have h_ := h1; omega) (by simp only [show Ei.sz = 1 from rfl]; omega) rfl rfl rfl ?_
  refine TL.done ?_
  exact TC.nilF (Fin.body (fin0 (.inl rfl) rfl [0] rfl ⟨rfl, rfl⟩))

end Go.Proofs.Ytnppkcemnjkboaa.G

/- impl.pool).distinct, as a pure function. -/
set_option linter.unusedVariables false
namespace Go.Proofs.Ytnppkcemnjkboaa.G
open Go Go.Sx Go.Proofs

def impl_pool_distinct.b0 (p1 : List Int) : Int × Int → Option (LB (Int × Int)) := fun p => match p with | (many_1, x1) => (bif (decide (x1 < (p1.length : Int))) then (G.impl_pool_find.f p1 x1).bind (fun r_1 => ((bif (r_1 == x1) then some (w64 (many_1 + 1)) else some many_1)).bind (fun many_2 => some (.next (many_2, (w64 (x1 + 1)))))) else some (.brk (many_1, x1)))

def impl_pool_distinct.f (p1 : List Int) : Option Int := (loop1 (impl_pool_distinct.b0 p1) (0, 0)).bind (fun p => match p with | (many_1, x1) => some many_1)

def impl_pool_distinct.R (r : Int) (v : Value) (L : List Asn) : Prop := v = .int .i64 r ∧ L = []

set_option maxRecDepth 100000 in
set_option maxHeartbeats 4000000 in
theorem impl_pool_distinct.calls (w : World) (s1 : SV) (p1 : List Int) (h1 : Reads Ei (hp w) s1 p1) :
    ∀ r, impl_pool_distinct.f p1 = some r → Calls Try.prog 106 #[SV.v s1] w (Ret w (impl_pool_distinct.R r)) := by

  refine calls_T (n := 19) (Γ := [(0, SV.v s1)]) (R := impl_pool_distinct.R) Try.func106 rfl rfl (Nat.le_of_ble_eq_true rfl) ⟨rfl, trivial⟩ ?_
  unfold impl_pool_distinct.f
  refine TC.seq ?_
  refine TC.region ?_
  refine TL.assign rfl rfl (v := .int .i64 0) rfl ?_
  refine TL.done ?_
  refine TC.seq ?_
  refine TC.region ?_
  refine TL.assign rfl rfl (v := .int .i64 0) rfl ?_
  refine TL.done ?_
  refine TC.seq ?_
  refine TC.seq ?_
  refine TC.region ?_
  refine TL.move rfl rfl (v := SV.v s1) rfl ?_
  refine TL.len (Rd.old h1) Try.underlying93 rfl rfl rfl ?_
  refine TL.move rfl rfl (v := .int .i64 0) rfl ?_
  refine TL.done ?_
  refine TC.loop1 (σ := Int × Int) (γ := Unit) (Γ' := (fun p q => match p, q with | (many_1, x1), _ => [(0, SV.v s1), (3, .int .i64 many_1), (6, .int .i64 (p1.length : Int)), (7, .int .i64 x1)])) (L' := (fun p q => match p, q with | (many_1, x1), _ => [])) (Γb := (fun p q => match p, q with | (many_1, x1), _ => [(0, SV.v s1), (3, .int .i64 many_1), (6, .int .i64 (p1.length : Int)), (7, .int .i64 x1)])) (Lb := (fun p q => match p, q with | (many_1, x1), _ => [])) ((0, 0)) (()) ⟨rfl, rfl, rfl, rfl, trivial⟩ [] rfl ?_ ?_
  · rintro ⟨many_1, x1⟩ _
    refine TC.seq ?_
    refine TC.region ?_
    refine TL.bin .i64 x1 (p1.length : Int) rfl rfl rfl rfl (v := .bool (decide (x1 < (p1.length : Int)))) rfl ?_
    refine TL.done ?_
    refine TC.seq ?_
    refine TC.cond (b := (decide (x1 < (p1.length : Int)))) rfl (fun c1 => ?_) (fun c2 => ?_)
    · refine TC.skip ?_
      refine TC.seq ?_
      refine TC.block (NoEx.loop1 rfl) ?_
      refine TC.seq ?_
      refine TC.region ?_
      refine TL.move rfl rfl (v := .int .i64 x1) rfl ?_
      refine TL.assign rfl rfl (v := .int .i64 x1) rfl ?_
      refine TL.done ?_
      refine TC.seq ?_
      refine TC.region ?_
      refine TL.move rfl rfl (v := SV.v s1) rfl ?_
      refine TL.move rfl rfl (v := .int .i64 x1) rfl ?_
      refine TL.call (R := G.impl_pool_find.R) Try.call132 rfl rfl rfl (fun w hS => G.impl_pool_find.calls w s1 p1 x1 ((Rd.old h1) w hS)) ?_
      rintro r_1 _ _ ⟨rfl, rfl⟩
      refine TL.move rfl rfl (v := .int .i64 x1) rfl ?_
      refine TL.bin .i64 r_1 x1 rfl rfl rfl rfl (v := .bool (r_1 == x1)) rfl ?_
      refine TL.done ?_
      refine TC.join1 (σ := Int) (γ := Unit) (Γ' := (fun many_2 _ => [(0, SV.v s1), (3, .int .i64 many_2), (6, .int .i64 (p1.length : Int)), (7, .int .i64 x1)])) (L' := (fun many_2 _ => [])) ?_ ?_
      · refine TC.cond (b := (r_1 == x1)) rfl (fun c3 => ?_) (fun c4 => ?_)
        · refine TC.region ?_
          refine TL.move rfl rfl (v := .int .i64 many_1) rfl ?_
          refine TL.bin .i64 many_1 1 rfl rfl rfl rfl (v := .int .i64 (w64 (many_1 + 1))) rfl ?_
          refine TL.assign rfl rfl (v := .int .i64 (w64 (many_1 + 1))) rfl ?_
          refine TL.done ?_
          exact TC.nrm ((w64 (many_1 + 1))) (()) ⟨rfl, rfl, rfl, rfl, trivial⟩ [] rfl
        · refine TC.skip ?_
          exact TC.nrm (many_1) (()) ⟨rfl, rfl, rfl, rfl, trivial⟩ [] rfl
      · rintro many_2 _
        refine TC.region ?_
        refine TL.bin .i64 x1 1 rfl rfl rfl rfl (v := .int .i64 (w64 (x1 + 1))) rfl ?_
        refine TL.move rfl rfl (v := .int .i64 (w64 (x1 + 1))) rfl ?_
        refine TL.done ?_
        exact TC.next1 ((many_2, (w64 (x1 + 1)))) (()) ⟨rfl, rfl, rfl, rfl, trivial⟩ [] rfl
    · exact TC.brk1 ((many_1, x1)) (()) ⟨rfl, rfl, rfl, rfl, trivial⟩ [] rfl
  · rintro ⟨many_1, x1⟩ _
    refine TC.seq ?_
    refine TC.region ?_
    refine TL.move rfl rfl (v := .int .i64 many_1) rfl ?_
    refine TL.assign rfl rfl (v := .int .i64 many_1) rfl ?_
    refine TL.done ?_
    exact TC.retF (Fin.body (fin1 (.inr rfl) rfl (.tmp rfl) [] rfl ⟨rfl, rfl⟩))

end Go.Proofs.Ytnppkcemnjkboaa.G

/- impl.pieces, as a pure function. -/
set_option linter.unusedVariables false
namespace Go.Proofs.Ytnppkcemnjkboaa.G
open Go Go.Sx Go.Proofs

def impl_pieces.b0 (r_2 : List (List (Int × Int))) : (List Int) × Int → Option (LB ((List Int) × Int)) := fun p => match p with | (p1, x1) => (bif (decide (x1 < (((r_2.drop 1).take (r_2.length - 1)).length : Int))) then chk x1 (((r_2.drop 1).take (r_2.length - 1)).length) (chk 0 ((gt ((r_2.drop 1).take (r_2.length - 1)) x1).length) (chk 1 ((gt ((r_2.drop 1).take (r_2.length - 1)) x1).length) ((G.impl_pool_join.f p1 ((gt (gt ((r_2.drop 1).take (r_2.length - 1)) x1) 0).1) ((gt (gt ((r_2.drop 1).take (r_2.length - 1)) x1) 1).1)).bind (fun p2 => some (.next (p2, (w64 (x1 + 1)))))))) else some (.brk (p1, x1)))

def impl_pieces.f (s1 : List (List Int)) : Option Int := (G.impl_poolOf.f (s1.length : Int)).bind (fun r_1 => (G.impl_sidesOfEdges.f s1).bind (fun r_2 => grd (decide (0 ≤ 1) && decide (1 ≤ (r_2.length : Int)) && decide ((r_2.length : Int) ≤ (r_2.length : Int))) ((loop1 (impl_pieces.b0 r_2) (r_1, 0)).bind (fun p => match p with | (p1, x1) => (G.impl_pool_distinct.f p1).bind (fun r_3 => some r_3)))))

def impl_pieces.R (r : Int) (v : Value) (L : List Asn) : Prop := v = .int .i64 r ∧ L = []

set_option maxRecDepth 100000 in
set_option maxHeartbeats 4000000 in
theorem impl_pieces.calls (w : World) (s2 : SV) (ss1 : List SV) (s1 : List (List Int)) (h1 : ReadsM Ei (hp w) s2 ss1 s1) :
    ∀ r, impl_pieces.f s1 = some r → Calls Try.prog 68 #[SV.v s2] w (Ret w (impl_pieces.R r)) := by

  refine calls_T (n := 30) (Γ := [(0, SV.v s2)]) (R := impl_pieces.R) Try.func68 rfl rfl (Nat.le_of_ble_eq_true rfl) ⟨rfl, trivial⟩ ?_
  unfold impl_pieces.f
  refine TC.seq ?_
  refine TC.region ?_
  refine TL.assign rfl rfl (v := .int .i64 0) rfl ?_
  refine TL.done ?_
  refine TC.seq ?_
  refine TC.region ?_
  refine TL.move rfl rfl (v := SV.v s2) rfl ?_
  refine TL.lenM (RdM.old h1) Try.underlying22 rfl rfl rfl ?_
  refine TL.call (R := G.impl_poolOf.R) Try.call104 rfl rfl rfl (fun w hS => G.impl_poolOf.calls w (s1.length : Int)) ?_
  rintro r_1 _ _ ⟨s3, rfl, rfl⟩
  refine TL.assign rfl rfl (v := SV.v s3) rfl ?_
  refine TL.done ?_
  refine TC.seq ?_
  refine TC.seq ?_
  refine TC.region ?_
  refine TL.move rfl rfl (v := SV.v s2) rfl ?_
  refine TL.call (R := G.impl_sidesOfEdges.R) Try.call74 rfl rfl rfl (fun w hS => G.impl_sidesOfEdges.calls w s2 ss1 s1 ((RdM.old h1) w hS)) ?_
  rintro r_2 _ _ ⟨s4, ss2, rfl, rfl⟩
  refine TL.grd fun h2 => ?_
  refine TL.sliceM (li := (some 1)) (hi' := none) (l := 1) (h := r_2.length) (RdM.mat 0 rfl) Try.underlying65 Try.sizeOf64 rfl rfl (by have h_ := h2; simp only [Bool.and_eq_true, decide_eq_true_eq] at h_; first | rfl | (simp only [Option.getD_none, Option.getD_some]; omega)) (by have h_ := h2; simp only [Bool.and_eq_true, decide_eq_true_eq] at h_; first | rfl | (simp only [Option.getD_none, Option.getD_some]; omega)) (by have h_ := h2; simp only [Bool.and_eq_true, decide_eq_true_eq] at h_; omega) (by have h_ := h2; simp only [Bool.and_eq_true, decide_eq_true_eq] at h_; omega) rfl rfl rfl ?_
  refine TL.lenM (RdM.cut (RdM.mat 0 rfl) (by have h_ := h2; simp only [Bool.and_eq_true, decide_eq_true_eq] at h_; omega) (by have h_ := h2; simp only [Bool.and_eq_true, decide_eq_true_eq] at h_; omega)) Try.underlying65 rfl rfl rfl ?_
  refine TL.move rfl rfl (v := .int .i64 0) rfl ?_
  refine TL.done ?_
  refine TC.loop1 (σ := (List Int) × Int) (γ := Unit) (Γ' := (fun p q => match p, q with | (p1, x1), _ => [(3, SV.v s3), (11, SV.v (SV.cut s4 1 r_2.length s4.c Ev.sz)), (12, .int .i64 (((r_2.drop 1).take (r_2.length - 1)).length : Int)), (13, .int .i64 x1)])) (L' := (fun p q => match p, q with | (p1, x1), _ => [row Ei 3 s3 p1, mat Eii 68 64 s4 ss2 r_2])) (Γb := (fun p q => match p, q with | (p1, x1), _ => [(3, SV.v s3), (11, SV.v (SV.cut s4 1 r_2.length s4.c Ev.sz)), (12, .int .i64 (((r_2.drop 1).take (r_2.length - 1)).length : Int)), (13, .int .i64 x1)])) (Lb := (fun p q => match p, q with | (p1, x1), _ => [row Ei 3 s3 p1, mat Eii 68 64 s4 ss2 r_2])) ((r_1, 0)) (()) ⟨rfl, rfl, rfl, rfl, trivial⟩ [1, 0] rfl ?_ ?_
  · rintro ⟨p1, x1⟩ _
    refine TC.seq ?_
    refine TC.region ?_
    refine TL.bin .i64 x1 (((r_2.drop 1).take (r_2.length - 1)).length : Int) rfl rfl rfl rfl (v := .bool (decide (x1 < (((r_2.drop 1).take (r_2.length - 1)).length : Int)))) rfl ?_
    refine TL.done ?_
    refine TC.seq ?_
    refine TC.cond (b := (decide (x1 < (((r_2.drop 1).take (r_2.length - 1)).length : Int)))) rfl (fun c1 => ?_) (fun c2 => ?_)
    · refine TC.skip ?_
      refine TC.seq ?_
      refine TC.block (NoEx.loop1 rfl) ?_
      refine TC.seq ?_
      refine TC.region ?_
      refine TL.chk fun h3 => ?_
      refine TL.ixsM x1 x1.toNat (RdM.cut (RdM.mat 1 rfl) (by have h_ := h2; simp only [Bool.and_eq_true, decide_eq_true_eq] at h_; omega) (by have h_ := h2; simp only [Bool.and_eq_true, decide_eq_true_eq] at h_; omega)) h3 Try.underlying65 Try.sizeOf64 rfl rfl rfl rfl (by omega) ?_
      refine TL.loadM2 (RdM.cut (RdM.mat 1 rfl) (by have h_ := h2; simp only [Bool.and_eq_true, decide_eq_true_eq] at h_; omega) (by have h_ := h2; simp only [Bool.and_eq_true, decide_eq_true_eq] at h_; omega)) Try.isAgg64 x1 h3 (by omega) rfl rfl rfl ?_
      refine TL.assign rfl rfl (v := SV.v (gt ((ss2.drop 1).take (r_2.length - 1)) x1)) rfl ?_
      refine TL.done ?_
      refine TC.wk (Γ' := [(3, SV.v s3), (11, SV.v (SV.cut s4 1 r_2.length s4.c Ev.sz)), (12, .int .i64 (((r_2.drop 1).take (r_2.length - 1)).length : Int)), (13, .int .i64 x1), (14, .bool (decide (x1 < (((r_2.drop 1).take (r_2.length - 1)).length : Int)))), (15, ep (SV.cut s4 1 r_2.length s4.c Ev.sz) x1.toNat), (16, SV.v (gt ((ss2.drop 1).take (r_2.length - 1)) x1)), (5, SV.v (gt ((ss2.drop 1).take (r_2.length - 1)) x1))]) ⟨rfl, rfl, rfl, rfl, rfl, rfl, rfl, rfl, trivial⟩ ?_
      refine TC.chk fun h4 => ?_
      refine TC.chk fun h5 => ?_
      refine TC.bindE ?_
      rintro p2 hr1
      refine TC.drawG [(3, SV.v s3), (11, SV.v (SV.cut s4 1 r_2.length s4.c Ev.sz)), (12, .int .i64 (((r_2.drop 1).take (r_2.length - 1)).length : Int)), (13, .int .i64 x1), (14, .bool (decide (x1 < (((r_2.drop 1).take (r_2.length - 1)).length : Int)))), (15, ep (SV.cut s4 1 r_2.length s4.c Ev.sz) x1.toNat), (16, SV.v (gt ((ss2.drop 1).take (r_2.length - 1)) x1)), (5, SV.v (gt ((ss2.drop 1).take (r_2.length - 1)) x1))] [] ⟨rfl, rfl, rfl, rfl, rfl, rfl, rfl, rfl, trivial⟩ trivial (fun l_ g1 => [(bif nb l_ 9 then row Ei 3 s3 p2 else row Ei 3 s3 p1), mat Eii 68 64 s4 ss2 r_2]) (fun g1 => [SV.v s3, SV.v (gt ((ss2.drop 1).take (r_2.length - 1)) x1), ep (gt ((ss2.drop 1).take (r_2.length - 1)) x1) 0, ep (gt ((ss2.drop 1).take (r_2.length - 1)) x1) 0, .int .i64 ((gt (gt ((r_2.drop 1).take (r_2.length - 1)) x1) 0).1), SV.v (gt ((ss2.drop 1).take (r_2.length - 1)) x1), ep (gt ((ss2.drop 1).take (r_2.length - 1)) x1) 2, ep (gt ((ss2.drop 1).take (r_2.length - 1)) x1) 2, .int .i64 ((gt (gt ((r_2.drop 1).take (r_2.length - 1)) x1) 1).1), .tuple #[]]) [[], [], [1], [1, 2], [1, 2, 3], [], [5], [5, 6], [5, 6, 7], [0, 1, 2, 3, 4, 5, 6, 7, 8]] [[some false, none, none, none, none, none, none, none, none, some false], [none, some false, some false, some false, some false, none, none, none, none, some false], [none, some true, some false, some false, some false, none, none, none, none, some false], [none, some true, some true, some false, some false, none, none, none, none, some false], [none, some true, some true, some true, some false, none, none, none, none, some false], [none, none, none, none, none, some false, some false, some false, some false, some false], [none, none, none, none, none, some true, some false, some false, some false, some false], [none, none, none, none, none, some true, some true, some false, some false, some false], [none, none, none, none, none, some true, some true, some true, some false, some false], [some true, some true, some true, some true, some true, some true, some true, some true, some true, some false]] (by kernel_rfl) (fun _ => rfl) rfl rfl rfl rfl rfl (fun _ _ => ⟨⟨⟨⟨⟨⟨⟨⟨⟨⟨trivial, rfl⟩, rfl⟩, rfl⟩, rfl⟩, rfl⟩, rfl⟩, rfl⟩, rfl⟩, rfl⟩, rfl⟩) 0 [0, 0] (fun _ => rfl) ?_ ?_
      · refine ⟨rfl, ?_, rfl, ?_, rfl, ?_, rfl, ?_, rfl, ?_, rfl, ?_, rfl, ?_, rfl, ?_, rfl, ?_, rfl, ?_, trivial⟩
        · intro b1_ b2_ b3_ b4_ b5_ b6_ b7_ b8_ g1
          refine TL.move rfl rfl (v := SV.v s3) rfl ?_
          refine TL.done ?_
          exact TC.nrm () [] ⟨rfl, trivial⟩ [0, 0] rfl
        · intro b0_ b5_ b6_ b7_ b8_ g1
          refine TL.move rfl rfl (v := SV.v (gt ((ss2.drop 1).take (r_2.length - 1)) x1)) rfl ?_
          refine TL.done ?_
          exact TC.nrm () [] ⟨rfl, trivial⟩ [0, 0] rfl
        · intro b0_ b5_ b6_ b7_ b8_ g1
          refine TL.asL [row Ei 3 s3 p1, mat Eii 68 64 s4 ss2 r_2] rfl ?_
          refine TL.ixs 0 0 (RdM.inn (RdM.cut (RdM.mat 1 rfl) (by have h_ := h2; simp only [Bool.and_eq_true, decide_eq_true_eq] at h_; omega) (by have h_ := h2; simp only [Bool.and_eq_true, decide_eq_true_eq] at h_; omega)) h3) h4 Try.underlying64 Try.sizeOf68 rfl rfl rfl rfl rfl ?_
          refine TL.done ?_
          exact TC.nrm () [] ⟨rfl, trivial⟩ [0, 0] rfl
        · intro b0_ b5_ b6_ b7_ b8_ g1
          refine TL.asL [row Ei 3 s3 p1, mat Eii 68 64 s4 ss2 r_2] rfl ?_
          refine TL.fae (RdM.inn (RdM.cut (RdM.mat 1 rfl) (by have h_ := h2; simp only [Bool.and_eq_true, decide_eq_true_eq] at h_; omega) (by have h_ := h2; simp only [Bool.and_eq_true, decide_eq_true_eq] at h_; omega)) h3) (by have := h4; omega) Try.underlying68 rfl Try.sizeOf3 rfl 0 rfl rfl rfl rfl ?_
          refine TL.done ?_
          exact TC.nrm () [] ⟨rfl, trivial⟩ [0, 0] rfl
        · intro b0_ b5_ b6_ b7_ b8_ g1
          refine TL.asL [row Ei 3 s3 p1, mat Eii 68 64 s4 ss2 r_2] rfl ?_
          refine TL.loadE (RdM.inn (RdM.cut (RdM.mat 1 rfl) (by have h_ := h2; simp only [Bool.and_eq_true, decide_eq_true_eq] at h_; omega) (by have h_ := h2; simp only [Bool.and_eq_true, decide_eq_true_eq] at h_; omega)) h3) Try.isAgg3 0 0 (gt_spec h4) (v := .int .i64 ((gt (gt ((r_2.drop 1).take (r_2.length - 1)) x1) 0).1)) rfl rfl rfl rfl rfl ?_
          refine TL.done ?_
          exact TC.nrm () [] ⟨rfl, trivial⟩ [0, 0] rfl
        · intro b0_ b1_ b2_ b3_ b4_ g1
          refine TL.move rfl rfl (v := SV.v (gt ((ss2.drop 1).take (r_2.length - 1)) x1)) rfl ?_
          refine TL.done ?_
          exact TC.nrm () [] ⟨rfl, trivial⟩ [0, 0] rfl
        · intro b0_ b1_ b2_ b3_ b4_ g1
          refine TL.asL [row Ei 3 s3 p1, mat Eii 68 64 s4 ss2 r_2] rfl ?_
          refine TL.ixs 1 2 (RdM.inn (RdM.cut (RdM.mat 1 rfl) (by have h_ := h2; simp only [Bool.and_eq_true, decide_eq_true_eq] at h_; omega) (by have h_ := h2; simp only [Bool.and_eq_true, decide_eq_true_eq] at h_; omega)) h3) h5 Try.underlying64 Try.sizeOf68 rfl rfl rfl rfl rfl ?_
          refine TL.done ?_
          exact TC.nrm () [] ⟨rfl, trivial⟩ [0, 0] rfl
        · intro b0_ b1_ b2_ b3_ b4_ g1
          refine TL.asL [row Ei 3 s3 p1, mat Eii 68 64 s4 ss2 r_2] rfl ?_
          refine TL.fae (RdM.inn (RdM.cut (RdM.mat 1 rfl) (by have h_ := h2; simp only [Bool.and_eq_true, decide_eq_true_eq] at h_; omega) (by have h_ := h2; simp only [Bool.and_eq_true, decide_eq_true_eq] at h_; omega)) h3) (by have := h5; omega) Try.underlying68 rfl Try.sizeOf3 rfl 2 rfl rfl rfl rfl ?_
          refine TL.done ?_
          exact TC.nrm () [] ⟨rfl, trivial⟩ [0, 0] rfl
        · intro b0_ b1_ b2_ b3_ b4_ g1
          refine TL.asL [row Ei 3 s3 p1, mat Eii 68 64 s4 ss2 r_2] rfl ?_
          refine TL.loadE (RdM.inn (RdM.cut (RdM.mat 1 rfl) (by have h_ := h2; simp only [Bool.and_eq_true, decide_eq_true_eq] at h_; omega) (by have h_ := h2; simp only [Bool.and_eq_true, decide_eq_true_eq] at h_; omega)) h3) Try.isAgg3 1 0 (gt_spec h5) (v := .int .i64 ((gt (gt ((r_2.drop 1).take (r_2.length - 1)) x1) 1).1)) rfl rfl rfl rfl rfl ?_
          refine TL.done ?_
          exact TC.nrm () [] ⟨rfl, trivial⟩ [0, 0] rfl
        · intro g1
          refine TL.asL [row Ei 3 s3 p1, mat Eii 68 64 s4 ss2 r_2] rfl ?_
          refine TL.callXH (R := G.impl_pool_join.R s3) hr1 [0, 0] [row Ei 3 s3 p1] [mat Eii 68 64 s4 ss2 r_2] rfl Try.call105 rfl rfl rfl (fun w I_ hle hB hS => G.impl_pool_join.calls _ I_ w s3 p1 ((gt (gt ((r_2.drop 1).take (r_2.length - 1)) x1) 0).1) ((gt (gt ((r_2.drop 1).take (r_2.length - 1)) x1) 1).1) hS) ?_
          rintro _ _ ⟨rfl, rfl⟩
          refine TL.done ?_
          exact TC.nrm () [] ⟨rfl, trivial⟩ [0, 0] rfl
      · intro g1
        refine TC.asL [row Ei 3 s3 p2, mat Eii 68 64 s4 ss2 r_2] rfl ?_
        refine TC.region ?_
        refine TL.bin .i64 x1 1 rfl rfl rfl rfl (v := .int .i64 (w64 (x1 + 1))) rfl ?_
        refine TL.move rfl rfl (v := .int .i64 (w64 (x1 + 1))) rfl ?_
        refine TL.done ?_
        exact TC.next1 ((p2, (w64 (x1 + 1)))) (()) ⟨rfl, rfl, rfl, rfl, trivial⟩ [0, 0] rfl
    · exact TC.brk1 ((p1, x1)) (()) ⟨rfl, rfl, rfl, rfl, trivial⟩ [0, 0] rfl
  · rintro ⟨p1, x1⟩ _
    refine TC.seq ?_
    refine TC.region ?_
    refine TL.move rfl rfl (v := SV.v s3) rfl ?_
    refine TL.call (R := G.impl_pool_distinct.R) Try.call106 rfl rfl rfl (fun w hS => G.impl_pool_distinct.calls w s3 p1 ((Rd.row 0 rfl) w hS)) ?_
    rintro r_3 _ _ ⟨rfl, rfl⟩
    refine TL.assign rfl rfl (v := .int .i64 r_3) rfl ?_
    refine TL.done ?_
    exact TC.retF (Fin.body (fin1 (.inr rfl) rfl (.tmp rfl) [] rfl ⟨rfl, rfl⟩))

end Go.Proofs.Ytnppkcemnjkboaa.G

/- impl.ends, as a pure function. -/
set_option linter.unusedVariables false
namespace Go.Proofs.Ytnppkcemnjkboaa.G
open Go Go.Sx Go.Proofs

def impl_ends.f (k_1 : Int) : Option (Int × Int) := (G.impl_size.f k_1).bind (fun r_1 => (bif (decide (k_1 > 0)) then some ((w64 (2 * (w64 (r_1 - 1)))), (w64 ((w64 (2 * (w64 (r_1 - 1)))) + 1))) else some ((w64 ((w64 (2 * (w64 (r_1 - 1)))) + 1)), (w64 (2 * (w64 (r_1 - 1)))))))

def impl_ends.R (r : Int × Int) (v : Value) (L : List Asn) : Prop := v = .tuple #[.int .i64 r.1, .int .i64 r.2] ∧ L = []

set_option maxRecDepth 100000 in
set_option maxHeartbeats 4000000 in
theorem impl_ends.calls (w : World) (k_1 : Int) :
    ∀ r, impl_ends.f k_1 = some r → Calls Try.prog 108 #[.int .i64 k_1] w (Ret w (impl_ends.R r)) := by

  refine calls_T (n := 17) (Γ := [(0, .int .i64 k_1)]) (R := impl_ends.R) Try.func108 rfl rfl (Nat.le_of_ble_eq_true rfl) ⟨rfl, trivial⟩ ?_
  unfold impl_ends.f
  refine TC.seq ?_
  refine TC.region ?_
  refine TL.assign rfl rfl (v := .int .i64 0) rfl ?_
  refine TL.assign rfl rfl (v := .int .i64 0) rfl ?_
  refine TL.done ?_
  refine TC.seq ?_
  refine TC.region ?_
  refine TL.move rfl rfl (v := .int .i64 k_1) rfl ?_
  refine TL.call (R := G.impl_size.R) Try.call110 rfl rfl rfl (fun w hS => G.impl_size.calls w k_1) ?_
  rintro r_1 _ _ ⟨rfl, rfl⟩
  refine TL.bin .i64 r_1 1 rfl rfl rfl rfl (v := .int .i64 (w64 (r_1 - 1))) rfl ?_
  refine TL.bin .i64 2 (w64 (r_1 - 1)) rfl rfl rfl rfl (v := .int .i64 (w64 (2 * (w64 (r_1 - 1))))) rfl ?_
  refine TL.assign rfl rfl (v := .int .i64 (w64 (2 * (w64 (r_1 - 1))))) rfl ?_
  refine TL.done ?_
  refine TC.seq ?_
  refine TC.seq ?_
  refine TC.region ?_
  refine TL.move rfl rfl (v := .int .i64 k_1) rfl ?_
  refine TL.bin .i64 k_1 0 rfl rfl rfl rfl (v := .bool (decide (k_1 > 0))) rfl ?_
  refine TL.done ?_
  refine TC.cond (b := (decide (k_1 > 0))) rfl (fun c1 => ?_) (fun c2 => ?_)
  · refine TC.seq ?_
    refine TC.region ?_
    refine TL.move rfl rfl (v := .int .i64 (w64 (2 * (w64 (r_1 - 1))))) rfl ?_
    refine TL.move rfl rfl (v := .int .i64 (w64 (2 * (w64 (r_1 - 1))))) rfl ?_
    refine TL.bin .i64 (w64 (2 * (w64 (r_1 - 1)))) 1 rfl rfl rfl rfl (v := .int .i64 (w64 ((w64 (2 * (w64 (r_1 - 1)))) + 1))) rfl ?_
    refine TL.assign rfl rfl (v := .int .i64 (w64 (2 * (w64 (r_1 - 1))))) rfl ?_
    refine TL.assign rfl rfl (v := .int .i64 (w64 ((w64 (2 * (w64 (r_1 - 1)))) + 1))) rfl ?_
    refine TL.done ?_
    exact TC.retF (Fin.body (fin2 (.inr rfl) rfl (.tmp rfl) (.tmp rfl) [] rfl ⟨rfl, rfl⟩))
  · refine TC.skip ?_
    refine TC.seq ?_
    refine TC.region ?_
    refine TL.move rfl rfl (v := .int .i64 (w64 (2 * (w64 (r_1 - 1))))) rfl ?_
    refine TL.bin .i64 (w64 (2 * (w64 (r_1 - 1)))) 1 rfl rfl rfl rfl (v := .int .i64 (w64 ((w64 (2 * (w64 (r_1 - 1)))) + 1))) rfl ?_
    refine TL.move rfl rfl (v := .int .i64 (w64 (2 * (w64 (r_1 - 1))))) rfl ?_
    refine TL.assign rfl rfl (v := .int .i64 (w64 ((w64 (2 * (w64 (r_1 - 1)))) + 1))) rfl ?_
    refine TL.assign rfl rfl (v := .int .i64 (w64 (2 * (w64 (r_1 - 1))))) rfl ?_
    refine TL.done ?_
    exact TC.retF (Fin.body (fin2 (.inr rfl) rfl (.tmp rfl) (.tmp rfl) [] rfl ⟨rfl, rfl⟩))

end Go.Proofs.Ytnppkcemnjkboaa.G
