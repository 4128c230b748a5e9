/- impl.oriented, as a pure function. -/
import Derived.Test.YtnppkcemnjkboaaProg
import Derived.Test.YtnppkcemnjkboaaSx9
import Derived.Test.YtnppkcemnjkboaaQ74
import Derived.Test.YtnppkcemnjkboaaQ87
import Derived.Test.YtnppkcemnjkboaaQ98
set_option linter.unusedVariables false
namespace Go.Proofs.Ytnppkcemnjkboaa.G
open Go Go.Sx Go.Proofs

def impl_oriented.f (s1 : List (List Int)) : Option Bool := (G.impl_sidesOfEdges.f s1).bind (fun r_1 => grd (decide (0 ≤ 1) && decide (1 ≤ (r_1.length : Int)) && decide ((r_1.length : Int) ≤ (r_1.length : Int))) ((G.slices_ContainsFunc_impl_sided_impl_sided.f ((r_1.drop 1).take (r_1.length - 1)) (fun x0_ => G.impl_oriented_1.f x0_ s1)).bind (fun r_2 => some (!r_2))))

def impl_oriented.R (r : Bool) (v : Value) (L : List Asn) : Prop := v = .bool r ∧ L = []

set_option maxRecDepth 100000 in
set_option maxHeartbeats 4000000 in
theorem impl_oriented.calls (w : World) (s2 : SV) (ss1 : List SV) (s1 : List (List Int)) (h1 : ReadsM Ei (hp w) s2 ss1 s1) :
    ∀ r, impl_oriented.f s1 = some r → Calls Try.prog 56 #[SV.v s2] w (Ret w (impl_oriented.R r)) := by

  refine calls_T (n := 9) (Γ := [(0, SV.v s2)]) (R := impl_oriented.R) Try.func56 rfl rfl (Nat.le_of_ble_eq_true rfl) ⟨rfl, trivial⟩ ?_
  unfold impl_oriented.f
  refine TC.seq ?_
  refine TC.region ?_
  refine TL.box [.one (SV.v s2)] rfl rfl rfl rfl fun b_1 => ?_
  refine TL.assign rfl rfl (v := .bool false) rfl ?_
  refine TL.done ?_
  refine TC.seq ?_
  refine TC.region ?_
  refine TL.load1 0 (Src.box 0 rfl) Try.isAgg22 rfl rfl rfl rfl rfl ?_
  refine TL.call (R := G.impl_sidesOfEdges.R) Try.call74 rfl rfl rfl (fun w hS => G.impl_sidesOfEdges.calls w s2 ss1 s1 ((RdM.old h1) w hS)) ?_
  rintro r_1 _ _ ⟨s3, ss2, rfl, rfl⟩
  refine TL.grd fun h2 => ?_
  refine TL.sliceM (li := (some 1)) (hi' := none) (l := 1) (h := r_1.length) (RdM.mat 0 rfl) Try.underlying65 Try.sizeOf64 rfl rfl (by have h_ := h2; simp only [Bool.and_eq_true, decide_eq_true_eq] at h_; first | rfl | (simp only [Option.getD_none, Option.getD_some]; omega)) (by have h_ := h2; simp only [Bool.and_eq_true, decide_eq_true_eq] at h_; first | rfl | (simp only [Option.getD_none, Option.getD_some]; omega)) (by have h_ := h2; simp only [Bool.and_eq_true, decide_eq_true_eq] at h_; omega) (by have h_ := h2; simp only [Bool.and_eq_true, decide_eq_true_eq] at h_; omega) rfl rfl rfl ?_
  refine TL.makeFunc rfl rfl (us := []) (vs := [bp b_1 0]) rfl rfl ?_
  refine TL.call (R := G.slices_ContainsFunc_impl_sided_impl_sided.R) Try.call87 rfl rfl rfl (fun w hS => G.slices_ContainsFunc_impl_sided_impl_sided.calls w (SV.cut s3 1 r_1.length s3.c Ev.sz) ((ss2.drop 1).take (r_1.length - 1)) ((r_1.drop 1).take (r_1.length - 1)) 98 [] [bp b_1 0] (fun x0_ => G.impl_oriented_1.f x0_ s1) ((RdM.cut (RdM.mat 0 rfl) (by have h_ := h2; simp only [Bool.and_eq_true, decide_eq_true_eq] at h_; omega) (by have h_ := h2; simp only [Bool.and_eq_true, decide_eq_true_eq] at h_; omega)) w hS) Try.call98 (fun w_ hle_ s1_ x0_ h0_ r_ hr_ => G.impl_oriented_1.calls w_ s1_ x0_ b_1 s2 ss1 s1 h0_ (((Src.box 1 rfl) w hS).mono hle_) (((RdM.old h1) w hS).mono hle_) r_ hr_)) ?_
  rintro r_2 _ _ ⟨rfl, rfl⟩
  refine TL.not r_2 rfl rfl rfl ?_
  refine TL.assign rfl rfl (v := .bool (!r_2)) rfl ?_
  refine TL.done ?_
  exact TC.retF (Fin.body (fin1 (.inr rfl) rfl (.tmp rfl) [] rfl ⟨rfl, rfl⟩))

end Go.Proofs.Ytnppkcemnjkboaa.G
