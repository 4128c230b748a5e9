/- impl.IsSurface, as a pure function. -/
import Derived.Test.YtnppkcemnjkboaaProg
import Derived.Test.YtnppkcemnjkboaaSx9
import Derived.Test.YtnppkcemnjkboaaQ60
import Derived.Test.YtnppkcemnjkboaaQ74
import Derived.Test.YtnppkcemnjkboaaQ77
import Derived.Test.YtnppkcemnjkboaaQ86
import Derived.Test.YtnppkcemnjkboaaQ87
import Derived.Test.YtnppkcemnjkboaaQ88
set_option linter.unusedVariables false
namespace Go.Proofs.Ytnppkcemnjkboaa.G
open Go Go.Sx Go.Proofs

def impl_IsSurface.b0 (s1 : List (List Int)) : Int → Option (LR Int Bool) := fun x1 => (bif (decide (x1 < (s1.length : Int))) then chk x1 s1.length ((bif (((gt s1 x1).length : Int) != 3) then some true else (G.slices_ContainsFunc_int64_int64.f (gt s1 x1) (fun x0_ => G.impl_IsSurface_1.f x0_ s1)).bind (fun r_2 => some r_2)).bind (fun b_2 => (bif b_2 then some (.ret (false)) else some (.next (w64 (x1 + 1)))))) else some (.brk x1))

def impl_IsSurface.f (s1 : List (List Int)) : Option Bool := (G.impl_in.f (s1.length : Int) 2 12).bind (fun r_1 => (bif ((!r_1) || ((Int.tmod (s1.length : Int) 2) != 0)) then some false else (loop (impl_IsSurface.b0 s1) 0).bind (ln (fun x1 => (G.impl_sidesOfEdges.f s1).bind (fun r_3 => grd (decide (0 ≤ 1) && decide (1 ≤ (r_3.length : Int)) && decide ((r_3.length : Int) ≤ (r_3.length : Int))) ((G.slices_ContainsFunc_impl_sided_impl_sided.f ((r_3.drop 1).take (r_3.length - 1)) G.impl_IsSurface_2.f).bind (fun r_4 => some (!r_4))))))))

def impl_IsSurface.R (r : Bool) (v : Value) (L : List Asn) : Prop := v = .bool r ∧ L = []

set_option maxRecDepth 100000 in
set_option maxHeartbeats 4000000 in
theorem impl_IsSurface.calls (w : World) (s2 : SV) (ss1 : List SV) (s1 : List (List Int)) (h1 : ReadsM Ei (hp w) s2 ss1 s1) :
    ∀ r, impl_IsSurface.f s1 = some r → Calls Try.prog 37 #[SV.v s2] w (Ret w (impl_IsSurface.R r)) := by

  refine calls_T (n := 35) (Γ := [(0, SV.v s2)]) (R := impl_IsSurface.R) Try.func37 rfl rfl (Nat.le_of_ble_eq_true rfl) ⟨rfl, trivial⟩ ?_
  unfold impl_IsSurface.f
  refine TC.seq ?_
  refine TC.region ?_
  refine TL.box [.one (SV.v s2)] rfl rfl rfl rfl fun b_1 => ?_
  refine TL.assign rfl rfl (v := .bool false) rfl ?_
  refine TL.done ?_
  refine TC.seq ?_
  refine TC.seq ?_
  refine TC.region ?_
  refine TL.load1 0 (Src.box 0 rfl) Try.isAgg22 rfl rfl rfl rfl rfl ?_
  refine TL.lenM (RdM.old h1) Try.underlying22 rfl rfl rfl ?_
  refine TL.call (R := G.impl_in.R) Try.call60 rfl rfl rfl (fun w hS => G.impl_in.calls w (s1.length : Int) 2 12) ?_
  rintro r_1 _ _ ⟨rfl, rfl⟩
  refine TL.not r_1 rfl rfl rfl ?_
  refine TL.move rfl rfl (v := .bool (!r_1)) rfl ?_
  refine TL.cutU 5 [(14, .bool ((!r_1) || ((Int.tmod (s1.length : Int) 2) != 0))), (0, SV.v s2), (1, bp b_1 0), (2, .bool false), (5, SV.v s2), (6, .int .i64 (s1.length : Int)), (7, .bool r_1), (8, .bool (!r_1)), (9, .bool (!r_1))] [box b_1 22 [.one (SV.v s2)]] ?_ ?_
  · refine TL.cases (t := 9) (b := (!r_1)) rfl (fun c1 => ?_) (fun c2 => ?_)
    · refine TL.skip rfl rfl (by decide) ?_
      refine TL.skip rfl rfl (by decide) ?_
      refine TL.skip rfl rfl (by decide) ?_
      refine TL.skip rfl rfl (by decide) ?_
      refine TL.pick rfl rfl (b := true) rfl (r := .bool true) rfl ?_
      refine TL.done ?_
      exact TC.nrm () () ⟨(by rw [c1]; rfl), rfl, rfl, rfl, rfl, rfl, rfl, rfl, (by rw [c1]; rfl), trivial⟩ [0] rfl
    · refine TL.load1 0 (Src.box 0 rfl) Try.isAgg22 rfl rfl rfl rfl rfl ?_
      refine TL.lenM (RdM.old h1) Try.underlying22 rfl rfl rfl ?_
      refine TL.rem .i64 (s1.length : Int) 2 (by decide) rfl rfl rfl rfl ?_
      refine TL.bin .i64 (Int.tmod (s1.length : Int) 2) 0 rfl rfl rfl rfl (v := .bool ((Int.tmod (s1.length : Int) 2) != 0)) rfl ?_
      refine TL.pick rfl rfl (b := false) rfl (r := .bool ((Int.tmod (s1.length : Int) 2) != 0)) rfl ?_
      refine TL.done ?_
      exact TC.nrm () () ⟨(by rw [c2]; rfl), rfl, rfl, rfl, rfl, rfl, rfl, rfl, (by rw [c2]; rfl), trivial⟩ [0] rfl
  · refine TL.done ?_
    refine TC.cond (b := ((!r_1) || ((Int.tmod (s1.length : Int) 2) != 0))) rfl (fun c3 => ?_) (fun c4 => ?_)
    · refine TC.seq ?_
      refine TC.region ?_
      refine TL.assign rfl rfl (v := .bool false) rfl ?_
      refine TL.done ?_
      exact TC.retF (Fin.body (fin1 (.inr rfl) rfl (.tmp rfl) [] rfl ⟨rfl, rfl⟩))
    · refine TC.skip ?_
      refine TC.seq ?_
      refine TC.seq ?_
      refine TC.region ?_
      refine TL.load1 0 (Src.box 0 rfl) Try.isAgg22 rfl rfl rfl rfl rfl ?_
      refine TL.lenM (RdM.old h1) Try.underlying22 rfl rfl rfl ?_
      refine TL.move rfl rfl (v := .int .i64 0) rfl ?_
      refine TL.done ?_
      refine TC.loopK (σ := Int) (γ := Unit) (Γ' := (fun x1 _ => [(1, bp b_1 0), (15, SV.v s2), (16, .int .i64 (s1.length : Int)), (17, .int .i64 x1)])) (L' := (fun x1 _ => [box b_1 22 [.one (SV.v s2)]])) (Γb := (fun x1 _ => [(1, bp b_1 0), (15, SV.v s2), (16, .int .i64 (s1.length : Int)), (17, .int .i64 x1)])) (Lb := (fun x1 _ => [box b_1 22 [.one (SV.v s2)]])) (0) (()) ⟨rfl, rfl, rfl, rfl, trivial⟩ [0] rfl ?_ ?_
      · rintro x1 _
        refine TC.seq ?_
        refine TC.region ?_
        refine TL.bin .i64 x1 (s1.length : Int) rfl rfl rfl rfl (v := .bool (decide (x1 < (s1.length : Int)))) rfl ?_
        refine TL.done ?_
        refine TC.seq ?_
        refine TC.cond (b := (decide (x1 < (s1.length : Int)))) rfl (fun c5 => ?_) (fun c6 => ?_)
        · refine TC.skip ?_
          refine TC.seq ?_
          refine TC.block (NoEx.loop rfl NoEx.body) ?_
          refine TC.seq ?_
          refine TC.region ?_
          refine TL.chk fun h2 => ?_
          refine TL.ixsM x1 x1.toNat (RdM.old h1) h2 Try.underlying22 Try.sizeOf53 rfl rfl rfl rfl (by omega) ?_
          refine TL.loadM2 (RdM.old h1) Try.isAgg53 x1 h2 (by omega) rfl rfl rfl ?_
          refine TL.assign rfl rfl (v := SV.v (gt ss1 x1)) rfl ?_
          refine TL.done ?_
          refine TC.seq ?_
          refine TC.region ?_
          refine TL.move rfl rfl (v := SV.v (gt ss1 x1)) rfl ?_
          refine TL.len (RdM.inn (RdM.old h1) h2) Try.underlying53 rfl rfl rfl ?_
          refine TL.bin .i64 ((gt s1 x1).length : Int) 3 rfl rfl rfl rfl (v := .bool (((gt s1 x1).length : Int) != 3)) rfl ?_
          refine TL.move rfl rfl (v := .bool (((gt s1 x1).length : Int) != 3)) rfl ?_
          refine TL.cutJ (σ := Bool) (γ := Unit) (Γ' := fun b_2 _ => [(28, .bool b_2), (1, bp b_1 0), (15, SV.v s2), (16, .int .i64 (s1.length : Int)), (17, .int .i64 x1), (18, .bool (decide (x1 < (s1.length : Int)))), (19, ep s2 x1.toNat), (20, SV.v (gt ss1 x1)), (4, SV.v (gt ss1 x1)), (21, SV.v (gt ss1 x1)), (22, .int .i64 ((gt s1 x1).length : Int)), (23, .bool (((gt s1 x1).length : Int) != 3)), (24, .bool (((gt s1 x1).length : Int) != 3))]) (L' := fun _ _ => [box b_1 22 [.one (SV.v s2)]]) 4 ?_ ?_
          · refine TL.ifb (t := 24) (b := (((gt s1 x1).length : Int) != 3)) rfl (fun c7 => ?_) (fun c8 => ?_)
            · refine TL.skip rfl rfl (by decide) ?_
              refine TL.skip rfl rfl (by decide) ?_
              refine TL.skip rfl rfl (by decide) ?_
              refine TL.pick rfl rfl (b := true) rfl (r := .bool true) rfl ?_
              refine TL.done ?_
              exact TC.nrm (true) () ⟨rfl, rfl, rfl, rfl, rfl, rfl, rfl, rfl, rfl, rfl, rfl, rfl, (by rw [c7]; rfl), trivial⟩ [0] rfl
            · refine TL.move rfl rfl (v := SV.v (gt ss1 x1)) rfl ?_
              refine TL.makeFunc rfl rfl (us := []) (vs := [bp b_1 0]) rfl rfl ?_
              refine TL.call (R := G.slices_ContainsFunc_int64_int64.R) Try.call77 rfl rfl rfl (fun w hS => G.slices_ContainsFunc_int64_int64.calls w (gt ss1 x1) (gt s1 x1) 86 [] [bp b_1 0] (fun x0_ => G.impl_IsSurface_1.f x0_ s1) ((RdM.inn (RdM.old h1) h2) w hS) Try.call86 (fun w_ hle_ x0_ r_ hr_ => G.impl_IsSurface_1.calls w_ x0_ b_1 s2 ss1 s1 (((Src.box 0 rfl) w hS).mono hle_) (((RdM.old h1) w hS).mono hle_) r_ hr_)) ?_
              rintro r_2 _ _ ⟨rfl, rfl⟩
              refine TL.pick rfl rfl (b := false) rfl (r := .bool r_2) rfl ?_
              refine TL.done ?_
              exact TC.nrm (r_2) () ⟨rfl, rfl, rfl, rfl, rfl, rfl, rfl, rfl, rfl, rfl, rfl, rfl, (by rw [c8]; rfl), trivial⟩ [0] rfl
          · rintro b_2 _
            refine TL.done ?_
            refine TC.cond (b := b_2) rfl (fun c9 => ?_) (fun c10 => ?_)
            · refine TC.seq ?_
              refine TC.region ?_
              refine TL.assign rfl rfl (v := .bool false) rfl ?_
              refine TL.done ?_
              exact TC.retF (Fin.loop Far.ret (Fin.body (fin1 (.inr rfl) rfl (.tmp rfl) [] rfl ⟨rfl, rfl⟩)))
            · refine TC.skip ?_
              refine TC.region ?_
              refine TL.bin .i64 x1 1 rfl rfl rfl rfl (v := .int .i64 (w64 (x1 + 1))) rfl ?_
              refine TL.move rfl rfl (v := .int .i64 (w64 (x1 + 1))) rfl ?_
              refine TL.done ?_
              exact TC.next ((w64 (x1 + 1))) (()) ⟨rfl, rfl, rfl, rfl, trivial⟩ [0] rfl
        · exact TC.brk (x1) (()) ⟨rfl, rfl, rfl, rfl, trivial⟩ [0] rfl
      · rintro x1 _
        refine TC.seq ?_
        refine TC.region ?_
        refine TL.load1 0 (Src.box 0 rfl) Try.isAgg22 rfl rfl rfl rfl rfl ?_
        refine TL.call (R := G.impl_sidesOfEdges.R) Try.call74 rfl rfl rfl (fun w hS => G.impl_sidesOfEdges.calls w s2 ss1 s1 ((RdM.old h1) w hS)) ?_
        rintro r_3 _ _ ⟨s3, ss2, rfl, rfl⟩
        refine TL.grd fun h3 => ?_
        refine TL.sliceM (li := (some 1)) (hi' := none) (l := 1) (h := r_3.length) (RdM.mat 0 rfl) Try.underlying65 Try.sizeOf64 rfl rfl (by have h_ := h3; simp only [Bool.and_eq_true, decide_eq_true_eq] at h_; first | rfl | (simp only [Option.getD_none, Option.getD_some]; omega)) (by have h_ := h3; simp only [Bool.and_eq_true, decide_eq_true_eq] at h_; first | rfl | (simp only [Option.getD_none, Option.getD_some]; omega)) (by have h_ := h3; simp only [Bool.and_eq_true, decide_eq_true_eq] at h_; omega) (by have h_ := h3; simp only [Bool.and_eq_true, decide_eq_true_eq] at h_; omega) rfl rfl rfl ?_
        refine TL.call (R := G.slices_ContainsFunc_impl_sided_impl_sided.R) Try.call87 rfl rfl rfl (fun w hS => G.slices_ContainsFunc_impl_sided_impl_sided.calls w (SV.cut s3 1 r_3.length s3.c Ev.sz) ((ss2.drop 1).take (r_3.length - 1)) ((r_3.drop 1).take (r_3.length - 1)) 88 [] [] G.impl_IsSurface_2.f ((RdM.cut (RdM.mat 0 rfl) (by have h_ := h3; simp only [Bool.and_eq_true, decide_eq_true_eq] at h_; omega) (by have h_ := h3; simp only [Bool.and_eq_true, decide_eq_true_eq] at h_; omega)) w hS) Try.call88 (fun w_ hle_ s1_ x0_ h0_ r_ hr_ => G.impl_IsSurface_2.calls w_ s1_ x0_ h0_ r_ hr_)) ?_
        rintro r_4 _ _ ⟨rfl, rfl⟩
        refine TL.not r_4 rfl rfl rfl ?_
        refine TL.assign rfl rfl (v := .bool (!r_4)) rfl ?_
        refine TL.done ?_
        exact TC.retF (Fin.body (fin1 (.inr rfl) rfl (.tmp rfl) [] rfl ⟨rfl, rfl⟩))

end Go.Proofs.Ytnppkcemnjkboaa.G
