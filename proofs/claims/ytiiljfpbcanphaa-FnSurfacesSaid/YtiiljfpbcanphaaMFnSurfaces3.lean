/- Functions of the program, as pure functions. -/
import Derived.Test.YtiiljfpbcanphaaMFnSurfaces2
import Derived.Test.YtiiljfpbcanphaaProg
/- slices.Index[[]int64,int64], as a pure function. -/
set_option linter.unusedVariables false
namespace Go.Proofs.Ytiiljfpbcanphaa.G
open Go Go.Sx Go.Proofs

def slices_Index_int64_int64.b0 (s1 : List Int) (v_1 : Int) : Int → Option (LR Int Int) := fun x1 => (bif (decide (x1 < (s1.length : Int))) then chk x1 s1.length ((bif (v_1 == (gt s1 x1)) then some (.ret (x1)) else some (.next (w64 (x1 + 1))))) else some (.brk x1))

def slices_Index_int64_int64.f (s1 : List Int) (v_1 : Int) : Option Int := (loop (slices_Index_int64_int64.b0 s1 v_1) 0).bind (ln (fun x1 => some (-1)))

def slices_Index_int64_int64.R (r : Int) (v : Value) (L : List Asn) : Prop := v = .int .i64 r ∧ L = []

set_option maxRecDepth 100000 in
set_option maxHeartbeats 4000000 in
theorem slices_Index_int64_int64.calls (w : World) (s2 : SV) (s1 : List Int) (v_1 : Int) (h1 : Reads Ei (hp w) s2 s1) :
  ∀ r, slices_Index_int64_int64.f s1 v_1 = some r → Calls Try.prog 151 #[SV.v s2, .int .i64 v_1] w (Ret w (slices_Index_int64_int64.R r)) := by

 refine calls_T (n := 19) (Γ := [(0, SV.v s2), (1, .int .i64 v_1)]) (R := slices_Index_int64_int64.R) Try.func151 rfl rfl (Nat.le_of_ble_eq_true rfl) ⟨rfl, rfl, trivial⟩ ?_
 unfold slices_Index_int64_int64.f
 refine TC.seq ?_
 refine TC.region ?_
 refine TL.assign rfl rfl (v := .int .i64 0) rfl ?_
 refine TL.done ?_
 refine TC.seq ?_
 refine TC.seq ?_
 refine TC.region ?_
 refine TL.move rfl rfl (v := SV.v s2) rfl ?_
 refine TL.len (Rd.old h1) Try.underlying22 rfl rfl rfl ?_
 refine TL.move rfl rfl (v := .int .i64 0) rfl ?_
 refine TL.done ?_
 refine TC.loopK (σ := Int) (γ := Unit) (Γ' := (fun x1 _ => [(0, SV.v s2), (1, .int .i64 v_1), (7, .int .i64 (s1.length : Int)), (8, .int .i64 x1)])) (L' := (fun x1 _ => [])) (Γb := (fun x1 _ => [(0, SV.v s2), (1, .int .i64 v_1), (7, .int .i64 (s1.length : Int)), (8, .int .i64 x1)])) (Lb := (fun x1 _ => [])) (0) (()) ⟨rfl, rfl, rfl, rfl, trivial⟩ [] rfl ?_ ?_
 ·rintro x1 _
  refine TC.seq ?_
  refine TC.region ?_
  refine TL.bin .i64 x1 (s1.length : Int) rfl rfl rfl rfl (v := .bool (decide (x1 < (s1.length : Int)))) rfl ?_
  refine TL.done ?_
  refine TC.seq ?_
  refine TC.cond (b := (decide (x1 < (s1.length : Int)))) rfl (fun c1 => ?_) (fun c2 => ?_)
  ·refine TC.skip ?_
   refine TC.seq ?_
   refine TC.block (NoEx.loop rfl NoEx.body) ?_
   refine TC.seq ?_
   refine TC.region ?_
   refine TL.move rfl rfl (v := .int .i64 x1) rfl ?_
   refine TL.assign rfl rfl (v := .int .i64 x1) rfl ?_
   refine TL.done ?_
   refine TC.seq ?_
   refine TC.region ?_
   refine TL.move rfl rfl (v := .int .i64 v_1) rfl ?_
   refine TL.move rfl rfl (v := SV.v s2) rfl ?_
   refine TL.move rfl rfl (v := .int .i64 x1) rfl ?_
   refine TL.chk fun h2 => ?_
   refine TL.ixs x1 x1.toNat (Rd.old h1) h2 Try.underlying22 Try.sizeOf2 rfl rfl rfl rfl (by omega) ?_
   refine TL.loadE (Rd.old h1) Try.isAgg2 x1.toNat 0 (gt_spec h2) (v := .int .i64 (gt s1 x1)) rfl (by simp only [show Ei.sz = 1 from rfl] <;> omega) rfl rfl rfl ?_
   refine TL.bin .i64 v_1 (gt s1 x1) rfl rfl rfl rfl (v := .bool (v_1 == (gt s1 x1))) rfl ?_
   refine TL.done ?_
   refine TC.cond (b := (v_1 == (gt s1 x1))) rfl (fun c3 => ?_) (fun c4 => ?_)
   ·refine TC.seq ?_
    refine TC.region ?_
    refine TL.move rfl rfl (v := .int .i64 x1) rfl ?_
    refine TL.assign rfl rfl (v := .int .i64 x1) rfl ?_
    refine TL.done ?_
    exact TC.retF (Fin.loop Far.ret (Fin.body (fin1 (.inr rfl) rfl (.tmp rfl) [] rfl ⟨rfl, rfl⟩)))
   ·refine TC.skip ?_
    refine TC.region ?_
    refine TL.bin .i64 x1 1 rfl rfl rfl rfl (v := .int .i64 (w64 (x1 + 1))) rfl ?_
    refine TL.move rfl rfl (v := .int .i64 (w64 (x1 + 1))) rfl ?_
    refine TL.done ?_
    exact TC.next ((w64 (x1 + 1))) (()) ⟨rfl, rfl, rfl, rfl, trivial⟩ [] rfl
  ·exact TC.brk (x1) (()) ⟨rfl, rfl, rfl, rfl, trivial⟩ [] rfl
 ·rintro x1 _
  refine TC.seq ?_
  refine TC.region ?_
  refine TL.assign rfl rfl (v := .int .i64 (-1)) rfl ?_
  refine TL.done ?_
  exact TC.retF (Fin.body (fin1 (.inr rfl) rfl (.tmp rfl) [] rfl ⟨rfl, rfl⟩))

end Go.Proofs.Ytiiljfpbcanphaa.G

/- slices.Contains[[]int64,int64], as a pure function. -/
set_option linter.unusedVariables false
namespace Go.Proofs.Ytiiljfpbcanphaa.G
open Go Go.Sx Go.Proofs

def slices_Contains_int64_int64.f (s1 : List Int) (v_1 : Int) : Option Bool := (G.slices_Index_int64_int64.f s1 v_1).bind (fun r_1 => some (decide (r_1 ≥ 0)))

def slices_Contains_int64_int64.R (r : Bool) (v : Value) (L : List Asn) : Prop := v = .bool r ∧ L = []

set_option maxRecDepth 100000 in
set_option maxHeartbeats 4000000 in
theorem slices_Contains_int64_int64.calls (w : World) (s2 : SV) (s1 : List Int) (v_1 : Int) (h1 : Reads Ei (hp w) s2 s1) :
  ∀ r, slices_Contains_int64_int64.f s1 v_1 = some r → Calls Try.prog 105 #[SV.v s2, .int .i64 v_1] w (Ret w (slices_Contains_int64_int64.R r)) := by

 refine calls_T (n := 9) (Γ := [(0, SV.v s2), (1, .int .i64 v_1)]) (R := slices_Contains_int64_int64.R) Try.func105 rfl rfl (Nat.le_of_ble_eq_true rfl) ⟨rfl, rfl, trivial⟩ ?_
 unfold slices_Contains_int64_int64.f
 refine TC.seq ?_
 refine TC.region ?_
 refine TL.assign rfl rfl (v := .bool false) rfl ?_
 refine TL.done ?_
 refine TC.seq ?_
 refine TC.region ?_
 refine TL.move rfl rfl (v := SV.v s2) rfl ?_
 refine TL.move rfl rfl (v := .int .i64 v_1) rfl ?_
 refine TL.call (R := G.slices_Index_int64_int64.R) Try.call151 rfl rfl rfl (fun w hS => G.slices_Index_int64_int64.calls w s2 s1 v_1 ((Rd.old h1) w hS)) ?_
 rintro r_1 _ _ ⟨rfl, rfl⟩
 refine TL.bin .i64 r_1 0 rfl rfl rfl rfl (v := .bool (decide (r_1 ≥ 0))) rfl ?_
 refine TL.assign rfl rfl (v := .bool (decide (r_1 ≥ 0))) rfl ?_
 refine TL.done ?_
 exact TC.retF (Fin.body (fin1 (.inr rfl) rfl (.tmp rfl) [] rfl ⟨rfl, rfl⟩))

end Go.Proofs.Ytiiljfpbcanphaa.G

/- impl.OrientSurface$1, as a pure function. -/
set_option linter.unusedVariables false
namespace Go.Proofs.Ytiiljfpbcanphaa.G
open Go Go.Sx Go.Proofs

def impl_OrientSurface_1.f (k_1 : Int) (c1 : List (List Int)) (c2 : List Int) : Option Bool := chk 0 c2.length (chk (gt c2 0) c1.length ((G.slices_Contains_int64_int64.f (gt c1 (gt c2 0)) k_1).bind (fun r_1 => (bif r_1 then some true else (G.slices_Contains_int64_int64.f (gt c1 (gt c2 0)) (w64 (0 - k_1))).bind (fun r_4 => some r_4)))))

def impl_OrientSurface_1.R (r : Bool) (v : Value) (L : List Asn) : Prop := v = .bool r ∧ L = []

set_option maxRecDepth 100000 in
set_option maxHeartbeats 4000000 in
theorem impl_OrientSurface_1.calls (w : World) (k_1 : Int) (b_1 : Nat) (s1 : SV) (ss1 : List SV) (c1 : List (List Int)) (b_2 : Nat) (s2 : SV) (c2 : List Int) (h2 : At (hp w) b_1 [.one (SV.v s1)]) (h1 : ReadsM Ei (hp w) s1 ss1 c1) (h4 : At (hp w) b_2 [.one (SV.v s2)]) (h3 : Reads Ei (hp w) s2 c2) :
  ∀ r, impl_OrientSurface_1.f k_1 c1 c2 = some r → Calls Try.prog 104 #[.int .i64 k_1, bp b_1 0, bp b_2 0] w (Ret w (impl_OrientSurface_1.R r)) := by

 refine calls_T (n := 24) (Γ := [(0, .int .i64 k_1), (1, bp b_1 0), (2, bp b_2 0)]) (R := impl_OrientSurface_1.R) Try.func104 rfl rfl (Nat.le_of_ble_eq_true rfl) ⟨rfl, rfl, rfl, trivial⟩ ?_
 unfold impl_OrientSurface_1.f
 refine TC.seq ?_
 refine TC.region ?_
 refine TL.assign rfl rfl (v := .bool false) rfl ?_
 refine TL.done ?_
 refine TC.seq ?_
 refine TC.chk fun h5 => ?_
 refine TC.chk fun h6 => ?_
 refine TC.bindE ?_
 rintro r_1 hr1
 refine TC.ifB r_1 (fun c3 => ?_) (fun c3 => ?_)
 ·refine TC.wk (Γ' := [(0, .int .i64 k_1), (1, bp b_1 0), (2, bp b_2 0)]) ⟨rfl, rfl, rfl, trivial⟩ ?_
  refine TC.drawG [(0, .int .i64 k_1), (1, bp b_1 0), (2, bp b_2 0)] [] ⟨rfl, rfl, rfl, trivial⟩ trivial (fun l_ g2 => []) (fun g2 => [SV.v s1, SV.v s2, ep s2 0, .int .i64 (gt c2 0), ep s1 ((gt c2 0).toNat), SV.v (gt ss1 (gt c2 0)), .int .i64 k_1, .bool true, .bool true, undef, undef, undef, undef, undef, undef, undef, undef, undef, .bool true, .bool true]) [[], [], [1], [1, 2], [0, 1, 2, 3], [0, 1, 2, 3, 4], [], [0, 1, 2, 3, 4, 5, 6], [0, 1, 2, 3, 4, 5, 6, 7], [0, 1, 2, 3, 4, 5, 6, 7, 8], [0, 1, 2, 3, 4, 5, 6, 7, 8], [0, 1, 2, 3, 4, 5, 6, 7, 8, 10], [0, 1, 2, 3, 4, 5, 6, 7, 8, 10, 11], [0, 1, 2, 3, 4, 5, 6, 7, 8, 9, 10, 11, 12], [0, 1, 2, 3, 4, 5, 6, 7, 8, 9, 10, 11, 12, 13], [0, 1, 2, 3, 4, 5, 6, 7, 8], [0, 1, 2, 3, 4, 5, 6, 7, 8, 15], [0, 1, 2, 3, 4, 5, 6, 7, 8, 9, 10, 11, 12, 13, 14, 15, 16], [0, 1, 2, 3, 4, 5, 6, 7, 8, 9, 10, 11, 12, 13, 14, 15, 16, 17], [0, 1, 2, 3, 4, 5, 6, 7, 8, 9, 10, 11, 12, 13, 14, 15, 16, 17, 18]] [[some false, none, none, none, some false, some false, none, some false, some false, some false, some false, some false, some false, some false, some false, some false, some false, some false, some false, some false], [none, some false, some false, some false, some false, some false, none, some false, some false, some false, some false, some false, some false, some false, some false, some false, some false, some false, some false, some false], [none, some true, some false, some false, some false, some false, none, some false, some false, some false, some false, some false, some false, some false, some false, some false, some false, some false, some false, some false], [none, some true, some true, some false, some false, some false, none, some false, some false, some false, some false, some false, some false, some false, some false, some false, some false, some false, some false, some false], [some true, some true, some true, some true, some false, some false, none, some false, some false, some false, some false, some false, some false, some false, some false, some false, some false, some false, some false, some false], [some true, some true, some true, some true, some true, some false, none, some false, some false, some false, some false, some false, some false, some false, some false, some false, some false, some false, some false, some false], [none, none, none, none, none, none, some false, some false, some false, some false, some false, some false, some false, some false, some false, some false, some false, some false, some false, some false], [some true, some true, some true, some true, some true, some true, some true, some false, some false, some false, some false, some false, some false, some false, some false, some false, some false, some false, some false, some false], [some true, some true, some true, some true, some true, some true, some true, some true, some false, some false, some false, some false, some false, some false, some false, some false, some false, some false, some false, some false], [some true, some true, some true, some true, some true, some true, some true, some true, some true, some false, none, none, none, some false, some false, none, none, some false, some false, some false], [some true, some true, some true, some true, some true, some true, some true, some true, some true, none, some false, some false, some false, some false, some false, none, none, some false, some false, some false], [some true, some true, some true, some true, some true, some true, some true, some true, some true, none, some true, some false, some false, some false, some false, none, none, some false, some false, some false], [some true, some true, some true, some true, some true, some true, some true, some true, some true, none, some true, some true, some false, some false, some false, none, none, some false, some false, some false], [some true, some true, some true, some true, some true, some true, some true, some true, some true, some true, some true, some true, some true, some false, some false, none, none, some false, some false, some false], [some true, some true, some true, some true, some true, some true, some true, some true, some true, some true, some true, some true, some true, some true, some false, none, none, some false, some false, some false], [some true, some true, some true, some true, some true, some true, some true, some true, some true, none, none, none, none, none, none, some false, some false, some false, some false, some false], [some true, some true, some true, some true, some true, some true, some true, some true, some true, none, none, none, none, none, none, some true, some false, some false, some false, some false], [some true, some true, some true, some true, some true, some true, some true, some true, some true, some true, some true, some true, some true, some true, some true, some true, some true, some false, some false, some false], [some true, some true, some true, some true, some true, some true, some true, some true, some true, some true, some true, some true, some true, some true, some true, some true, some true, some true, some false, some false], [some true, some true, some true, some true, some true, some true, some true, some true, some true, some true, some true, some true, some true, some true, some true, some true, some true, some true, some true, some false]] (by kernel_rfl) (fun _ => rfl) rfl rfl rfl rfl rfl (fun _ _ => ⟨⟨⟨⟨⟨⟨⟨⟨⟨⟨⟨⟨⟨⟨⟨⟨⟨⟨⟨⟨trivial, rfl⟩, rfl⟩, rfl⟩, rfl⟩, rfl⟩, rfl⟩, rfl⟩, rfl⟩, rfl⟩, rfl⟩, rfl⟩, rfl⟩, rfl⟩, rfl⟩, rfl⟩, rfl⟩, rfl⟩, rfl⟩, rfl⟩, rfl⟩) 0 [] (fun _ => by kernel_rfl) ?_ ?_
  ·refine ⟨rfl, ?_, rfl, ?_, rfl, ?_, rfl, ?_, rfl, ?_, rfl, ?_, rfl, ?_, rfl, ?_, rfl, ?_, rfl, ?_, rfl, ?_, rfl, ?_, rfl, ?_, rfl, ?_, rfl, ?_, rfl, ?_, rfl, ?_, rfl, ?_, rfl, ?_, rfl, ?_, trivial⟩
   ·intro b1_ b2_ b3_ b6_ g2
    refine TL.asL [] (by kernel_rfl) ?_
    refine TL.load1 0 (Src.at h2) Try.isAgg32 rfl rfl rfl rfl rfl ?_
    refine TL.done ?_
    exact TC.nrm () [] ⟨rfl, trivial⟩ [] (by kernel_rfl)
   ·intro b0_ b6_ g2
    refine TL.asL [] (by kernel_rfl) ?_
    refine TL.load1 0 (Src.at h4) Try.isAgg91 rfl rfl rfl rfl rfl ?_
    refine TL.done ?_
    exact TC.nrm () [] ⟨rfl, trivial⟩ [] (by kernel_rfl)
   ·intro b0_ b6_ g2
    refine TL.asL [] (by kernel_rfl) ?_
    refine TL.ixs 0 0 (Rd.old h3) h5 Try.underlying91 Try.sizeOf3 rfl rfl rfl rfl rfl ?_
    refine TL.done ?_
    exact TC.nrm () [] ⟨rfl, trivial⟩ [] (by kernel_rfl)
   ·intro b0_ b6_ g2
    refine TL.asL [] (by kernel_rfl) ?_
    refine TL.loadE (Rd.old h3) Try.isAgg3 0 0 (gt_spec h5) (v := .int .i64 (gt c2 0)) rfl rfl rfl rfl rfl ?_
    refine TL.done ?_
    exact TC.nrm () [] ⟨rfl, trivial⟩ [] (by kernel_rfl)
   ·intro b6_ g2
    refine TL.asL [] (by kernel_rfl) ?_
    refine TL.ixsM (gt c2 0) ((gt c2 0).toNat) (RdM.old h1) h6 Try.underlying32 Try.sizeOf22 rfl rfl rfl rfl (by omega) ?_
    refine TL.done ?_
    exact TC.nrm () [] ⟨rfl, trivial⟩ [] (by kernel_rfl)
   ·intro b6_ g2
    refine TL.asL [] (by kernel_rfl) ?_
    refine TL.loadM2 (RdM.old h1) Try.isAgg22 (gt c2 0) h6 (by omega) rfl rfl rfl ?_
    refine TL.done ?_
    exact TC.nrm () [] ⟨rfl, trivial⟩ [] (by kernel_rfl)
   ·intro b0_ b1_ b2_ b3_ b4_ b5_ g2
    refine TL.move rfl rfl (v := .int .i64 k_1) rfl ?_
    refine TL.done ?_
    exact TC.nrm () [] ⟨rfl, trivial⟩ [] (by kernel_rfl)
   ·intro g2
    refine TL.asL [] (by kernel_rfl) ?_
    refine TL.callH (R := G.slices_Contains_int64_int64.R) hr1 Try.call105 rfl rfl rfl (fun w hS => G.slices_Contains_int64_int64.calls w (gt ss1 (gt c2 0)) (gt c1 (gt c2 0)) k_1 ((RdM.inn (RdM.old h1) h6) w hS)) ?_
    rintro _ _ ⟨rfl, rfl⟩
    refine TL.done ?_
    exact TC.nrm () [] ⟨(by rw [c3]; rfl), trivial⟩ [] (by kernel_rfl)
   ·intro g2
    refine TL.move rfl rfl (v := .bool true) rfl ?_
    refine TL.done ?_
    exact TC.nrm () [] ⟨rfl, trivial⟩ [] (by kernel_rfl)
   ·intro b10_ b11_ b12_ b15_ b16_ g2
    refine TL.asL [] (by kernel_rfl) ?_
    refine TL.skip rfl rfl (by decide) ?_
    refine TL.done ?_
    exact TC.nrm () [] ⟨rfl, trivial⟩ [] (by kernel_rfl)
   ·intro b9_ b15_ b16_ g2
    refine TL.asL [] (by kernel_rfl) ?_
    refine TL.skip rfl rfl (by decide) ?_
    refine TL.done ?_
    exact TC.nrm () [] ⟨rfl, trivial⟩ [] (by kernel_rfl)
   ·intro b9_ b15_ b16_ g2
    refine TL.asL [] (by kernel_rfl) ?_
    refine TL.skip rfl rfl (by decide) ?_
    refine TL.done ?_
    exact TC.nrm () [] ⟨rfl, trivial⟩ [] (by kernel_rfl)
   ·intro b9_ b15_ b16_ g2
    refine TL.asL [] (by kernel_rfl) ?_
    refine TL.skip rfl rfl (by decide) ?_
    refine TL.done ?_
    exact TC.nrm () [] ⟨rfl, trivial⟩ [] (by kernel_rfl)
   ·intro b15_ b16_ g2
    refine TL.asL [] (by kernel_rfl) ?_
    refine TL.skip rfl rfl (by decide) ?_
    refine TL.done ?_
    exact TC.nrm () [] ⟨rfl, trivial⟩ [] (by kernel_rfl)
   ·intro b15_ b16_ g2
    refine TL.asL [] (by kernel_rfl) ?_
    refine TL.skip rfl rfl (by decide) ?_
    refine TL.done ?_
    exact TC.nrm () [] ⟨rfl, trivial⟩ [] (by kernel_rfl)
   ·intro b9_ b10_ b11_ b12_ b13_ b14_ g2
    refine TL.skip rfl rfl (by decide) ?_
    refine TL.done ?_
    exact TC.nrm () [] ⟨rfl, trivial⟩ [] (by kernel_rfl)
   ·intro b9_ b10_ b11_ b12_ b13_ b14_ g2
    refine TL.skip rfl rfl (by decide) ?_
    refine TL.done ?_
    exact TC.nrm () [] ⟨rfl, trivial⟩ [] (by kernel_rfl)
   ·intro g2
    refine TL.asL [] (by kernel_rfl) ?_
    refine TL.skip rfl rfl (by decide) ?_
    refine TL.done ?_
    exact TC.nrm () [] ⟨rfl, trivial⟩ [] (by kernel_rfl)
   ·intro g2
    refine TL.pick rfl rfl (b := true) rfl (r := .bool true) rfl ?_
    refine TL.done ?_
    exact TC.nrm () [] ⟨rfl, trivial⟩ [] (by kernel_rfl)
   ·intro g2
    refine TL.assign rfl rfl (v := .bool true) rfl ?_
    refine TL.done ?_
    exact TC.nrm () [] ⟨rfl, trivial⟩ [] (by kernel_rfl)
  ·intro g2
   refine TC.asL [] (by kernel_rfl) ?_
   exact TC.retF (Fin.body (fin1 (.inr rfl) rfl (.tmp rfl) [] rfl ⟨rfl, rfl⟩))
 ·refine TC.wk (Γ' := [(0, .int .i64 k_1), (1, bp b_1 0), (2, bp b_2 0)]) ⟨rfl, rfl, rfl, trivial⟩ ?_
  refine TC.bindE ?_
  rintro r_4 hr2
  refine TC.drawG [(0, .int .i64 k_1), (1, bp b_1 0), (2, bp b_2 0)] [] ⟨rfl, rfl, rfl, trivial⟩ trivial (fun l_ g3 => []) (fun g3 => [SV.v s1, SV.v s2, ep s2 0, .int .i64 (gt c2 0), ep s1 ((gt c2 0).toNat), SV.v (gt ss1 (gt c2 0)), .int .i64 k_1, .bool false, .bool false, SV.v s1, SV.v s2, ep s2 0, .int .i64 (gt c2 0), ep s1 ((gt c2 0).toNat), SV.v (gt ss1 (gt c2 0)), .int .i64 k_1, .int .i64 (w64 (0 - k_1)), .bool r_4, .bool r_4, .bool r_4]) [[], [], [1], [1, 2], [0, 1, 2, 3], [0, 1, 2, 3, 4], [], [0, 1, 2, 3, 4, 5, 6], [0, 1, 2, 3, 4, 5, 6, 7], [0, 1, 2, 3, 4, 5, 6, 7, 8], [0, 1, 2, 3, 4, 5, 6, 7, 8], [0, 1, 2, 3, 4, 5, 6, 7, 8, 10], [0, 1, 2, 3, 4, 5, 6, 7, 8, 10, 11], [0, 1, 2, 3, 4, 5, 6, 7, 8, 9, 10, 11, 12], [0, 1, 2, 3, 4, 5, 6, 7, 8, 9, 10, 11, 12, 13], [0, 1, 2, 3, 4, 5, 6, 7, 8], [0, 1, 2, 3, 4, 5, 6, 7, 8, 15], [0, 1, 2, 3, 4, 5, 6, 7, 8, 9, 10, 11, 12, 13, 14, 15, 16], [0, 1, 2, 3, 4, 5, 6, 7, 8, 9, 10, 11, 12, 13, 14, 15, 16, 17], [0, 1, 2, 3, 4, 5, 6, 7, 8, 9, 10, 11, 12, 13, 14, 15, 16, 17, 18]] [[some false, none, none, none, some false, some false, none, some false, some false, some false, some false, some false, some false, some false, some false, some false, some false, some false, some false, some false], [none, some false, some false, some false, some false, some false, none, some false, some false, some false, some false, some false, some false, some false, some false, some false, some false, some false, some false, some false], [none, some true, some false, some false, some false, some false, none, some false, some false, some false, some false, some false, some false, some false, some false, some false, some false, some false, some false, some false], [none, some true, some true, some false, some false, some false, none, some false, some false, some false, some false, some false, some false, some false, some false, some false, some false, some false, some false, some false], [some true, some true, some true, some true, some false, some false, none, some false, some false, some false, some false, some false, some false, some false, some false, some false, some false, some false, some false, some false], [some true, some true, some true, some true, some true, some false, none, some false, some false, some false, some false, some false, some false, some false, some false, some false, some false, some false, some false, some false], [none, none, none, none, none, none, some false, some false, some false, some false, some false, some false, some false, some false, some false, some false, some false, some false, some false, some false], [some true, some true, some true, some true, some true, some true, some true, some false, some false, some false, some false, some false, some false, some false, some false, some false, some false, some false, some false, some false], [some true, some true, some true, some true, some true, some true, some true, some true, some false, some false, some false, some false, some false, some false, some false, some false, some false, some false, some false, some false], [some true, some true, some true, some true, some true, some true, some true, some true, some true, some false, none, none, none, some false, some false, none, none, some false, some false, some false], [some true, some true, some true, some true, some true, some true, some true, some true, some true, none, some false, some false, some false, some false, some false, none, none, some false, some false, some false], [some true, some true, some true, some true, some true, some true, some true, some true, some true, none, some true, some false, some false, some false, some false, none, none, some false, some false, some false], [some true, some true, some true, some true, some true, some true, some true, some true, some true, none, some true, some true, some false, some false, some false, none, none, some false, some false, some false], [some true, some true, some true, some true, some true, some true, some true, some true, some true, some true, some true, some true, some true, some false, some false, none, none, some false, some false, some false], [some true, some true, some true, some true, some true, some true, some true, some true, some true, some true, some true, some true, some true, some true, some false, none, none, some false, some false, some false], [some true, some true, some true, some true, some true, some true, some true, some true, some true, none, none, none, none, none, none, some false, some false, some false, some false, some false], [some true, some true, some true, some true, some true, some true, some true, some true, some true, none, none, none, none, none, none, some true, some false, some false, some false, some false], [some true, some true, some true, some true, some true, some true, some true, some true, some true, some true, some true, some true, some true, some true, some true, some true, some true, some false, some false, some false], [some true, some true, some true, some true, some true, some true, some true, some true, some true, some true, some true, some true, some true, some true, some true, some true, some true, some true, some false, some false], [some true, some true, some true, some true, some true, some true, some true, some true, some true, some true, some true, some true, some true, some true, some true, some true, some true, some true, some true, some false]] (by kernel_rfl) (fun _ => rfl) rfl rfl rfl rfl rfl (fun _ _ => ⟨⟨⟨⟨⟨⟨⟨⟨⟨⟨⟨⟨⟨⟨⟨⟨⟨⟨⟨⟨trivial, rfl⟩, rfl⟩, rfl⟩, rfl⟩, rfl⟩, rfl⟩, rfl⟩, rfl⟩, rfl⟩, rfl⟩, rfl⟩, rfl⟩, rfl⟩, rfl⟩, rfl⟩, rfl⟩, rfl⟩, rfl⟩, rfl⟩, rfl⟩) 0 [] (fun _ => by kernel_rfl) ?_ ?_
  ·refine ⟨rfl, ?_, rfl, ?_, rfl, ?_, rfl, ?_, rfl, ?_, rfl, ?_, rfl, ?_, rfl, ?_, rfl, ?_, rfl, ?_, rfl, ?_, rfl, ?_, rfl, ?_, rfl, ?_, rfl, ?_, rfl, ?_, rfl, ?_, rfl, ?_, rfl, ?_, rfl, ?_, trivial⟩
   ·intro b1_ b2_ b3_ b6_ g3
    refine TL.asL [] (by kernel_rfl) ?_
    refine TL.load1 0 (Src.at h2) Try.isAgg32 rfl rfl rfl rfl rfl ?_
    refine TL.done ?_
    exact TC.nrm () [] ⟨rfl, trivial⟩ [] (by kernel_rfl)
   ·intro b0_ b6_ g3
    refine TL.asL [] (by kernel_rfl) ?_
    refine TL.load1 0 (Src.at h4) Try.isAgg91 rfl rfl rfl rfl rfl ?_
    refine TL.done ?_
    exact TC.nrm () [] ⟨rfl, trivial⟩ [] (by kernel_rfl)
   ·intro b0_ b6_ g3
    refine TL.asL [] (by kernel_rfl) ?_
    refine TL.ixs 0 0 (Rd.old h3) h5 Try.underlying91 Try.sizeOf3 rfl rfl rfl rfl rfl ?_
    refine TL.done ?_
    exact TC.nrm () [] ⟨rfl, trivial⟩ [] (by kernel_rfl)
   ·intro b0_ b6_ g3
    refine TL.asL [] (by kernel_rfl) ?_
    refine TL.loadE (Rd.old h3) Try.isAgg3 0 0 (gt_spec h5) (v := .int .i64 (gt c2 0)) rfl rfl rfl rfl rfl ?_
    refine TL.done ?_
    exact TC.nrm () [] ⟨rfl, trivial⟩ [] (by kernel_rfl)
   ·intro b6_ g3
    refine TL.asL [] (by kernel_rfl) ?_
    refine TL.ixsM (gt c2 0) ((gt c2 0).toNat) (RdM.old h1) h6 Try.underlying32 Try.sizeOf22 rfl rfl rfl rfl (by omega) ?_
    refine TL.done ?_
    exact TC.nrm () [] ⟨rfl, trivial⟩ [] (by kernel_rfl)
   ·intro b6_ g3
    refine TL.asL [] (by kernel_rfl) ?_
    refine TL.loadM2 (RdM.old h1) Try.isAgg22 (gt c2 0) h6 (by omega) rfl rfl rfl ?_
    refine TL.done ?_
    exact TC.nrm () [] ⟨rfl, trivial⟩ [] (by kernel_rfl)
   ·intro b0_ b1_ b2_ b3_ b4_ b5_ g3
    refine TL.move rfl rfl (v := .int .i64 k_1) rfl ?_
    refine TL.done ?_
    exact TC.nrm () [] ⟨rfl, trivial⟩ [] (by kernel_rfl)
   ·intro g3
    refine TL.asL [] (by kernel_rfl) ?_
    refine TL.callH (R := G.slices_Contains_int64_int64.R) hr1 Try.call105 rfl rfl rfl (fun w hS => G.slices_Contains_int64_int64.calls w (gt ss1 (gt c2 0)) (gt c1 (gt c2 0)) k_1 ((RdM.inn (RdM.old h1) h6) w hS)) ?_
    rintro _ _ ⟨rfl, rfl⟩
    refine TL.done ?_
    exact TC.nrm () [] ⟨(by rw [c3]; rfl), trivial⟩ [] (by kernel_rfl)
   ·intro g3
    refine TL.move rfl rfl (v := .bool false) rfl ?_
    refine TL.done ?_
    exact TC.nrm () [] ⟨rfl, trivial⟩ [] (by kernel_rfl)
   ·intro b10_ b11_ b12_ b15_ b16_ g3
    refine TL.asL [] (by kernel_rfl) ?_
    refine TL.load1 0 (Src.at h2) Try.isAgg32 rfl rfl rfl rfl rfl ?_
    refine TL.done ?_
    exact TC.nrm () [] ⟨rfl, trivial⟩ [] (by kernel_rfl)
   ·intro b9_ b15_ b16_ g3
    refine TL.asL [] (by kernel_rfl) ?_
    refine TL.load1 0 (Src.at h4) Try.isAgg91 rfl rfl rfl rfl rfl ?_
    refine TL.done ?_
    exact TC.nrm () [] ⟨rfl, trivial⟩ [] (by kernel_rfl)
   ·intro b9_ b15_ b16_ g3
    refine TL.asL [] (by kernel_rfl) ?_
    refine TL.ixs 0 0 (Rd.old h3) h5 Try.underlying91 Try.sizeOf3 rfl rfl rfl rfl rfl ?_
    refine TL.done ?_
    exact TC.nrm () [] ⟨rfl, trivial⟩ [] (by kernel_rfl)
   ·intro b9_ b15_ b16_ g3
    refine TL.asL [] (by kernel_rfl) ?_
    refine TL.loadE (Rd.old h3) Try.isAgg3 0 0 (gt_spec h5) (v := .int .i64 (gt c2 0)) rfl rfl rfl rfl rfl ?_
    refine TL.done ?_
    exact TC.nrm () [] ⟨rfl, trivial⟩ [] (by kernel_rfl)
   ·intro b15_ b16_ g3
    refine TL.asL [] (by kernel_rfl) ?_
    refine TL.ixsM (gt c2 0) ((gt c2 0).toNat) (RdM.old h1) h6 Try.underlying32 Try.sizeOf22 rfl rfl rfl rfl (by omega) ?_
    refine TL.done ?_
    exact TC.nrm () [] ⟨rfl, trivial⟩ [] (by kernel_rfl)
   ·intro b15_ b16_ g3
    refine TL.asL [] (by kernel_rfl) ?_
    refine TL.loadM2 (RdM.old h1) Try.isAgg22 (gt c2 0) h6 (by omega) rfl rfl rfl ?_
    refine TL.done ?_
    exact TC.nrm () [] ⟨rfl, trivial⟩ [] (by kernel_rfl)
   ·intro b9_ b10_ b11_ b12_ b13_ b14_ g3
    refine TL.move rfl rfl (v := .int .i64 k_1) rfl ?_
    refine TL.done ?_
    exact TC.nrm () [] ⟨rfl, trivial⟩ [] (by kernel_rfl)
   ·intro b9_ b10_ b11_ b12_ b13_ b14_ g3
    refine TL.neg .i64 k_1 rfl rfl rfl ?_
    refine TL.done ?_
    exact TC.nrm () [] ⟨rfl, trivial⟩ [] (by kernel_rfl)
   ·intro g3
    refine TL.asL [] (by kernel_rfl) ?_
    refine TL.callH (R := G.slices_Contains_int64_int64.R) hr2 Try.call105 rfl rfl rfl (fun w hS => G.slices_Contains_int64_int64.calls w (gt ss1 (gt c2 0)) (gt c1 (gt c2 0)) (w64 (0 - k_1)) ((RdM.inn (RdM.old h1) h6) w hS)) ?_
    rintro _ _ ⟨rfl, rfl⟩
    refine TL.done ?_
    exact TC.nrm () [] ⟨rfl, trivial⟩ [] (by kernel_rfl)
   ·intro g3
    refine TL.pick rfl rfl (b := false) rfl (r := .bool r_4) rfl ?_
    refine TL.done ?_
    exact TC.nrm () [] ⟨rfl, trivial⟩ [] (by kernel_rfl)
   ·intro g3
    refine TL.assign rfl rfl (v := .bool r_4) rfl ?_
    refine TL.done ?_
    exact TC.nrm () [] ⟨rfl, trivial⟩ [] (by kernel_rfl)
  ·intro g3
   refine TC.asL [] (by kernel_rfl) ?_
   exact TC.retF (Fin.body (fin1 (.inr rfl) rfl (.tmp rfl) [] rfl ⟨rfl, rfl⟩))

end Go.Proofs.Ytiiljfpbcanphaa.G

/- impl.OrientSurface$2, as a pure function. -/
set_option linter.unusedVariables false
namespace Go.Proofs.Ytiiljfpbcanphaa.G
open Go Go.Sx Go.Proofs

def impl_OrientSurface_2.f (k_1 : Int) (c1 : List (List Int)) (c2 : List Int) : Option Bool := chk 0 c2.length (chk (gt c2 0) c1.length ((G.slices_Contains_int64_int64.f (gt c1 (gt c2 0)) k_1).bind (fun r_1 => some r_1)))

def impl_OrientSurface_2.R (r : Bool) (v : Value) (L : List Asn) : Prop := v = .bool r ∧ L = []

set_option maxRecDepth 100000 in
set_option maxHeartbeats 4000000 in
theorem impl_OrientSurface_2.calls (w : World) (k_1 : Int) (b_1 : Nat) (s1 : SV) (ss1 : List SV) (c1 : List (List Int)) (b_2 : Nat) (s2 : SV) (c2 : List Int) (h2 : At (hp w) b_1 [.one (SV.v s1)]) (h1 : ReadsM Ei (hp w) s1 ss1 c1) (h4 : At (hp w) b_2 [.one (SV.v s2)]) (h3 : Reads Ei (hp w) s2 c2) :
  ∀ r, impl_OrientSurface_2.f k_1 c1 c2 = some r → Calls Try.prog 106 #[.int .i64 k_1, bp b_1 0, bp b_2 0] w (Ret w (impl_OrientSurface_2.R r)) := by

 refine calls_T (n := 13) (Γ := [(0, .int .i64 k_1), (1, bp b_1 0), (2, bp b_2 0)]) (R := impl_OrientSurface_2.R) Try.func106 rfl rfl (Nat.le_of_ble_eq_true rfl) ⟨rfl, rfl, rfl, trivial⟩ ?_
 unfold impl_OrientSurface_2.f
 refine TC.seq ?_
 refine TC.region ?_
 refine TL.assign rfl rfl (v := .bool false) rfl ?_
 refine TL.done ?_
 refine TC.seq ?_
 refine TC.wk (Γ' := [(0, .int .i64 k_1), (1, bp b_1 0), (2, bp b_2 0)]) ⟨rfl, rfl, rfl, trivial⟩ ?_
 refine TC.chk fun h5 => ?_
 refine TC.chk fun h6 => ?_
 refine TC.bindE fun r_1 hr1 => ?_
 refine TC.draw [SV.v s1, SV.v s2, ep s2 0, .int .i64 (gt c2 0), ep s1 ((gt c2 0).toNat), SV.v (gt ss1 (gt c2 0)), .int .i64 k_1, .bool r_1, .bool r_1] 9 [] (by kernel_rfl) rfl rfl rfl rfl ?_ ?_
 ·refine ⟨?_, ?_, ?_, ?_, ?_, ?_, ?_, ?_, ?_, trivial⟩
  ·refine TL.load1 0 (Src.at h2) Try.isAgg32 rfl rfl rfl rfl rfl ?_
   refine TL.done ?_
   exact TC.nrm () () ⟨rfl, trivial⟩ [] (by kernel_rfl)
  ·refine TL.load1 0 (Src.at h4) Try.isAgg91 rfl rfl rfl rfl rfl ?_
   refine TL.done ?_
   exact TC.nrm () () ⟨rfl, trivial⟩ [] (by kernel_rfl)
  ·refine TL.ixs 0 0 (Rd.old h3) h5 Try.underlying91 Try.sizeOf3 rfl rfl rfl rfl rfl ?_
   refine TL.done ?_
   exact TC.nrm () () ⟨rfl, trivial⟩ [] (by kernel_rfl)
  ·refine TL.loadE (Rd.old h3) Try.isAgg3 0 0 (gt_spec h5) (v := .int .i64 (gt c2 0)) rfl rfl rfl rfl rfl ?_
   refine TL.done ?_
   exact TC.nrm () () ⟨rfl, trivial⟩ [] (by kernel_rfl)
  ·refine TL.ixsM (gt c2 0) ((gt c2 0).toNat) (RdM.old h1) h6 Try.underlying32 Try.sizeOf22 rfl rfl rfl rfl (by omega) ?_
   refine TL.done ?_
   exact TC.nrm () () ⟨rfl, trivial⟩ [] (by kernel_rfl)
  ·refine TL.loadM2 (RdM.old h1) Try.isAgg22 (gt c2 0) h6 (by omega) rfl rfl rfl ?_
   refine TL.done ?_
   exact TC.nrm () () ⟨rfl, trivial⟩ [] (by kernel_rfl)
  ·refine TL.move rfl rfl (v := .int .i64 k_1) rfl ?_
   refine TL.done ?_
   exact TC.nrm () () ⟨rfl, trivial⟩ [] (by kernel_rfl)
  ·refine TL.callH (R := G.slices_Contains_int64_int64.R) hr1 Try.call105 rfl rfl rfl (fun w hS => G.slices_Contains_int64_int64.calls w (gt ss1 (gt c2 0)) (gt c1 (gt c2 0)) k_1 ((RdM.inn (RdM.old h1) h6) w hS)) ?_
   rintro _ _ ⟨rfl, rfl⟩
   refine TL.done ?_
   exact TC.nrm () () ⟨rfl, trivial⟩ [] (by kernel_rfl)
  ·refine TL.assign rfl rfl (v := .bool r_1) rfl ?_
   refine TL.done ?_
   exact TC.nrm () () ⟨rfl, trivial⟩ [] (by kernel_rfl)
 ·exact TC.retF (Fin.body (fin1 (.inr rfl) rfl (.tmp rfl) [] rfl ⟨rfl, rfl⟩))

end Go.Proofs.Ytiiljfpbcanphaa.G

/- impl.turned, as a pure function. -/
set_option linter.unusedVariables false
namespace Go.Proofs.Ytiiljfpbcanphaa.G
open Go Go.Sx Go.Proofs

def impl_turned.f (t1 : List Int) : Option (List Int) := chk 2 t1.length (chk 1 t1.length (chk 0 t1.length (some ([(w64 (0 - (gt t1 2))), (w64 (0 - (gt t1 1))), (w64 (0 - (gt t1 0)))] : List Int))))

def impl_turned.R (r : List Int) (v : Value) (L : List Asn) : Prop := ∃ (s0 : SV), v = SV.v s0 ∧ L = [row Ei 2 s0 r]

set_option maxRecDepth 100000 in
set_option maxHeartbeats 4000000 in
theorem impl_turned.calls (w : World) (s1 : SV) (t1 : List Int) (h1 : Reads Ei (hp w) s1 t1) :
  ∀ r, impl_turned.f t1 = some r → Calls Try.prog 107 #[SV.v s1] w (Ret w (impl_turned.R r)) := by

 refine calls_T (n := 16) (Γ := [(0, SV.v s1)]) (R := impl_turned.R) Try.func107 rfl rfl (Nat.le_of_ble_eq_true rfl) ⟨rfl, trivial⟩ ?_
 unfold impl_turned.f
 refine TC.seq ?_
 refine TC.region ?_
 refine TL.assign rfl rfl (v := SV.v ⟨none, 0, 0⟩) rfl ?_
 refine TL.done ?_
 refine TC.seq ?_
 refine TC.wk (Γ' := [(0, SV.v s1)]) ⟨rfl, trivial⟩ ?_
 refine TC.chk fun h2 => ?_
 refine TC.chk fun h3 => ?_
 refine TC.chk fun h4 => ?_
 refine TC.drawG [(0, SV.v s1)] [] ⟨rfl, trivial⟩ trivial (fun l_ g1 => [(bif nb l_ 12 then row Ei 2 (gs (g1 96)) ([(w64 (0 - (gt t1 2))), (w64 (0 - (gt t1 1))), (w64 (0 - (gt t1 0)))] : List Int) else emp)]) (fun g1 => [SV.v s1, ep s1 2, .int .i64 (gt t1 2), .int .i64 (w64 (0 - (gt t1 2))), SV.v s1, ep s1 1, .int .i64 (gt t1 1), .int .i64 (w64 (0 - (gt t1 1))), SV.v s1, ep s1 0, .int .i64 (gt t1 0), .int .i64 (w64 (0 - (gt t1 0))), SV.v (gs (g1 96)), SV.v (gs (g1 96))]) [[], [0], [0, 1], [0, 1, 2], [], [4], [4, 5], [4, 5, 6], [], [8], [8, 9], [8, 9, 10], [0, 1, 2, 3, 4, 5, 6, 7, 8, 9, 10, 11], [0, 1, 2, 3, 4, 5, 6, 7, 8, 9, 10, 11, 12]] [[some false, some false, some false, some false, none, none, none, none, none, none, none, none, some false, some false], [some true, some false, some false, some false, none, none, none, none, none, none, none, none, some false, some false], [some true, some true, some false, some false, none, none, none, none, none, none, none, none, some false, some false], [some true, some true, some true, some false, none, none, none, none, none, none, none, none, some false, some false], [none, none, none, none, some false, some false, some false, some false, none, none, none, none, some false, some false], [none, none, none, none, some true, some false, some false, some false, none, none, none, none, some false, some false], [none, none, none, none, some true, some true, some false, some false, none, none, none, none, some false, some false], [none, none, none, none, some true, some true, some true, some false, none, none, none, none, some false, some false], [none, none, none, none, none, none, none, none, some false, some false, some false, some false, some false, some false], [none, none, none, none, none, none, none, none, some true, some false, some false, some false, some false, some false], [none, none, none, none, none, none, none, none, some true, some true, some false, some false, some false, some false], [none, none, none, none, none, none, none, none, some true, some true, some true, some false, some false, some false], [some true, some true, some true, some true, some true, some true, some true, some true, some true, some true, some true, some true, some false, some false], [some true, some true, some true, some true, some true, some true, some true, some true, some true, some true, some true, some true, some true, some false]] (by kernel_rfl) (fun _ => rfl) rfl rfl rfl rfl rfl (fun _ _ => ⟨⟨⟨⟨⟨⟨⟨⟨⟨⟨⟨⟨⟨⟨trivial, rfl⟩, rfl⟩, rfl⟩, rfl⟩, rfl⟩, rfl⟩, rfl⟩, rfl⟩, rfl⟩, rfl⟩, rfl⟩, rfl⟩, rfl⟩, rfl⟩) 1 [0] (fun _ => by kernel_rfl) ?_ ?_
 ·refine ⟨rfl, ?_, rfl, ?_, rfl, ?_, rfl, ?_, rfl, ?_, rfl, ?_, rfl, ?_, rfl, ?_, rfl, ?_, rfl, ?_, rfl, ?_, rfl, ?_, rfl, ?_, rfl, ?_, trivial⟩
  ·intro b4_ b5_ b6_ b7_ b8_ b9_ b10_ b11_ g1
   refine TL.move rfl rfl (v := SV.v s1) rfl ?_
   refine TL.done ?_
   exact TC.nrm () [] ⟨rfl, trivial⟩ [0] (by kernel_rfl)
  ·intro b4_ b5_ b6_ b7_ b8_ b9_ b10_ b11_ g1
   refine TL.asL [emp] (by kernel_rfl) ?_
   refine TL.ixs 2 2 (Rd.old h1) h2 Try.underlying22 Try.sizeOf2 rfl rfl rfl rfl rfl ?_
   refine TL.done ?_
   exact TC.nrm () [] ⟨rfl, trivial⟩ [0] (by kernel_rfl)
  ·intro b4_ b5_ b6_ b7_ b8_ b9_ b10_ b11_ g1
   refine TL.asL [emp] (by kernel_rfl) ?_
   refine TL.loadE (Rd.old h1) Try.isAgg2 2 0 (gt_spec h2) (v := .int .i64 (gt t1 2)) rfl rfl rfl rfl rfl ?_
   refine TL.done ?_
   exact TC.nrm () [] ⟨rfl, trivial⟩ [0] (by kernel_rfl)
  ·intro b4_ b5_ b6_ b7_ b8_ b9_ b10_ b11_ g1
   refine TL.neg .i64 (gt t1 2) rfl rfl rfl ?_
   refine TL.done ?_
   exact TC.nrm () [] ⟨rfl, trivial⟩ [0] (by kernel_rfl)
  ·intro b0_ b1_ b2_ b3_ b8_ b9_ b10_ b11_ g1
   refine TL.move rfl rfl (v := SV.v s1) rfl ?_
   refine TL.done ?_
   exact TC.nrm () [] ⟨rfl, trivial⟩ [0] (by kernel_rfl)
  ·intro b0_ b1_ b2_ b3_ b8_ b9_ b10_ b11_ g1
   refine TL.asL [emp] (by kernel_rfl) ?_
   refine TL.ixs 1 1 (Rd.old h1) h3 Try.underlying22 Try.sizeOf2 rfl rfl rfl rfl rfl ?_
   refine TL.done ?_
   exact TC.nrm () [] ⟨rfl, trivial⟩ [0] (by kernel_rfl)
  ·intro b0_ b1_ b2_ b3_ b8_ b9_ b10_ b11_ g1
   refine TL.asL [emp] (by kernel_rfl) ?_
   refine TL.loadE (Rd.old h1) Try.isAgg2 1 0 (gt_spec h3) (v := .int .i64 (gt t1 1)) rfl rfl rfl rfl rfl ?_
   refine TL.done ?_
   exact TC.nrm () [] ⟨rfl, trivial⟩ [0] (by kernel_rfl)
  ·intro b0_ b1_ b2_ b3_ b8_ b9_ b10_ b11_ g1
   refine TL.neg .i64 (gt t1 1) rfl rfl rfl ?_
   refine TL.done ?_
   exact TC.nrm () [] ⟨rfl, trivial⟩ [0] (by kernel_rfl)
  ·intro b0_ b1_ b2_ b3_ b4_ b5_ b6_ b7_ g1
   refine TL.move rfl rfl (v := SV.v s1) rfl ?_
   refine TL.done ?_
   exact TC.nrm () [] ⟨rfl, trivial⟩ [0] (by kernel_rfl)
  ·intro b0_ b1_ b2_ b3_ b4_ b5_ b6_ b7_ g1
   refine TL.asL [emp] (by kernel_rfl) ?_
   refine TL.ixs 0 0 (Rd.old h1) h4 Try.underlying22 Try.sizeOf2 rfl rfl rfl rfl rfl ?_
   refine TL.done ?_
   exact TC.nrm () [] ⟨rfl, trivial⟩ [0] (by kernel_rfl)
  ·intro b0_ b1_ b2_ b3_ b4_ b5_ b6_ b7_ g1
   refine TL.asL [emp] (by kernel_rfl) ?_
   refine TL.loadE (Rd.old h1) Try.isAgg2 0 0 (gt_spec h4) (v := .int .i64 (gt t1 0)) rfl rfl rfl rfl rfl ?_
   refine TL.done ?_
   exact TC.nrm () [] ⟨rfl, trivial⟩ [0] (by kernel_rfl)
  ·intro b0_ b1_ b2_ b3_ b4_ b5_ b6_ b7_ g1
   refine TL.neg .i64 (gt t1 0) rfl rfl rfl ?_
   refine TL.done ?_
   exact TC.nrm () [] ⟨rfl, trivial⟩ [0] (by kernel_rfl)
  ·intro g1
   refine TL.asL [emp] (by kernel_rfl) ?_
   refine TL.blit Ei ([(w64 (0 - (gt t1 2))), (w64 (0 - (gt t1 1))), (w64 (0 - (gt t1 0)))] : List Int) Try.underlying22 Try.sizeOf2 Try.zeroValue2 rfl rfl rfl [(0, .int .i64 (w64 (0 - (gt t1 2)))), (1, .int .i64 (w64 (0 - (gt t1 1)))), (2, .int .i64 (w64 (0 - (gt t1 0))))] rfl ⟨rfl, rfl, rfl, rfl, rfl, rfl, trivial⟩ rfl rfl fun s2 => ?_
   refine TL.done ?_
   exact TC.nrm () [[s2]] ⟨rfl, trivial⟩ [0] (by kernel_rfl)
  ·intro g1
   refine TL.assign rfl rfl (v := SV.v (gs (g1 96))) rfl ?_
   refine TL.done ?_
   exact TC.nrm () [] ⟨rfl, trivial⟩ [0] (by kernel_rfl)
 ·intro g1
  refine TC.asL [row Ei 2 (gs (g1 96)) ([(w64 (0 - (gt t1 2))), (w64 (0 - (gt t1 1))), (w64 (0 - (gt t1 0)))] : List Int)] (by kernel_rfl) ?_
  exact TC.retF (Fin.body (fin1 (.inr rfl) rfl (.tmp rfl) [0] rfl ⟨(gs (g1 96)), rfl, rfl⟩))

end Go.Proofs.Ytiiljfpbcanphaa.G

/- impl.oriented$1, as a pure function. -/
set_option linter.unusedVariables false
namespace Go.Proofs.Ytiiljfpbcanphaa.G
open Go Go.Sx Go.Proofs

def impl_oriented_1.f (list_1 : List (Int × Int)) (c1 : List (List Int)) : Option Bool := chk 0 list_1.length (chk ((gt list_1 0).1) c1.length (chk ((gt list_1 0).2) ((gt c1 ((gt list_1 0).1)).length) (chk 1 list_1.length (chk ((gt list_1 1).1) c1.length (chk ((gt list_1 1).2) ((gt c1 ((gt list_1 1).1)).length) (some ((gt (gt c1 ((gt list_1 0).1)) ((gt list_1 0).2)) == (gt (gt c1 ((gt list_1 1).1)) ((gt list_1 1).2)))))))))

def impl_oriented_1.R (r : Bool) (v : Value) (L : List Asn) : Prop := v = .bool r ∧ L = []

set_option maxRecDepth 100000 in
set_option maxHeartbeats 4000000 in
theorem impl_oriented_1.calls (w : World) (s1 : SV) (list_1 : List (Int × Int)) (b_1 : Nat) (s2 : SV) (ss1 : List SV) (c1 : List (List Int)) (h1 : Reads Eii (hp w) s1 list_1) (h3 : At (hp w) b_1 [.one (SV.v s2)]) (h2 : ReadsM Ei (hp w) s2 ss1 c1) :
  ∀ r, impl_oriented_1.f list_1 c1 = some r → Calls Try.prog 152 #[SV.v s1, bp b_1 0] w (Ret w (impl_oriented_1.R r)) := by

 refine calls_T (n := 31) (Γ := [(0, SV.v s1), (1, bp b_1 0)]) (R := impl_oriented_1.R) Try.func152 rfl rfl (Nat.le_of_ble_eq_true rfl) ⟨rfl, rfl, trivial⟩ ?_
 unfold impl_oriented_1.f
 refine TC.seq ?_
 refine TC.region ?_
 refine TL.assign rfl rfl (v := .bool false) rfl ?_
 refine TL.done ?_
 refine TC.seq ?_
 refine TC.wk (Γ' := [(0, SV.v s1), (1, bp b_1 0)]) ⟨rfl, rfl, trivial⟩ ?_
 refine TC.chk fun h4 => ?_
 refine TC.chk fun h5 => ?_
 refine TC.chk fun h6 => ?_
 refine TC.chk fun h7 => ?_
 refine TC.chk fun h8 => ?_
 refine TC.chk fun h9 => ?_
 refine TC.draw [SV.v s2, SV.v s1, ep s1 0, ep s1 0, .int .i64 ((gt list_1 0).1), ep s2 (((gt list_1 0).1).toNat), SV.v (gt ss1 ((gt list_1 0).1)), SV.v s1, ep s1 0, ep s1 1, .int .i64 ((gt list_1 0).2), ep (gt ss1 ((gt list_1 0).1)) (((gt list_1 0).2).toNat), .int .i64 (gt (gt c1 ((gt list_1 0).1)) ((gt list_1 0).2)), SV.v s2, SV.v s1, ep s1 2, ep s1 2, .int .i64 ((gt list_1 1).1), ep s2 (((gt list_1 1).1).toNat), SV.v (gt ss1 ((gt list_1 1).1)), SV.v s1, ep s1 2, ep s1 3, .int .i64 ((gt list_1 1).2), ep (gt ss1 ((gt list_1 1).1)) (((gt list_1 1).2).toNat), .int .i64 (gt (gt c1 ((gt list_1 1).1)) ((gt list_1 1).2)), .bool ((gt (gt c1 ((gt list_1 0).1)) ((gt list_1 0).2)) == (gt (gt c1 ((gt list_1 1).1)) ((gt list_1 1).2))), .bool ((gt (gt c1 ((gt list_1 0).1)) ((gt list_1 0).2)) == (gt (gt c1 ((gt list_1 1).1)) ((gt list_1 1).2)))] 28 [] (by kernel_rfl) rfl rfl rfl rfl ?_ ?_
 ·refine ⟨?_, ?_, ?_, ?_, ?_, ?_, ?_, ?_, ?_, ?_, ?_, ?_, ?_, ?_, ?_, ?_, ?_, ?_, ?_, ?_, ?_, ?_, ?_, ?_, ?_, ?_, ?_, ?_, trivial⟩
  ·refine TL.load1 0 (Src.at h3) Try.isAgg32 rfl rfl rfl rfl rfl ?_
   refine TL.done ?_
   exact TC.nrm () () ⟨rfl, trivial⟩ [] (by kernel_rfl)
  ·refine TL.move rfl rfl (v := SV.v s1) rfl ?_
   refine TL.done ?_
   exact TC.nrm () () ⟨rfl, trivial⟩ [] (by kernel_rfl)
  ·refine TL.ixs 0 0 (Rd.old h1) h4 Try.underlying104 Try.sizeOf108 rfl rfl rfl rfl rfl ?_
   refine TL.done ?_
   exact TC.nrm () () ⟨rfl, trivial⟩ [] (by kernel_rfl)
  ·refine TL.fae (Rd.old h1) (by have := h4; omega) Try.underlying108 rfl Try.sizeOf3 rfl 0 rfl rfl rfl rfl ?_
   refine TL.done ?_
   exact TC.nrm () () ⟨rfl, trivial⟩ [] (by kernel_rfl)
  ·refine TL.loadE (Rd.old h1) Try.isAgg3 0 0 (gt_spec h4) (v := .int .i64 ((gt list_1 0).1)) rfl rfl rfl rfl rfl ?_
   refine TL.done ?_
   exact TC.nrm () () ⟨rfl, trivial⟩ [] (by kernel_rfl)
  ·refine TL.ixsM ((gt list_1 0).1) (((gt list_1 0).1).toNat) (RdM.old h2) h5 Try.underlying32 Try.sizeOf22 rfl rfl rfl rfl (by omega) ?_
   refine TL.done ?_
   exact TC.nrm () () ⟨rfl, trivial⟩ [] (by kernel_rfl)
  ·refine TL.loadM2 (RdM.old h2) Try.isAgg22 ((gt list_1 0).1) h5 (by omega) rfl rfl rfl ?_
   refine TL.done ?_
   exact TC.nrm () () ⟨rfl, trivial⟩ [] (by kernel_rfl)
  ·refine TL.move rfl rfl (v := SV.v s1) rfl ?_
   refine TL.done ?_
   exact TC.nrm () () ⟨rfl, trivial⟩ [] (by kernel_rfl)
  ·refine TL.ixs 0 0 (Rd.old h1) h4 Try.underlying104 Try.sizeOf108 rfl rfl rfl rfl rfl ?_
   refine TL.done ?_
   exact TC.nrm () () ⟨rfl, trivial⟩ [] (by kernel_rfl)
  ·refine TL.fae (Rd.old h1) (by have := h4; omega) Try.underlying108 rfl Try.sizeOf3 rfl 1 rfl rfl rfl rfl ?_
   refine TL.done ?_
   exact TC.nrm () () ⟨rfl, trivial⟩ [] (by kernel_rfl)
  ·refine TL.loadE (Rd.old h1) Try.isAgg3 0 1 (gt_spec h4) (v := .int .i64 ((gt list_1 0).2)) rfl rfl rfl rfl rfl ?_
   refine TL.done ?_
   exact TC.nrm () () ⟨rfl, trivial⟩ [] (by kernel_rfl)
  ·refine TL.ixs ((gt list_1 0).2) (((gt list_1 0).2).toNat) (RdM.inn (RdM.old h2) h5) h6 Try.underlying22 Try.sizeOf2 rfl rfl rfl rfl (by omega) ?_
   refine TL.done ?_
   exact TC.nrm () () ⟨rfl, trivial⟩ [] (by kernel_rfl)
  ·refine TL.loadE (RdM.inn (RdM.old h2) h5) Try.isAgg2 ((gt list_1 0).2).toNat 0 (gt_spec h6) (v := .int .i64 (gt (gt c1 ((gt list_1 0).1)) ((gt list_1 0).2))) rfl (by simp only [show Ei.sz = 1 from rfl] <;> omega) rfl rfl rfl ?_
   refine TL.done ?_
   exact TC.nrm () () ⟨rfl, trivial⟩ [] (by kernel_rfl)
  ·refine TL.load1 0 (Src.at h3) Try.isAgg32 rfl rfl rfl rfl rfl ?_
   refine TL.done ?_
   exact TC.nrm () () ⟨rfl, trivial⟩ [] (by kernel_rfl)
  ·refine TL.move rfl rfl (v := SV.v s1) rfl ?_
   refine TL.done ?_
   exact TC.nrm () () ⟨rfl, trivial⟩ [] (by kernel_rfl)
  ·refine TL.ixs 1 2 (Rd.old h1) h7 Try.underlying104 Try.sizeOf108 rfl rfl rfl rfl rfl ?_
   refine TL.done ?_
   exact TC.nrm () () ⟨rfl, trivial⟩ [] (by kernel_rfl)
  ·refine TL.fae (Rd.old h1) (by have := h7; omega) Try.underlying108 rfl Try.sizeOf3 rfl 2 rfl rfl rfl rfl ?_
   refine TL.done ?_
   exact TC.nrm () () ⟨rfl, trivial⟩ [] (by kernel_rfl)
  ·refine TL.loadE (Rd.old h1) Try.isAgg3 1 0 (gt_spec h7) (v := .int .i64 ((gt list_1 1).1)) rfl rfl rfl rfl rfl ?_
   refine TL.done ?_
   exact TC.nrm () () ⟨rfl, trivial⟩ [] (by kernel_rfl)
  ·refine TL.ixsM ((gt list_1 1).1) (((gt list_1 1).1).toNat) (RdM.old h2) h8 Try.underlying32 Try.sizeOf22 rfl rfl rfl rfl (by omega) ?_
   refine TL.done ?_
   exact TC.nrm () () ⟨rfl, trivial⟩ [] (by kernel_rfl)
  ·refine TL.loadM2 (RdM.old h2) Try.isAgg22 ((gt list_1 1).1) h8 (by omega) rfl rfl rfl ?_
   refine TL.done ?_
   exact TC.nrm () () ⟨rfl, trivial⟩ [] (by kernel_rfl)
  ·refine TL.move rfl rfl (v := SV.v s1) rfl ?_
   refine TL.done ?_
   exact TC.nrm () () ⟨rfl, trivial⟩ [] (by kernel_rfl)
  ·refine TL.ixs 1 2 (Rd.old h1) h7 Try.underlying104 Try.sizeOf108 rfl rfl rfl rfl rfl ?_
   refine TL.done ?_
   exact TC.nrm () () ⟨rfl, trivial⟩ [] (by kernel_rfl)
  ·refine TL.fae (Rd.old h1) (by have := h7; omega) Try.underlying108 rfl Try.sizeOf3 rfl 3 rfl rfl rfl rfl ?_
   refine TL.done ?_
   exact TC.nrm () () ⟨rfl, trivial⟩ [] (by kernel_rfl)
  ·refine TL.loadE (Rd.old h1) Try.isAgg3 1 1 (gt_spec h7) (v := .int .i64 ((gt list_1 1).2)) rfl rfl rfl rfl rfl ?_
   refine TL.done ?_
   exact TC.nrm () () ⟨rfl, trivial⟩ [] (by kernel_rfl)
  ·refine TL.ixs ((gt list_1 1).2) (((gt list_1 1).2).toNat) (RdM.inn (RdM.old h2) h8) h9 Try.underlying22 Try.sizeOf2 rfl rfl rfl rfl (by omega) ?_
   refine TL.done ?_
   exact TC.nrm () () ⟨rfl, trivial⟩ [] (by kernel_rfl)
  ·refine TL.loadE (RdM.inn (RdM.old h2) h8) Try.isAgg2 ((gt list_1 1).2).toNat 0 (gt_spec h9) (v := .int .i64 (gt (gt c1 ((gt list_1 1).1)) ((gt list_1 1).2))) rfl (by simp only [show Ei.sz = 1 from rfl] <;> omega) rfl rfl rfl ?_
   refine TL.done ?_
   exact TC.nrm () () ⟨rfl, trivial⟩ [] (by kernel_rfl)
  ·refine TL.bin .i64 (gt (gt c1 ((gt list_1 0).1)) ((gt list_1 0).2)) (gt (gt c1 ((gt list_1 1).1)) ((gt list_1 1).2)) rfl rfl rfl rfl (v := .bool ((gt (gt c1 ((gt list_1 0).1)) ((gt list_1 0).2)) == (gt (gt c1 ((gt list_1 1).1)) ((gt list_1 1).2)))) rfl ?_
   refine TL.done ?_
   exact TC.nrm () () ⟨rfl, trivial⟩ [] (by kernel_rfl)
  ·refine TL.assign rfl rfl (v := .bool ((gt (gt c1 ((gt list_1 0).1)) ((gt list_1 0).2)) == (gt (gt c1 ((gt list_1 1).1)) ((gt list_1 1).2)))) rfl ?_
   refine TL.done ?_
   exact TC.nrm () () ⟨rfl, trivial⟩ [] (by kernel_rfl)
 ·exact TC.retF (Fin.body (fin1 (.inr rfl) rfl (.tmp rfl) [] rfl ⟨rfl, rfl⟩))

end Go.Proofs.Ytiiljfpbcanphaa.G

/- impl.oriented, as a pure function. -/
set_option linter.unusedVariables false
namespace Go.Proofs.Ytiiljfpbcanphaa.G
open Go Go.Sx Go.Proofs

def impl_oriented.f (s1 : List (List Int)) : Option Bool := (G.impl_sidesOfEdges.f s1).bind (fun r_1 => grd (decide (0 ≤ 1) && decide (1 ≤ (r_1.length : Int)) && decide ((r_1.length : Int) ≤ (r_1.length : Int))) ((G.slices_ContainsFunc_impl_sided_impl_sided.f ((r_1.drop 1).take (r_1.length - 1)) (fun x0_ => G.impl_oriented_1.f x0_ s1)).bind (fun r_2 => some (!r_2))))

def impl_oriented.R (r : Bool) (v : Value) (L : List Asn) : Prop := v = .bool r ∧ L = []

set_option maxRecDepth 100000 in
set_option maxHeartbeats 4000000 in
theorem impl_oriented.calls (w : World) (s2 : SV) (ss1 : List SV) (s1 : List (List Int)) (h1 : ReadsM Ei (hp w) s2 ss1 s1) :
  ∀ r, impl_oriented.f s1 = some r → Calls Try.prog 108 #[SV.v s2] w (Ret w (impl_oriented.R r)) := by

 refine calls_T (n := 9) (Γ := [(0, SV.v s2)]) (R := impl_oriented.R) Try.func108 rfl rfl (Nat.le_of_ble_eq_true rfl) ⟨rfl, trivial⟩ ?_
 unfold impl_oriented.f
 refine TC.seq ?_
 refine TC.region ?_
 refine TL.box [.one (SV.v s2)] rfl rfl rfl rfl fun b_1 => ?_
 refine TL.assign rfl rfl (v := .bool false) rfl ?_
 refine TL.done ?_
 refine TC.seq ?_
 refine TC.region ?_
 refine TL.load1 0 (Src.box 0 rfl) Try.isAgg32 rfl rfl rfl rfl rfl ?_
 refine TL.call (R := G.impl_sidesOfEdges.R) Try.call119 rfl rfl rfl (fun w hS => G.impl_sidesOfEdges.calls w s2 ss1 s1 ((RdM.old h1) w hS)) ?_
 rintro r_1 _ _ ⟨s3, ss2, rfl, rfl⟩
 refine TL.grd fun h2 => ?_
 refine TL.sliceM (li := (some 1)) (hi' := none) (l := 1) (h := r_1.length) (RdM.mat 0 rfl) Try.underlying105 Try.sizeOf104 rfl rfl (by have h_ := h2; simp only [Bool.and_eq_true, decide_eq_true_eq] at h_; first | rfl | omega | (simp only [Option.getD_none, Option.getD_some]; omega)) (by have h_ := h2; simp only [Bool.and_eq_true, decide_eq_true_eq] at h_; first | rfl | omega | (simp only [Option.getD_none, Option.getD_some]; omega)) (by have h_ := h2; simp only [Bool.and_eq_true, decide_eq_true_eq] at h_; omega) (by have h_ := h2; simp only [Bool.and_eq_true, decide_eq_true_eq] at h_; omega) rfl rfl rfl ?_
 refine TL.makeFunc rfl rfl (us := []) (vs := [bp b_1 0]) rfl rfl ?_
 refine TL.call (R := G.slices_ContainsFunc_impl_sided_impl_sided.R) Try.call125 rfl rfl rfl (fun w hS => G.slices_ContainsFunc_impl_sided_impl_sided.calls w (SV.cut s3 1 r_1.length s3.c Ev.sz) ((ss2.drop 1).take (r_1.length - 1)) ((r_1.drop 1).take (r_1.length - 1)) 152 [] [bp b_1 0] (fun x0_ => G.impl_oriented_1.f x0_ s1) ((RdM.cut (RdM.mat 0 rfl) (by have h_ := h2; simp only [Bool.and_eq_true, decide_eq_true_eq] at h_; omega) (by have h_ := h2; simp only [Bool.and_eq_true, decide_eq_true_eq] at h_; omega)) w hS) Try.call152 (fun w_ hle_ s1_ x0_ h0_ r_ hr_ => G.impl_oriented_1.calls w_ s1_ x0_ b_1 s2 ss1 s1 h0_ (((Src.box 1 rfl) w hS).mono hle_) (((RdM.old h1) w hS).mono hle_) r_ hr_)) ?_
 rintro r_2 _ _ ⟨rfl, rfl⟩
 refine TL.not r_2 rfl rfl rfl ?_
 refine TL.assign rfl rfl (v := .bool (!r_2)) rfl ?_
 refine TL.done ?_
 exact TC.retF (Fin.body (fin1 (.inr rfl) rfl (.tmp rfl) [] rfl ⟨rfl, rfl⟩))

end Go.Proofs.Ytiiljfpbcanphaa.G

/- impl.OrientSurface, as a pure function. -/
set_option linter.unusedVariables false
namespace Go.Proofs.Ytiiljfpbcanphaa.G
open Go Go.Sx Go.Proofs

def impl_OrientSurface.b0 (l7 : List (List Int)) : (List (List Int)) × (List Bool) × (List Int) × Int → Option (LB ((List (List Int)) × (List Bool) × (List Int) × Int)) := fun p => match p with | (l9, l10, y2, x3) => (bif (decide (x3 < (l7.length : Int))) then (chk x3 l9.length (chk x3 l10.length ((bif (gt l10 x3) then some true else (G.slices_ContainsFunc_int64_int64.f (gt l9 x3) (fun x0_ => G.impl_OrientSurface_1.f x0_ l9 y2)).bind (fun r_3 => some (!r_3))).bind (fun b_4 => (bif b_4 then some (.inl (l9, l10, y2)) else (G.slices_ContainsFunc_int64_int64.f (gt l9 x3) (fun x0_ => G.impl_OrientSurface_2.f x0_ l9 y2)).bind (fun r_4 => ((bif r_4 then (G.impl_turned.f (gt l9 x3)).bind (fun r_5 => some (l9.set x3.toNat r_5)) else some l9)).bind (fun l18 => small (y2.length + ([x3] : List Int).length) (some (.inl (l18, (l10.set x3.toNat true), (y2 ++ ([x3] : List Int)))))))))))).bind (jn (fun p => match p with | (l15, l16, y3) => some (.next (l15, l16, y3, (w64 (x3 + 1)))))) else some (.brk (l9, l10, y2, x3)))

def impl_OrientSurface.b1 : (List (List Int)) × (List Bool) × (List Int) → Option (LB ((List (List Int)) × (List Bool) × (List Int))) := fun p => match p with | (l7, l8, y1) => (bif (decide ((y1.length : Int) > 0)) then (loop1 (impl_OrientSurface.b0 l7) (l7, l8, y1, 0)).bind (fun p => match p with | (l9, l10, y2, x3) => grd (decide (0 ≤ 1) && decide (1 ≤ (y2.length : Int)) && decide ((y2.length : Int) ≤ (y2.length : Int))) (some (.next (l9, l10, ((y2.drop 1).take (y2.length - 1)))))) else some (.brk (l7, l8, y1)))

def impl_OrientSurface.b2 (x1 : List (List Int)) : (List (List Int)) × (List Bool) × Int → Option (LB ((List (List Int)) × (List Bool) × Int)) := fun p => match p with | (l1, l2, x2) => (bif (decide (x2 < (x1.length : Int))) then (chk x2 l2.length ((bif (gt l2 x2) then some (.inl (l1, l2)) else (loop1 (impl_OrientSurface.b1) (l1, (l2.set x2.toNat true), ([x2] : List Int))).bind (fun p => match p with | (l7, l8, y1) => some (.inl (l7, l8)))))).bind (jn (fun p => match p with | (l5, l6) => some (.next (l5, l6, (w64 (x2 + 1)))))) else some (.brk (l1, l2, x2)))

def impl_OrientSurface.f (x1 : List (List Int)) : Option ((List (List Int)) × Int) := (G.impl_IsSurface.f x1).bind (fun r_1 => (bif (!r_1) then some (([] : List (List Int)), 1) else (G.impl_cloneSurface.f x1).bind (fun r_2 => small x1.length ((loop1 (impl_OrientSurface.b2 x1) (r_2, (List.replicate (x1.length : Int).toNat (false : Bool)), 0)).bind (fun p => match p with | (l1, l2, x2) => (G.impl_oriented.f l1).bind (fun r_6 => (bif (!r_6) then some (([] : List (List Int)), 5) else some (l1, 0))))))))

def impl_OrientSurface.R (r : (List (List Int)) × Int) (v : Value) (L : List Asn) : Prop := ∃ (s0 : SV) (ss0 : List SV), v = .tuple #[SV.v s0, .int .i64 r.2] ∧ L = [mat Ei 2 22 s0 ss0 r.1]

set_option maxRecDepth 100000 in
set_option maxHeartbeats 4000000 in
theorem impl_OrientSurface.calls (w : World) (s1 : SV) (ss1 : List SV) (x1 : List (List Int)) (h1 : ReadsM Ei (hp w) s1 ss1 x1) :
  ∀ r, impl_OrientSurface.f x1 = some r → Calls Try.prog 35 #[SV.v s1] w (Ret w (impl_OrientSurface.R r)) := by

 refine calls_T (n := 76) (Γ := [(0, SV.v s1)]) (R := impl_OrientSurface.R) Try.func35 rfl rfl (Nat.le_of_ble_eq_true rfl) ⟨rfl, trivial⟩ ?_
 unfold impl_OrientSurface.f
 refine TC.seq ?_
 refine TC.region ?_
 refine TL.assign rfl rfl (v := SV.v ⟨none, 0, 0⟩) rfl ?_
 refine TL.assign rfl rfl (v := .int .i64 0) rfl ?_
 refine TL.done ?_
 refine TC.seq ?_
 refine TC.seq ?_
 refine TC.region ?_
 refine TL.move rfl rfl (v := SV.v s1) rfl ?_
 refine TL.call (R := G.impl_IsSurface.R) Try.call44 rfl rfl rfl (fun w hS => G.impl_IsSurface.calls w s1 ss1 x1 ((RdM.old h1) w hS)) ?_
 rintro r_1 _ _ ⟨rfl, rfl⟩
 refine TL.not r_1 rfl rfl rfl ?_
 refine TL.done ?_
 refine TC.cond (b := (!r_1)) rfl (fun c1 => ?_) (fun c2 => ?_)
 ·refine TC.seq ?_
  refine TC.region ?_
  refine TL.assign rfl rfl (v := SV.v ⟨none, 0, 0⟩) rfl ?_
  refine TL.assign rfl rfl (v := .int .i64 1) rfl ?_
  refine TL.done ?_
  refine TC.nilmat Ei 2 22 ?_
  exact TC.retF (Fin.body (fin2 (.inr rfl) rfl (.tmp rfl) (.tmp rfl) [0] rfl ⟨⟨none, 0, 0⟩, [], rfl, rfl⟩))
 ·refine TC.skip ?_
  refine TC.seq ?_
  refine TC.wk (Γ' := [(0, SV.v s1), (2, SV.v ⟨none, 0, 0⟩), (3, .int .i64 0), (10, SV.v s1), (11, .bool r_1), (12, .bool (!r_1))]) ⟨rfl, rfl, rfl, rfl, rfl, rfl, trivial⟩ ?_
  refine TC.bindE ?_
  rintro r_2 hr1
  refine TC.small fun h2 => ?_
  refine TC.drawG [(0, SV.v s1), (2, SV.v ⟨none, 0, 0⟩), (3, .int .i64 0), (10, SV.v s1), (11, .bool r_1), (12, .bool (!r_1))] [] ⟨rfl, rfl, rfl, rfl, rfl, rfl, trivial⟩ trivial (fun l_ g1 => [(bif nb l_ 1 then mat Ei 2 22 (gs (g1 8)) (g1 9) r_2 else emp), (bif nb l_ 4 then row Eb 4 (gs (g1 32)) (List.replicate (x1.length : Int).toNat (false : Bool)) else emp), (bif nb l_ 6 then box (gs (g1 40)).n 32 [.one (SV.v (gs (g1 8)))] else (bif nb l_ 5 then box (gs (g1 40)).n 32 [.one (SV.v ⟨none, 0, 0⟩)] else emp))]) (fun g1 => [SV.v s1, SV.v (gs (g1 8)), SV.v s1, .int .i64 (x1.length : Int), SV.v (gs (g1 32)), bp (gs (g1 40)).n 0, undef, SV.v (gs (g1 32))]) [[], [0], [], [2], [2, 3], [], [0, 1, 5], [0, 1, 2, 3, 4, 5, 6]] [[some false, some false, none, none, none, none, some false, some false], [some true, some false, none, none, none, none, some false, some false], [none, none, some false, some false, some false, none, none, some false], [none, none, some true, some false, some false, none, none, some false], [none, none, some true, some true, some false, none, none, some false], [none, none, none, none, none, some false, some false, some false], [some true, some true, none, none, none, some true, some false, some false], [some true, some true, some true, some true, some true, some true, some true, some false]] (by kernel_rfl) (fun _ => rfl) rfl rfl rfl rfl rfl (fun _ _ => ⟨⟨⟨⟨⟨⟨⟨⟨trivial, rfl⟩, rfl⟩, rfl⟩, rfl⟩, rfl⟩, rfl⟩, rfl⟩, rfl⟩) 3 [0, 0, 0] (fun _ => by kernel_rfl) ?_ ?_
  ·refine ⟨rfl, ?_, rfl, ?_, rfl, ?_, rfl, ?_, rfl, ?_, rfl, ?_, rfl, ?_, rfl, ?_, trivial⟩
   ·intro b2_ b3_ b4_ b5_ g1
    refine TL.move rfl rfl (v := SV.v s1) rfl ?_
    refine TL.done ?_
    exact TC.nrm () [] ⟨rfl, trivial⟩ [0, 0, 0] (by kernel_rfl)
   ·intro b2_ b3_ b4_ b5_ g1
    refine TL.asL [emp, (bif b4_ then row Eb 4 (gs (g1 32)) (List.replicate (x1.length : Int).toNat (false : Bool)) else emp), (bif b5_ then box (gs (g1 40)).n 32 [.one (SV.v ⟨none, 0, 0⟩)] else emp)] (by kernel_rfl) ?_
    refine TL.callH (R := G.impl_cloneSurface.R) hr1 Try.call102 rfl rfl rfl (fun w hS => G.impl_cloneSurface.calls w s1 ss1 x1 ((RdM.old h1) w hS)) ?_
    rintro _ _ ⟨s2, ss2, rfl, rfl⟩
    refine TL.done ?_
    exact TC.nrm () [[s2], ss2] ⟨rfl, trivial⟩ [0, 1, 1] (by kernel_rfl)
   ·intro b0_ b1_ b5_ b6_ g1
    refine TL.move rfl rfl (v := SV.v s1) rfl ?_
    refine TL.done ?_
    exact TC.nrm () [] ⟨rfl, trivial⟩ [0, 0, 0] (by kernel_rfl)
   ·intro b0_ b1_ b5_ b6_ g1
    refine TL.asL [(bif b1_ then mat Ei 2 22 (gs (g1 8)) (g1 9) r_2 else emp), emp, (bif b6_ then box (gs (g1 40)).n 32 [.one (SV.v (gs (g1 8)))] else (bif b5_ then box (gs (g1 40)).n 32 [.one (SV.v ⟨none, 0, 0⟩)] else emp))] (by kernel_rfl) ?_
    refine TL.lenM (RdM.old h1) Try.underlying32 rfl rfl rfl ?_
    refine TL.done ?_
    exact TC.nrm () [] ⟨rfl, trivial⟩ [0, 0, 0] (by kernel_rfl)
   ·intro b0_ b1_ b5_ b6_ g1
    refine TL.asL [(bif b1_ then mat Ei 2 22 (gs (g1 8)) (g1 9) r_2 else emp), emp, (bif b6_ then box (gs (g1 40)).n 32 [.one (SV.v (gs (g1 8)))] else (bif b5_ then box (gs (g1 40)).n 32 [.one (SV.v ⟨none, 0, 0⟩)] else emp))] (by kernel_rfl) ?_
    refine TL.mkslice Eb (false : Bool) (x1.length : Int) Try.underlying90 (info_of Try.type4) (zv := (Try.t4.zero.getD (.bool false))) rfl rfl rfl (by simp [Eb, flat, Seg.cells]) (by decide) (by omega) (by omega) rfl rfl rfl rfl fun s3 => ?_
    refine TL.done ?_
    exact TC.nrm () [[s3]] ⟨rfl, trivial⟩ [1, 0, 1] (by kernel_rfl)
   ·intro b0_ b1_ b2_ b3_ b4_ g1
    refine TL.asL [(bif b1_ then mat Ei 2 22 (gs (g1 8)) (g1 9) r_2 else emp), (bif b4_ then row Eb 4 (gs (g1 32)) (List.replicate (x1.length : Int).toNat (false : Bool)) else emp), emp] (by kernel_rfl) ?_
    refine TL.alloc [.one (SV.v ⟨none, 0, 0⟩)] rfl rfl Try.zeroValue32 rfl fun b_1 => ?_
    refine TL.done ?_
    exact TC.nrm () [[⟨none, b_1, 0⟩]] ⟨rfl, trivial⟩ [1, 1, 0] (by kernel_rfl)
   ·intro b2_ b3_ b4_ g1
    refine TL.asL [mat Ei 2 22 (gs (g1 8)) (g1 9) r_2, (bif b4_ then row Eb 4 (gs (g1 32)) (List.replicate (x1.length : Int).toNat (false : Bool)) else emp), box (gs (g1 40)).n 32 [.one (SV.v ⟨none, 0, 0⟩)]] (by kernel_rfl) ?_
    refine TL.st1 2 0 rfl Try.sizeOf32 rfl rfl rfl rfl rfl rfl rfl ?_
    refine TL.done ?_
    exact TC.nrm () [] trivial [0, 0, 0] (by kernel_rfl)
   ·intro g1
    refine TL.assign rfl rfl (v := SV.v (gs (g1 32))) rfl ?_
    refine TL.done ?_
    exact TC.nrm () [] ⟨rfl, trivial⟩ [0, 0, 0] (by kernel_rfl)
  ·intro g1
   refine TC.asL [mat Ei 2 22 (gs (g1 8)) (g1 9) r_2, row Eb 4 (gs (g1 32)) (List.replicate (x1.length : Int).toNat (false : Bool)), box (gs (g1 40)).n 32 [.one (SV.v (gs (g1 8)))]] (by kernel_rfl) ?_
   refine TC.seq ?_
   refine TC.seq ?_
   refine TC.region ?_
   refine TL.move rfl rfl (v := SV.v s1) rfl ?_
   refine TL.lenM (RdM.old h1) Try.underlying32 rfl rfl rfl ?_
   refine TL.move rfl rfl (v := .int .i64 0) rfl ?_
   refine TL.done ?_
   refine TC.loop1 (σ := (List (List Int)) × (List Bool) × Int) (γ := (List SV)) (Γ' := (fun p q => match p, q with | (l1, l2, x2), ss3 => [(4, bp (gs (g1 40)).n 0), (5, SV.v (gs (g1 32))), (19, .int .i64 (x1.length : Int)), (20, .int .i64 x2)])) (L' := (fun p q => match p, q with | (l1, l2, x2), ss3 => [box (gs (g1 40)).n 32 [.one (SV.v (gs (g1 8)))], mat Ei 2 22 (gs (g1 8)) ss3 l1, row Eb 4 (gs (g1 32)) l2])) (Γb := (fun p q => match p, q with | (l1, l2, x2), ss3 => [(4, bp (gs (g1 40)).n 0), (5, SV.v (gs (g1 32))), (19, .int .i64 (x1.length : Int)), (20, .int .i64 x2)])) (Lb := (fun p q => match p, q with | (l1, l2, x2), ss3 => [box (gs (g1 40)).n 32 [.one (SV.v (gs (g1 8)))], mat Ei 2 22 (gs (g1 8)) ss3 l1, row Eb 4 (gs (g1 32)) l2])) ((r_2, (List.replicate (x1.length : Int).toNat (false : Bool)), 0)) ((g1 9)) ⟨rfl, rfl, rfl, rfl, trivial⟩ [2, 0, 0] rfl ?_ ?_
   ·rintro ⟨l1, l2, x2⟩ ss3
    refine TC.seq ?_
    refine TC.region ?_
    refine TL.bin .i64 x2 (x1.length : Int) rfl rfl rfl rfl (v := .bool (decide (x2 < (x1.length : Int)))) rfl ?_
    refine TL.done ?_
    refine TC.seq ?_
    refine TC.cond (b := (decide (x2 < (x1.length : Int)))) rfl (fun c3 => ?_) (fun c4 => ?_)
    ·refine TC.skip ?_
     refine TC.seq ?_
     refine TC.blockJ (σ := (List (List Int)) × (List Bool)) (γ := (List SV)) (Γ' := (fun p q => match p, q with | (l5, l6), ss5 => [(4, bp (gs (g1 40)).n 0), (5, SV.v (gs (g1 32))), (19, .int .i64 (x1.length : Int)), (20, .int .i64 x2)])) (L' := (fun p q => match p, q with | (l5, l6), ss5 => [box (gs (g1 40)).n 32 [.one (SV.v (gs (g1 8)))], mat Ei 2 22 (gs (g1 8)) ss5 l5, row Eb 4 (gs (g1 32)) l6])) ?_ ?_
     ·refine TC.seq ?_
      refine TC.region ?_
      refine TL.move rfl rfl (v := .int .i64 x2) rfl ?_
      refine TL.assign rfl rfl (v := .int .i64 x2) rfl ?_
      refine TL.done ?_
      refine TC.seq ?_
      refine TC.seq ?_
      refine TC.region ?_
      refine TL.move rfl rfl (v := SV.v (gs (g1 32))) rfl ?_
      refine TL.move rfl rfl (v := .int .i64 x2) rfl ?_
      refine TL.chk fun h4 => ?_
      refine TL.ixs x2 x2.toNat (Rd.row 2 rfl) h4 Try.underlying90 Try.sizeOf4 rfl rfl rfl rfl (by omega) ?_
      refine TL.loadE (Rd.row 2 rfl) Try.isAgg4 x2.toNat 0 (gt_spec h4) (v := .bool (gt l2 x2)) rfl (by simp only [show Eb.sz = 1 from rfl] <;> omega) rfl rfl rfl ?_
      refine TL.done ?_
      refine TC.cond (b := (gt l2 x2)) rfl (fun c5 => ?_) (fun c6 => ?_)
      ·exact TC.exB ((l1, l2)) (ss3) ⟨rfl, rfl, rfl, rfl, trivial⟩ [0, 0, 0] rfl
      ·refine TC.skip ?_
       refine TC.seq ?_
       refine TC.region ?_
       refine TL.move rfl rfl (v := SV.v (gs (g1 32))) rfl ?_
       refine TL.move rfl rfl (v := .int .i64 x2) rfl ?_
       refine TL.ixs x2 x2.toNat (Rd.row 2 rfl) h4 Try.underlying90 Try.sizeOf4 rfl rfl rfl rfl (by omega) ?_
       refine TL.stE 2 (x2.toNat) true (v := .bool true) rfl Try.sizeOf4 rfl rfl rfl (by have h_ := h4; omega) (by simp only [show Eb.sz = 1 from rfl] <;> omega) rfl rfl rfl ?_
       refine TL.done ?_
       refine TC.seq ?_
       refine TC.region ?_
       refine TL.move rfl rfl (v := .int .i64 x2) rfl ?_
       refine TL.blit Ei ([x2] : List Int) Try.underlying91 Try.sizeOf3 Try.zeroValue3 rfl rfl rfl [(0, .int .i64 x2)] rfl ⟨rfl, rfl, trivial⟩ rfl rfl fun s4 => ?_
       refine TL.alloc [.one (SV.v ⟨none, 0, 0⟩)] rfl rfl Try.zeroValue91 rfl fun b_2 => ?_
       refine TL.st1 0 0 rfl Try.sizeOf91 rfl rfl rfl rfl rfl rfl rfl ?_
       refine TL.done ?_
       refine TC.loop1 (σ := (List (List Int)) × (List Bool) × (List Int)) (γ := (List SV) × Nat × SV) (Γ' := (fun p q => match p, q with | (l7, l8, y1), (ss6, b_3, s5) => [(4, bp (gs (g1 40)).n 0), (5, SV.v (gs (g1 32))), (7, bp b_3 0), (19, .int .i64 (x1.length : Int)), (20, .int .i64 x2)])) (L' := (fun p q => match p, q with | (l7, l8, y1), (ss6, b_3, s5) => [box (gs (g1 40)).n 32 [.one (SV.v (gs (g1 8)))], mat Ei 2 22 (gs (g1 8)) ss6 l7, row Eb 4 (gs (g1 32)) l8, box b_3 91 [.one (SV.v s5)], row Ei 3 s5 y1])) (Γb := (fun p q => match p, q with | (l7, l8, y1), (ss6, b_3, s5) => [(4, bp (gs (g1 40)).n 0), (5, SV.v (gs (g1 32))), (7, bp b_3 0), (19, .int .i64 (x1.length : Int)), (20, .int .i64 x2)])) (Lb := (fun p q => match p, q with | (l7, l8, y1), (ss6, b_3, s5) => [box (gs (g1 40)).n 32 [.one (SV.v (gs (g1 8)))], mat Ei 2 22 (gs (g1 8)) ss6 l7, row Eb 4 (gs (g1 32)) l8, box b_3 91 [.one (SV.v s5)], row Ei 3 s5 y1])) ((l1, (l2.set x2.toNat true), ([x2] : List Int))) ((ss3, b_2, s4)) ⟨rfl, rfl, rfl, rfl, rfl, trivial⟩ [2, 2, 2, 0, 0] rfl ?_ ?_
       ·rintro ⟨l7, l8, y1⟩ ⟨ss6, b_3, s5⟩
        refine TC.seq ?_
        refine TC.seq ?_
        refine TC.region ?_
        refine TL.load1 0 (Src.box 3 rfl) Try.isAgg91 rfl rfl rfl rfl rfl ?_
        refine TL.len (Rd.row 4 rfl) Try.underlying91 rfl rfl rfl ?_
        refine TL.bin .i64 (y1.length : Int) 0 rfl rfl rfl rfl (v := .bool (decide ((y1.length : Int) > 0))) rfl ?_
        refine TL.done ?_
        refine TC.cond (b := (decide ((y1.length : Int) > 0))) rfl (fun c7 => ?_) (fun c8 => ?_)
        ·refine TC.skip ?_
         refine TC.seq ?_
         refine TC.block (NoEx.loop1 rfl) ?_
         refine TC.seq ?_
         refine TC.region ?_
         refine TL.load1 0 (Src.box 0 rfl) Try.isAgg32 rfl rfl rfl rfl rfl ?_
         refine TL.lenM (RdM.mat 1 rfl) Try.underlying32 rfl rfl rfl ?_
         refine TL.move rfl rfl (v := .int .i64 0) rfl ?_
         refine TL.done ?_
         refine TC.loop1 (σ := (List (List Int)) × (List Bool) × (List Int) × Int) (γ := (List SV) × SV) (Γ' := (fun p q => match p, q with | (l9, l10, y2, x3), (ss7, s6) => [(4, bp (gs (g1 40)).n 0), (5, SV.v (gs (g1 32))), (7, bp b_3 0), (19, .int .i64 (x1.length : Int)), (20, .int .i64 x2), (37, SV.v (gs (g1 8))), (38, .int .i64 (l7.length : Int)), (39, .int .i64 x3)])) (L' := (fun p q => match p, q with | (l9, l10, y2, x3), (ss7, s6) => [box (gs (g1 40)).n 32 [.one (SV.v (gs (g1 8)))], mat Ei 2 22 (gs (g1 8)) ss7 l9, row Eb 4 (gs (g1 32)) l10, box b_3 91 [.one (SV.v s6)], row Ei 3 s6 y2])) (Γb := (fun p q => match p, q with | (l9, l10, y2, x3), (ss7, s6) => [(4, bp (gs (g1 40)).n 0), (5, SV.v (gs (g1 32))), (7, bp b_3 0), (19, .int .i64 (x1.length : Int)), (20, .int .i64 x2), (37, SV.v (gs (g1 8))), (38, .int .i64 (l7.length : Int)), (39, .int .i64 x3)])) (Lb := (fun p q => match p, q with | (l9, l10, y2, x3), (ss7, s6) => [box (gs (g1 40)).n 32 [.one (SV.v (gs (g1 8)))], mat Ei 2 22 (gs (g1 8)) ss7 l9, row Eb 4 (gs (g1 32)) l10, box b_3 91 [.one (SV.v s6)], row Ei 3 s6 y2])) ((l7, l8, y1, 0)) ((ss6, s5)) ⟨rfl, rfl, rfl, rfl, rfl, rfl, rfl, rfl, trivial⟩ [0, 0, 0, 0, 0] rfl ?_ ?_
         ·rintro ⟨l9, l10, y2, x3⟩ ⟨ss7, s6⟩
          refine TC.seq ?_
          refine TC.region ?_
          refine TL.bin .i64 x3 (l7.length : Int) rfl rfl rfl rfl (v := .bool (decide (x3 < (l7.length : Int)))) rfl ?_
          refine TL.done ?_
          refine TC.seq ?_
          refine TC.cond (b := (decide (x3 < (l7.length : Int)))) rfl (fun c9 => ?_) (fun c10 => ?_)
          ·refine TC.skip ?_
           refine TC.seq ?_
           refine TC.blockJ (σ := (List (List Int)) × (List Bool) × (List Int)) (γ := (List SV) × SV) (Γ' := (fun p q => match p, q with | (l15, l16, y3), (ss10, s7) => [(4, bp (gs (g1 40)).n 0), (5, SV.v (gs (g1 32))), (7, bp b_3 0), (19, .int .i64 (x1.length : Int)), (20, .int .i64 x2), (37, SV.v (gs (g1 8))), (38, .int .i64 (l7.length : Int)), (39, .int .i64 x3)])) (L' := (fun p q => match p, q with | (l15, l16, y3), (ss10, s7) => [box (gs (g1 40)).n 32 [.one (SV.v (gs (g1 8)))], mat Ei 2 22 (gs (g1 8)) ss10 l15, row Eb 4 (gs (g1 32)) l16, box b_3 91 [.one (SV.v s7)], row Ei 3 s7 y3])) ?_ ?_
           ·refine TC.seq ?_
            refine TC.region ?_
            refine TL.move rfl rfl (v := .int .i64 x3) rfl ?_
            refine TL.chk fun h5 => ?_
            refine TL.ixsM x3 x3.toNat (RdM.mat 1 rfl) h5 Try.underlying32 Try.sizeOf22 rfl rfl rfl rfl (by omega) ?_
            refine TL.loadM2 (RdM.mat 1 rfl) Try.isAgg22 x3 h5 (by omega) rfl rfl rfl ?_
            refine TL.assign rfl rfl (v := .int .i64 x3) rfl ?_
            refine TL.assign rfl rfl (v := SV.v (gt ss7 x3)) rfl ?_
            refine TL.done ?_
            refine TC.seq ?_
            refine TC.seq ?_
            refine TC.region ?_
            refine TL.move rfl rfl (v := SV.v (gs (g1 32))) rfl ?_
            refine TL.move rfl rfl (v := .int .i64 x3) rfl ?_
            refine TL.chk fun h6 => ?_
            refine TL.ixs x3 x3.toNat (Rd.row 2 rfl) h6 Try.underlying90 Try.sizeOf4 rfl rfl rfl rfl (by omega) ?_
            refine TL.loadE (Rd.row 2 rfl) Try.isAgg4 x3.toNat 0 (gt_spec h6) (v := .bool (gt l10 x3)) rfl (by simp only [show Eb.sz = 1 from rfl] <;> omega) rfl rfl rfl ?_
            refine TL.move rfl rfl (v := .bool (gt l10 x3)) rfl ?_
            refine TL.cutJ (σ := Bool) (γ := Unit) (Γ' := fun b_4 _ => [(53, .bool b_4), (4, bp (gs (g1 40)).n 0), (5, SV.v (gs (g1 32))), (7, bp b_3 0), (19, .int .i64 (x1.length : Int)), (20, .int .i64 x2), (37, SV.v (gs (g1 8))), (38, .int .i64 (l7.length : Int)), (39, .int .i64 x3), (40, .bool (decide (x3 < (l7.length : Int)))), (41, .int .i64 x3), (42, ep (gs (g1 8)) x3.toNat), (43, SV.v (gt ss7 x3)), (8, .int .i64 x3), (9, SV.v (gt ss7 x3)), (44, SV.v (gs (g1 32))), (45, .int .i64 x3), (46, ep (gs (g1 32)) x3.toNat), (47, .bool (gt l10 x3)), (48, .bool (gt l10 x3))]) (L' := fun _ _ => [box (gs (g1 40)).n 32 [.one (SV.v (gs (g1 8)))], mat Ei 2 22 (gs (g1 8)) ss7 l9, row Eb 4 (gs (g1 32)) l10, box b_3 91 [.one (SV.v s6)], row Ei 3 s6 y2]) 5 ?_ ?_
            ·refine TL.ifb (t := 48) (b := (gt l10 x3)) rfl (fun c11 => ?_) (fun c12 => ?_)
             ·refine TL.skip rfl rfl (by decide) ?_
              refine TL.skip rfl rfl (by decide) ?_
              refine TL.skip rfl rfl (by decide) ?_
              refine TL.skip rfl rfl (by decide) ?_
              refine TL.pick rfl rfl (b := true) rfl (r := .bool true) rfl ?_
              refine TL.done ?_
              exact TC.nrm (true) () ⟨rfl, rfl, rfl, rfl, rfl, rfl, rfl, rfl, rfl, rfl, rfl, rfl, rfl, rfl, rfl, rfl, rfl, rfl, rfl, (by rw [c11]; rfl), trivial⟩ [0, 0, 0, 0, 0] (by kernel_rfl)
             ·refine TL.move rfl rfl (v := SV.v (gt ss7 x3)) rfl ?_
              refine TL.makeFunc rfl rfl (us := []) (vs := [bp (gs (g1 40)).n 0, bp b_3 0]) rfl rfl ?_
              refine TL.call (R := G.slices_ContainsFunc_int64_int64.R) Try.call103 rfl rfl rfl (fun w hS => G.slices_ContainsFunc_int64_int64.calls w (gt ss7 x3) (gt l9 x3) 104 [] [bp (gs (g1 40)).n 0, bp b_3 0] (fun x0_ => G.impl_OrientSurface_1.f x0_ l9 y2) ((RdM.inn (RdM.mat 1 rfl) h5) w hS) Try.call104 (fun w_ hle_ x0_ r_ hr_ => G.impl_OrientSurface_1.calls w_ x0_ (gs (g1 40)).n (gs (g1 8)) ss7 l9 b_3 s6 y2 (((Src.box 0 rfl) w hS).mono hle_) (((RdM.mat 1 rfl) w hS).mono hle_) (((Src.box 3 rfl) w hS).mono hle_) (((Rd.row 4 rfl) w hS).mono hle_) r_ hr_)) ?_
              rintro r_3 _ _ ⟨rfl, rfl⟩
              refine TL.not r_3 rfl rfl rfl ?_
              refine TL.pick rfl rfl (b := false) rfl (r := .bool (!r_3)) rfl ?_
              refine TL.done ?_
              exact TC.nrm ((!r_3)) () ⟨rfl, rfl, rfl, rfl, rfl, rfl, rfl, rfl, rfl, rfl, rfl, rfl, rfl, rfl, rfl, rfl, rfl, rfl, rfl, (by rw [c12]; rfl), trivial⟩ [0, 0, 0, 0, 0] (by kernel_rfl)
            ·rintro b_4 _
             refine TL.done ?_
             refine TC.cond (b := b_4) rfl (fun c13 => ?_) (fun c14 => ?_)
             ·exact TC.exB ((l9, l10, y2)) ((ss7, s6)) ⟨rfl, rfl, rfl, rfl, rfl, rfl, rfl, rfl, trivial⟩ [0, 0, 0, 0, 0] rfl
             ·refine TC.skip ?_
              refine TC.seq ?_
              refine TC.seq ?_
              refine TC.region ?_
              refine TL.move rfl rfl (v := SV.v (gt ss7 x3)) rfl ?_
              refine TL.makeFunc rfl rfl (us := []) (vs := [bp (gs (g1 40)).n 0, bp b_3 0]) rfl rfl ?_
              refine TL.call (R := G.slices_ContainsFunc_int64_int64.R) Try.call103 rfl rfl rfl (fun w hS => G.slices_ContainsFunc_int64_int64.calls w (gt ss7 x3) (gt l9 x3) 106 [] [bp (gs (g1 40)).n 0, bp b_3 0] (fun x0_ => G.impl_OrientSurface_2.f x0_ l9 y2) ((RdM.inn (RdM.mat 1 rfl) h5) w hS) Try.call106 (fun w_ hle_ x0_ r_ hr_ => G.impl_OrientSurface_2.calls w_ x0_ (gs (g1 40)).n (gs (g1 8)) ss7 l9 b_3 s6 y2 (((Src.box 0 rfl) w hS).mono hle_) (((RdM.mat 1 rfl) w hS).mono hle_) (((Src.box 3 rfl) w hS).mono hle_) (((Rd.row 4 rfl) w hS).mono hle_) r_ hr_)) ?_
              rintro r_4 _ _ ⟨rfl, rfl⟩
              refine TL.done ?_
              refine TC.join1 (σ := (List (List Int))) (γ := (List SV)) (Γ' := (fun l18 ss11 => [(4, bp (gs (g1 40)).n 0), (5, SV.v (gs (g1 32))), (7, bp b_3 0), (8, .int .i64 x3), (19, .int .i64 (x1.length : Int)), (20, .int .i64 x2), (37, SV.v (gs (g1 8))), (38, .int .i64 (l7.length : Int)), (39, .int .i64 x3)])) (L' := (fun l18 ss11 => [box (gs (g1 40)).n 32 [.one (SV.v (gs (g1 8)))], mat Ei 2 22 (gs (g1 8)) ss11 l18, row Eb 4 (gs (g1 32)) l10, box b_3 91 [.one (SV.v s6)], row Ei 3 s6 y2])) ?_ ?_
              ·refine TC.cond (b := r_4) rfl (fun c15 => ?_) (fun c16 => ?_)
               ·refine TC.wk (Γ' := [(4, bp (gs (g1 40)).n 0), (5, SV.v (gs (g1 32))), (7, bp b_3 0), (19, .int .i64 (x1.length : Int)), (20, .int .i64 x2), (37, SV.v (gs (g1 8))), (38, .int .i64 (l7.length : Int)), (39, .int .i64 x3), (40, .bool (decide (x3 < (l7.length : Int)))), (41, .int .i64 x3), (42, ep (gs (g1 8)) x3.toNat), (43, SV.v (gt ss7 x3)), (8, .int .i64 x3), (9, SV.v (gt ss7 x3)), (44, SV.v (gs (g1 32))), (45, .int .i64 x3), (46, ep (gs (g1 32)) x3.toNat), (47, .bool (gt l10 x3)), (48, .bool (gt l10 x3)), (53, .bool b_4), (54, SV.v (gt ss7 x3)), (55, .func (.func 106) #[] #[bp (gs (g1 40)).n 0, bp b_3 0]), (56, .bool r_4)]) ⟨rfl, rfl, rfl, rfl, rfl, rfl, rfl, rfl, rfl, rfl, rfl, rfl, rfl, rfl, rfl, rfl, rfl, rfl, rfl, rfl, rfl, rfl, rfl, trivial⟩ ?_
                refine TC.bindE ?_
                rintro r_5 hr2
                refine TC.drawG [(4, bp (gs (g1 40)).n 0), (5, SV.v (gs (g1 32))), (7, bp b_3 0), (19, .int .i64 (x1.length : Int)), (20, .int .i64 x2), (37, SV.v (gs (g1 8))), (38, .int .i64 (l7.length : Int)), (39, .int .i64 x3), (40, .bool (decide (x3 < (l7.length : Int)))), (41, .int .i64 x3), (42, ep (gs (g1 8)) x3.toNat), (43, SV.v (gt ss7 x3)), (8, .int .i64 x3), (9, SV.v (gt ss7 x3)), (44, SV.v (gs (g1 32))), (45, .int .i64 x3), (46, ep (gs (g1 32)) x3.toNat), (47, .bool (gt l10 x3)), (48, .bool (gt l10 x3)), (53, .bool b_4), (54, SV.v (gt ss7 x3)), (55, .func (.func 106) #[] #[bp (gs (g1 40)).n 0, bp b_3 0]), (56, .bool r_4)] [] ⟨rfl, rfl, rfl, rfl, rfl, rfl, rfl, rfl, rfl, rfl, rfl, rfl, rfl, rfl, rfl, rfl, rfl, rfl, rfl, rfl, rfl, rfl, rfl, trivial⟩ trivial (fun l_ g2 => [box (gs (g1 40)).n 32 [.one (SV.v (gs (g1 8)))], (bif nb l_ 5 then mat Ei 2 22 (gs (g1 8)) (ss7.set x3.toNat (gs (g2 24))) (l9.set x3.toNat r_5) else mat Ei 2 22 (gs (g1 8)) ss7 l9), row Eb 4 (gs (g1 32)) l10, box b_3 91 [.one (SV.v s6)], row Ei 3 s6 y2, (bif nb l_ 5 then emp else (bif nb l_ 3 then row Ei 2 (gs (g2 24)) r_5 else emp))]) (fun g2 => [SV.v (gs (g1 8)), .int .i64 x3, SV.v (gt ss7 x3), SV.v (gs (g2 24)), ep (gs (g1 8)) x3.toNat, undef]) [[], [], [], [2], [0, 1, 2, 3], [0, 1, 2, 3, 4]] [[some false, none, none, none, some false, some false], [none, some false, none, none, some false, some false], [none, none, some false, some false, some false, some false], [none, none, some true, some false, some false, some false], [some true, some true, some true, some true, some false, some false], [some true, some true, some true, some true, some true, some false]] (by kernel_rfl) (fun _ => rfl) rfl rfl rfl rfl rfl (fun _ _ => ⟨⟨⟨⟨⟨⟨trivial, rfl⟩, rfl⟩, rfl⟩, rfl⟩, rfl⟩, rfl⟩) 1 [1, 1, 1, 1, 1, 0] (fun _ => by kernel_rfl) ?_ ?_
                ·refine ⟨rfl, ?_, rfl, ?_, rfl, ?_, rfl, ?_, rfl, ?_, rfl, ?_, trivial⟩
                 ·intro b1_ b2_ b3_ g2
                  refine TL.asL [box (gs (g1 40)).n 32 [.one (SV.v (gs (g1 8)))], mat Ei 2 22 (gs (g1 8)) ss7 l9, row Eb 4 (gs (g1 32)) l10, box b_3 91 [.one (SV.v s6)], row Ei 3 s6 y2, (bif b3_ then row Ei 2 (gs (g2 24)) r_5 else emp)] (by kernel_rfl) ?_
                  refine TL.load1 0 (Src.box 0 rfl) Try.isAgg32 rfl rfl rfl rfl rfl ?_
                  refine TL.done ?_
                  exact TC.nrm () [] ⟨rfl, trivial⟩ [0, 0, 0, 0, 0, 0] (by kernel_rfl)
                 ·intro b0_ b2_ b3_ g2
                  refine TL.move rfl rfl (v := .int .i64 x3) rfl ?_
                  refine TL.done ?_
                  exact TC.nrm () [] ⟨rfl, trivial⟩ [0, 0, 0, 0, 0, 0] (by kernel_rfl)
                 ·intro b0_ b1_ g2
                  refine TL.move rfl rfl (v := SV.v (gt ss7 x3)) rfl ?_
                  refine TL.done ?_
                  exact TC.nrm () [] ⟨rfl, trivial⟩ [0, 0, 0, 0, 0, 0] (by kernel_rfl)
                 ·intro b0_ b1_ g2
                  refine TL.asL [box (gs (g1 40)).n 32 [.one (SV.v (gs (g1 8)))], mat Ei 2 22 (gs (g1 8)) ss7 l9, row Eb 4 (gs (g1 32)) l10, box b_3 91 [.one (SV.v s6)], row Ei 3 s6 y2, emp] (by kernel_rfl) ?_
                  refine TL.callH (R := G.impl_turned.R) hr2 Try.call107 rfl rfl rfl (fun w hS => G.impl_turned.calls w (gt ss7 x3) (gt l9 x3) ((RdM.inn (RdM.mat 1 rfl) h5) w hS)) ?_
                  rintro _ _ ⟨s8, rfl, rfl⟩
                  refine TL.done ?_
                  exact TC.nrm () [[s8]] ⟨rfl, trivial⟩ [1, 1, 1, 1, 1, 0] (by kernel_rfl)
                 ·intro g2
                  refine TL.asL [box (gs (g1 40)).n 32 [.one (SV.v (gs (g1 8)))], mat Ei 2 22 (gs (g1 8)) ss7 l9, row Eb 4 (gs (g1 32)) l10, box b_3 91 [.one (SV.v s6)], row Ei 3 s6 y2, row Ei 2 (gs (g2 24)) r_5] (by kernel_rfl) ?_
                  refine TL.ixsM x3 x3.toNat (RdM.mat 1 rfl) h5 Try.underlying32 Try.sizeOf22 rfl rfl rfl rfl (by omega) ?_
                  refine TL.done ?_
                  exact TC.nrm () [] ⟨rfl, trivial⟩ [0, 0, 0, 0, 0, 0] (by kernel_rfl)
                 ·intro g2
                  refine TL.asL [box (gs (g1 40)).n 32 [.one (SV.v (gs (g1 8)))], mat Ei 2 22 (gs (g1 8)) ss7 l9, row Eb 4 (gs (g1 32)) l10, box b_3 91 [.one (SV.v s6)], row Ei 3 s6 y2, row Ei 2 (gs (g2 24)) r_5] (by kernel_rfl) ?_
                  refine TL.matlen 1 rfl fun h7 => ?_
                  refine TL.matcut 1 rfl ?_
                  refine TL.stE 0 (x3.toNat) (gs (g2 24)) (v := SV.v (gs (g2 24))) rfl Try.sizeOf22 rfl rfl rfl (by have h_ := h5; have l_ := h7; (try simp only [List.length_set] at h_ l_ ⊢); omega) (by simp only [show Ev.sz = 1 from rfl] <;> omega) rfl rfl rfl ?_
                  refine TL.hole 2 x3 rfl h5 ?_
                  refine TL.rowsPut 6 2 rfl rfl ?_
                  refine TL.matmk 0 2 rfl rfl ?_
                  refine TL.drop 0 rfl ?_
                  refine TL.asL [box (gs (g1 40)).n 32 [.one (SV.v (gs (g1 8)))], mat Ei 2 22 (gs (g1 8)) (ss7.set x3.toNat (gs (g2 24))) (l9.set x3.toNat r_5), row Eb 4 (gs (g1 32)) l10, box b_3 91 [.one (SV.v s6)], row Ei 3 s6 y2, emp] (by kernel_rfl) ?_
                  refine TL.done ?_
                  exact TC.nrm () [] trivial [0, 0, 0, 0, 0, 0] (by kernel_rfl)
                ·intro g2
                 refine TC.asL [box (gs (g1 40)).n 32 [.one (SV.v (gs (g1 8)))], mat Ei 2 22 (gs (g1 8)) (ss7.set x3.toNat (gs (g2 24))) (l9.set x3.toNat r_5), row Eb 4 (gs (g1 32)) l10, box b_3 91 [.one (SV.v s6)], row Ei 3 s6 y2, emp] (by kernel_rfl) ?_
                 exact TC.nrm ((l9.set x3.toNat r_5)) ((ss7.set x3.toNat (gs (g2 24)))) ⟨rfl, rfl, rfl, rfl, rfl, rfl, rfl, rfl, rfl, trivial⟩ [0, 0, 0, 0, 0] rfl
               ·refine TC.skip ?_
                exact TC.nrm (l9) (ss7) ⟨rfl, rfl, rfl, rfl, rfl, rfl, rfl, rfl, rfl, trivial⟩ [0, 0, 0, 0, 0] rfl
              ·rintro l18 ss11
               refine TC.seq ?_
               refine TC.region ?_
               refine TL.move rfl rfl (v := SV.v (gs (g1 32))) rfl ?_
               refine TL.move rfl rfl (v := .int .i64 x3) rfl ?_
               refine TL.ixs x3 x3.toNat (Rd.row 2 rfl) h6 Try.underlying90 Try.sizeOf4 rfl rfl rfl rfl (by omega) ?_
               refine TL.stE 2 (x3.toNat) true (v := .bool true) rfl Try.sizeOf4 rfl rfl rfl (by have h_ := h6; omega) (by simp only [show Eb.sz = 1 from rfl] <;> omega) rfl rfl rfl ?_
               refine TL.done ?_
               refine TC.region ?_
               refine TL.load1 0 (Src.box 3 rfl) Try.isAgg91 rfl rfl rfl rfl rfl ?_
               refine TL.move rfl rfl (v := .int .i64 x3) rfl ?_
               refine TL.blit Ei ([x3] : List Int) Try.underlying91 Try.sizeOf3 Try.zeroValue3 rfl rfl rfl [(0, .int .i64 x3)] rfl ⟨rfl, rfl, trivial⟩ rfl rfl fun s9 => ?_
               refine TL.small fun h8 => ?_
               refine TL.append 5 rfl (Rd.row 0 rfl) Try.underlying91 (info_of Try.type3) (zv := (Try.t3.zero.getD (.bool false))) rfl rfl rfl (by decide) h8 rfl rfl rfl rfl fun s10 => ?_
               refine TL.st1 4 0 rfl Try.sizeOf91 rfl rfl rfl rfl rfl rfl rfl ?_
               refine TL.done ?_
               exact TC.inlB ((l18, (l10.set x3.toNat true), (y2 ++ ([x3] : List Int)))) ((ss11, s10)) ⟨rfl, rfl, rfl, rfl, rfl, rfl, rfl, rfl, trivial⟩ [1, 1, 1, 1, 1] rfl
           ·rintro ⟨l15, l16, y3⟩ ⟨ss10, s7⟩
            refine TC.region ?_
            refine TL.bin .i64 x3 1 rfl rfl rfl rfl (v := .int .i64 (w64 (x3 + 1))) rfl ?_
            refine TL.move rfl rfl (v := .int .i64 (w64 (x3 + 1))) rfl ?_
            refine TL.done ?_
            exact TC.next1 ((l15, l16, y3, (w64 (x3 + 1)))) ((ss10, s7)) ⟨rfl, rfl, rfl, rfl, rfl, rfl, rfl, rfl, trivial⟩ [0, 0, 0, 0, 0] rfl
          ·exact TC.brk1 ((l9, l10, y2, x3)) ((ss7, s6)) ⟨rfl, rfl, rfl, rfl, rfl, rfl, rfl, rfl, trivial⟩ [0, 0, 0, 0, 0] rfl
         ·rintro ⟨l9, l10, y2, x3⟩ ⟨ss7, s6⟩
          refine TC.seq ?_
          refine TC.seq ?_
          refine TC.region ?_
          refine TL.load1 0 (Src.box 3 rfl) Try.isAgg91 rfl rfl rfl rfl rfl ?_
          refine TL.done ?_
          refine TC.region ?_
          refine TL.alloc [.one (SV.v ⟨none, 0, 0⟩)] rfl rfl Try.zeroValue91 rfl fun b_5 => ?_
          refine TL.st1 0 0 rfl Try.sizeOf91 rfl rfl rfl rfl rfl rfl rfl ?_
          refine TL.done ?_
          refine TC.region ?_
          refine TL.load1 0 (Src.box 0 rfl) Try.isAgg91 rfl rfl rfl rfl rfl ?_
          refine TL.grd fun h9 => ?_
          refine TL.slice (li := (some 1)) (hi' := none) (l := 1) (h := y2.length) (Rd.row 5 rfl) Try.underlying91 Try.sizeOf3 rfl rfl (by have h_ := h9; simp only [Bool.and_eq_true, decide_eq_true_eq] at h_; first | rfl | omega | (simp only [Option.getD_none, Option.getD_some]; omega)) (by have h_ := h9; simp only [Bool.and_eq_true, decide_eq_true_eq] at h_; first | rfl | omega | (simp only [Option.getD_none, Option.getD_some]; omega)) (by have h_ := h9; simp only [Bool.and_eq_true, decide_eq_true_eq] at h_; omega) (by have h_ := h9; simp only [Bool.and_eq_true, decide_eq_true_eq] at h_; omega) rfl rfl rfl ?_
          refine TL.adv (l := 1) (k := y2.length) 5 rfl (by have h_ := h9; simp only [Bool.and_eq_true, decide_eq_true_eq] at h_; omega) (by have h_ := h9; simp only [Bool.and_eq_true, decide_eq_true_eq] at h_; omega) ?_
          refine TL.st1 0 0 rfl Try.sizeOf91 rfl rfl rfl rfl rfl rfl rfl ?_
          refine TL.done ?_
          exact TC.next1 ((l9, l10, ((y2.drop 1).take (y2.length - 1)))) ((ss7, b_5, (SV.cut s6 1 y2.length s6.c Ei.sz))) ⟨rfl, rfl, rfl, rfl, rfl, trivial⟩ [1, 1, 1, 0, 1] rfl
        ·exact TC.brk1 ((l7, l8, y1)) ((ss6, b_3, s5)) ⟨rfl, rfl, rfl, rfl, rfl, trivial⟩ [0, 0, 0, 0, 0] rfl
       ·rintro ⟨l7, l8, y1⟩ ⟨ss6, b_3, s5⟩
        exact TC.inlB ((l7, l8)) (ss6) ⟨rfl, rfl, rfl, rfl, trivial⟩ [0, 0, 0] rfl
     ·rintro ⟨l5, l6⟩ ss5
      refine TC.region ?_
      refine TL.bin .i64 x2 1 rfl rfl rfl rfl (v := .int .i64 (w64 (x2 + 1))) rfl ?_
      refine TL.move rfl rfl (v := .int .i64 (w64 (x2 + 1))) rfl ?_
      refine TL.done ?_
      exact TC.next1 ((l5, l6, (w64 (x2 + 1)))) (ss5) ⟨rfl, rfl, rfl, rfl, trivial⟩ [0, 0, 0] rfl
    ·exact TC.brk1 ((l1, l2, x2)) (ss3) ⟨rfl, rfl, rfl, rfl, trivial⟩ [0, 0, 0] rfl
   ·rintro ⟨l1, l2, x2⟩ ss3
    refine TC.seq ?_
    refine TC.seq ?_
    refine TC.region ?_
    refine TL.load1 0 (Src.box 0 rfl) Try.isAgg32 rfl rfl rfl rfl rfl ?_
    refine TL.call (R := G.impl_oriented.R) Try.call108 rfl rfl rfl (fun w hS => G.impl_oriented.calls w (gs (g1 8)) ss3 l1 ((RdM.mat 1 rfl) w hS)) ?_
    rintro r_6 _ _ ⟨rfl, rfl⟩
    refine TL.not r_6 rfl rfl rfl ?_
    refine TL.done ?_
    refine TC.cond (b := (!r_6)) rfl (fun c17 => ?_) (fun c18 => ?_)
    ·refine TC.seq ?_
     refine TC.region ?_
     refine TL.assign rfl rfl (v := SV.v ⟨none, 0, 0⟩) rfl ?_
     refine TL.assign rfl rfl (v := .int .i64 5) rfl ?_
     refine TL.done ?_
     refine TC.nilmat Ei 2 22 ?_
     exact TC.retF (Fin.body (fin2 (.inr rfl) rfl (.tmp rfl) (.tmp rfl) [0] rfl ⟨⟨none, 0, 0⟩, [], rfl, rfl⟩))
    ·refine TC.skip ?_
     refine TC.seq ?_
     refine TC.region ?_
     refine TL.load1 0 (Src.box 0 rfl) Try.isAgg32 rfl rfl rfl rfl rfl ?_
     refine TL.assign rfl rfl (v := SV.v (gs (g1 8))) rfl ?_
     refine TL.assign rfl rfl (v := .int .i64 0) rfl ?_
     refine TL.done ?_
     exact TC.retF (Fin.body (fin2 (.inr rfl) rfl (.tmp rfl) (.tmp rfl) [1] rfl ⟨(gs (g1 8)), ss3, rfl, rfl⟩))

end Go.Proofs.Ytiiljfpbcanphaa.G

/- laws.big, as a pure function. -/
set_option linter.unusedVariables false
namespace Go.Proofs.Ytiiljfpbcanphaa.G
open Go Go.Sx Go.Proofs

def laws_big.f (code1 : List UInt8) : Option Bool := some (decide ((code1.length : Int) > 4096))

def laws_big.R (r : Bool) (v : Value) (L : List Asn) : Prop := v = .bool r ∧ L = []

set_option maxRecDepth 100000 in
set_option maxHeartbeats 4000000 in
theorem laws_big.calls (w : World) (s1 : SV) (code1 : List UInt8) (h1 : Reads Eu (hp w) s1 code1) :
  ∀ r, laws_big.f code1 = some r → Calls Try.prog 39 #[SV.v s1] w (Ret w (laws_big.R r)) := by

 refine calls_T (n := 6) (Γ := [(0, SV.v s1)]) (R := laws_big.R) Try.func39 rfl rfl (Nat.le_of_ble_eq_true rfl) ⟨rfl, trivial⟩ ?_
 unfold laws_big.f
 refine TC.seq ?_
 refine TC.region ?_
 refine TL.assign rfl rfl (v := .bool false) rfl ?_
 refine TL.done ?_
 refine TC.seq ?_
 refine TC.region ?_
 refine TL.move rfl rfl (v := SV.v s1) rfl ?_
 refine TL.len (Rd.old h1) Try.underlying57 rfl rfl rfl ?_
 refine TL.bin .i64 (code1.length : Int) 4096 rfl rfl rfl rfl (v := .bool (decide ((code1.length : Int) > 4096))) rfl ?_
 refine TL.assign rfl rfl (v := .bool (decide ((code1.length : Int) > 4096))) rfl ?_
 refine TL.done ?_
 exact TC.retF (Fin.body (fin1 (.inr rfl) rfl (.tmp rfl) [] rfl ⟨rfl, rfl⟩))

end Go.Proofs.Ytiiljfpbcanphaa.G

/- spec.l01From, as a pure function. -/
set_option linter.unusedVariables false
namespace Go.Proofs.Ytiiljfpbcanphaa.G
open Go Go.Sx Go.Proofs

def spec_l01From.b0 (code1 : List UInt8) : Int × Int → Option (LB (Int × Int)) := fun p => match p with | (s2, i1) => (bif ((decide (i1 < (code1.length : Int))) && (decide (i1 < 4096))) then chk i1 code1.length (some (.next ((IntKind.u64.wrap ((IntKind.u64.wrap ((IntKind.u64.wrap (s2 * 1099511628211)) + (IntKind.u64.wrap ((gt code1 i1).toNat : Int)))) + 83)), (w64 (i1 + 1))))) else some (.brk (s2, i1)))

def spec_l01From.f (code1 : List UInt8) : Option (Int × Int) := (loop1 (spec_l01From.b0 code1) ((IntKind.u64.wrap (12671 + (IntKind.u64.wrap (code1.length : Int)))), 0)).bind (fun p => match p with | (s2, i1) => some (0, s2))

def spec_l01From.R (s1 : SV) (r : Int × Int) (v : Value) (L : List Asn) : Prop := ∃ (b0 : Nat), v = bp b0 0 ∧ L = [box b0 143 [.one (SV.v s1), .one (.int .i64 r.1), .one (.int .u64 r.2)]]

set_option maxRecDepth 100000 in
set_option maxHeartbeats 4000000 in
theorem spec_l01From.calls (w : World) (s1 : SV) (code1 : List UInt8) (h1 : Reads Eu (hp w) s1 code1) :
  ∀ r, spec_l01From.f code1 = some r → Calls Try.prog 115 #[SV.v s1] w (Ret w (spec_l01From.R s1 r)) := by

 refine calls_T (n := 38) (Γ := [(0, SV.v s1)]) (R := (spec_l01From.R s1)) Try.func115 rfl rfl (Nat.le_of_ble_eq_true rfl) ⟨rfl, trivial⟩ ?_
 unfold spec_l01From.f
 refine TC.seq ?_
 refine TC.region ?_
 refine TL.assign rfl rfl (v := .pointer none) rfl ?_
 refine TL.done ?_
 refine TC.seq ?_
 refine TC.region ?_
 refine TL.move rfl rfl (v := SV.v s1) rfl ?_
 refine TL.move rfl rfl (v := SV.v s1) rfl ?_
 refine TL.len (Rd.old h1) Try.underlying57 rfl rfl rfl ?_
 refine TL.conv .i64 .u64 (code1.length : Int) _ rfl rfl rfl Try.underlying3 Try.underlying141 (v := .int .u64 (IntKind.u64.wrap (code1.length : Int))) rfl ?_
 refine TL.bin .u64 12671 (IntKind.u64.wrap (code1.length : Int)) rfl rfl rfl rfl (v := .int .u64 (IntKind.u64.wrap (12671 + (IntKind.u64.wrap (code1.length : Int))))) rfl ?_
 refine TL.buildS (segs0 := [.one (SV.v ⟨none, 0, 0⟩), .one (.int .i64 0), .one (.int .u64 0)]) (segs := [.one (SV.v s1), .one (.int .i64 0), .one (.int .u64 (IntKind.u64.wrap (12671 + (IntKind.u64.wrap (code1.length : Int)))))]) [1, 1, 1] Try.underlying143 ⟨Try.sizeOf57, Try.sizeOf3, Try.sizeOf141, trivial⟩ Try.zeroValue143 rfl [(0, SV.v s1), (2, .int .u64 (IntKind.u64.wrap (12671 + (IntKind.u64.wrap (code1.length : Int)))))] rfl (fun pl hpl => by subst hpl; exact fill_one 0 rfl rfl rfl rfl (fill_one 2 rfl rfl rfl rfl (rfl))) rfl rfl ?_
 refine TL.box [.one (SV.v s1), .one (.int .i64 0), .one (.int .u64 (IntKind.u64.wrap (12671 + (IntKind.u64.wrap (code1.length : Int)))))] rfl rfl rfl rfl fun b_1 => ?_
 refine TL.assign rfl rfl (v := bp b_1 0) rfl ?_
 refine TL.done ?_
 refine TC.seq ?_
 refine TC.seq ?_
 refine TC.region ?_
 refine TL.assign rfl rfl (v := .int .i64 0) rfl ?_
 refine TL.done ?_
 refine TC.loop1 (σ := Int × Int) (γ := Unit) (Γ' := (fun p q => match p, q with | (s2, i1), _ => [(0, SV.v s1), (3, bp b_1 0), (4, .int .i64 i1)])) (L' := (fun p q => match p, q with | (s2, i1), _ => [box b_1 143 [.one (SV.v s1), .one (.int .i64 0), .one (.int .u64 s2)]])) (Γb := (fun p q => match p, q with | (s2, i1), _ => [(0, SV.v s1), (3, bp b_1 0), (4, .int .i64 i1)])) (Lb := (fun p q => match p, q with | (s2, i1), _ => [box b_1 143 [.one (SV.v s1), .one (.int .i64 0), .one (.int .u64 s2)]])) (((IntKind.u64.wrap (12671 + (IntKind.u64.wrap (code1.length : Int)))), 0)) (()) ⟨rfl, rfl, rfl, trivial⟩ [0] rfl ?_ ?_
 ·rintro ⟨s2, i1⟩ _
  refine TC.seq ?_
  refine TC.seq ?_
  refine TC.region ?_
  refine TL.move rfl rfl (v := .int .i64 i1) rfl ?_
  refine TL.move rfl rfl (v := SV.v s1) rfl ?_
  refine TL.len (Rd.old h1) Try.underlying57 rfl rfl rfl ?_
  refine TL.bin .i64 i1 (code1.length : Int) rfl rfl rfl rfl (v := .bool (decide (i1 < (code1.length : Int)))) rfl ?_
  refine TL.move rfl rfl (v := .bool (decide (i1 < (code1.length : Int)))) rfl ?_
  refine TL.cutU 3 [(19, .bool ((decide (i1 < (code1.length : Int))) && (decide (i1 < 4096)))), (0, SV.v s1), (3, bp b_1 0), (4, .int .i64 i1), (12, .int .i64 i1), (13, SV.v s1), (14, .int .i64 (code1.length : Int)), (15, .bool (decide (i1 < (code1.length : Int)))), (16, .bool (decide (i1 < (code1.length : Int))))] [box b_1 143 [.one (SV.v s1), .one (.int .i64 0), .one (.int .u64 s2)]] ?_ ?_
  ·refine TL.cases (t := 16) (b := (decide (i1 < (code1.length : Int)))) rfl (fun c1 => ?_) (fun c2 => ?_)
   ·refine TL.move rfl rfl (v := .int .i64 i1) rfl ?_
    refine TL.bin .i64 i1 4096 rfl rfl rfl rfl (v := .bool (decide (i1 < 4096))) rfl ?_
    refine TL.pick rfl rfl (b := true) rfl (r := .bool (decide (i1 < 4096))) rfl ?_
    refine TL.done ?_
    exact TC.nrm () () ⟨(by rw [c1]; rfl), rfl, rfl, rfl, rfl, rfl, rfl, rfl, (by rw [c1]; rfl), trivial⟩ [0] (by kernel_rfl)
   ·refine TL.skip rfl rfl (by decide) ?_
    refine TL.skip rfl rfl (by decide) ?_
    refine TL.pick rfl rfl (b := false) rfl (r := .bool false) rfl ?_
    refine TL.done ?_
    exact TC.nrm () () ⟨(by rw [c2]; rfl), rfl, rfl, rfl, rfl, rfl, rfl, rfl, (by rw [c2]; rfl), trivial⟩ [0] (by kernel_rfl)
  ·refine TL.done ?_
   refine TC.cond (b := ((decide (i1 < (code1.length : Int))) && (decide (i1 < 4096)))) rfl (fun c3 => ?_) (fun c4 => ?_)
   ·refine TC.skip ?_
    refine TC.seq ?_
    refine TC.block (NoEx.loop1 rfl) ?_
    refine TC.wk (Γ' := [(0, SV.v s1), (3, bp b_1 0), (4, .int .i64 i1), (12, .int .i64 i1), (13, SV.v s1), (14, .int .i64 (code1.length : Int)), (15, .bool (decide (i1 < (code1.length : Int)))), (16, .bool (decide (i1 < (code1.length : Int)))), (19, .bool ((decide (i1 < (code1.length : Int))) && (decide (i1 < 4096))))]) ⟨rfl, rfl, rfl, rfl, rfl, rfl, rfl, rfl, rfl, trivial⟩ ?_
    refine TC.chk fun h2 => ?_
    refine TC.drawG [(0, SV.v s1), (3, bp b_1 0), (4, .int .i64 i1), (12, .int .i64 i1), (13, SV.v s1), (14, .int .i64 (code1.length : Int)), (15, .bool (decide (i1 < (code1.length : Int)))), (16, .bool (decide (i1 < (code1.length : Int)))), (19, .bool ((decide (i1 < (code1.length : Int))) && (decide (i1 < 4096))))] [] ⟨rfl, rfl, rfl, rfl, rfl, rfl, rfl, rfl, rfl, trivial⟩ trivial (fun l_ g1 => [(bif nb l_ 15 then box b_1 143 [.one (SV.v s1), .one (.int .i64 0), .one (.int .u64 (IntKind.u64.wrap ((IntKind.u64.wrap ((IntKind.u64.wrap (s2 * 1099511628211)) + (IntKind.u64.wrap ((gt code1 i1).toNat : Int)))) + 83)))] else box b_1 143 [.one (SV.v s1), .one (.int .i64 0), .one (.int .u64 s2)])]) (fun g1 => [bp b_1 0, bp b_1 0, bp b_1 0, bp b_1 2, .int .u64 s2, .int .u64 (IntKind.u64.wrap (s2 * 1099511628211)), SV.v s1, .int .i64 i1, ep s1 i1.toNat, u8v (gt code1 i1), .int .u64 (IntKind.u64.wrap ((gt code1 i1).toNat : Int)), .int .u64 (IntKind.u64.wrap ((IntKind.u64.wrap (s2 * 1099511628211)) + (IntKind.u64.wrap ((gt code1 i1).toNat : Int)))), .int .u64 (IntKind.u64.wrap ((IntKind.u64.wrap ((IntKind.u64.wrap (s2 * 1099511628211)) + (IntKind.u64.wrap ((gt code1 i1).toNat : Int)))) + 83)), bp b_1 0, bp b_1 2, undef]) [[], [], [1], [1, 2], [1, 2, 3], [1, 2, 3, 4], [], [], [6, 7], [6, 7, 8], [6, 7, 8, 9], [1, 2, 3, 4, 5, 6, 7, 8, 9, 10], [1, 2, 3, 4, 5, 6, 7, 8, 9, 10, 11], [0, 1, 2, 3, 4, 5, 6, 7, 8, 9, 10, 11, 12], [0, 1, 2, 3, 4, 5, 6, 7, 8, 9, 10, 11, 12, 13], [0, 1, 2, 3, 4, 5, 6, 7, 8, 9, 10, 11, 12, 13, 14]] [[some false, none, none, none, none, none, none, none, none, none, none, none, none, some false, some false, some false], [none, some false, some false, some false, some false, some false, none, none, none, none, none, some false, some false, some false, some false, some false], [none, some true, some false, some false, some false, some false, none, none, none, none, none, some false, some false, some false, some false, some false], [none, some true, some true, some false, some false, some false, none, none, none, none, none, some false, some false, some false, some false, some false], [none, some true, some true, some true, some false, some false, none, none, none, none, none, some false, some false, some false, some false, some false], [none, some true, some true, some true, some true, some false, none, none, none, none, none, some false, some false, some false, some false, some false], [none, none, none, none, none, none, some false, none, some false, some false, some false, some false, some false, some false, some false, some false], [none, none, none, none, none, none, none, some false, some false, some false, some false, some false, some false, some false, some false, some false], [none, none, none, none, none, none, some true, some true, some false, some false, some false, some false, some false, some false, some false, some false], [none, none, none, none, none, none, some true, some true, some true, some false, some false, some false, some false, some false, some false, some false], [none, none, none, none, none, none, some true, some true, some true, some true, some false, some false, some false, some false, some false, some false], [none, some true, some true, some true, some true, some true, some true, some true, some true, some true, some true, some false, some false, some false, some false, some false], [none, some true, some true, some true, some true, some true, some true, some true, some true, some true, some true, some true, some false, some false, some false, some false], [some true, some true, some true, some true, some true, some true, some true, some true, some true, some true, some true, some true, some true, some false, some false, some false], [some true, some true, some true, some true, some true, some true, some true, some true, some true, some true, some true, some true, some true, some true, some false, some false], [some true, some true, some true, some true, some true, some true, some true, some true, some true, some true, some true, some true, some true, some true, some true, some false]] (by kernel_rfl) (fun _ => rfl) rfl rfl rfl rfl rfl (fun _ _ => ⟨⟨⟨⟨⟨⟨⟨⟨⟨⟨⟨⟨⟨⟨⟨⟨trivial, rfl⟩, rfl⟩, rfl⟩, rfl⟩, rfl⟩, rfl⟩, rfl⟩, rfl⟩, rfl⟩, rfl⟩, rfl⟩, rfl⟩, rfl⟩, rfl⟩, rfl⟩, rfl⟩) 0 [0] (fun _ => by kernel_rfl) ?_ ?_
    ·refine ⟨rfl, ?_, rfl, ?_, rfl, ?_, rfl, ?_, rfl, ?_, rfl, ?_, rfl, ?_, rfl, ?_, rfl, ?_, rfl, ?_, rfl, ?_, rfl, ?_, rfl, ?_, rfl, ?_, rfl, ?_, rfl, ?_, trivial⟩
     ·intro b1_ b2_ b3_ b4_ b5_ b6_ b7_ b8_ b9_ b10_ b11_ b12_ g1
      refine TL.move rfl rfl (v := bp b_1 0) rfl ?_
      refine TL.done ?_
      exact TC.nrm () [] ⟨rfl, trivial⟩ [0] (by kernel_rfl)
     ·intro b0_ b6_ b7_ b8_ b9_ b10_ g1
      refine TL.move rfl rfl (v := bp b_1 0) rfl ?_
      refine TL.done ?_
      exact TC.nrm () [] ⟨rfl, trivial⟩ [0] (by kernel_rfl)
     ·intro b0_ b6_ b7_ b8_ b9_ b10_ g1
      refine TL.nilCheck rfl rfl rfl ?_
      refine TL.done ?_
      exact TC.nrm () [] ⟨rfl, trivial⟩ [0] (by kernel_rfl)
     ·intro b0_ b6_ b7_ b8_ b9_ b10_ g1
      refine TL.asL [box b_1 143 [.one (SV.v s1), .one (.int .i64 0), .one (.int .u64 s2)]] (by kernel_rfl) ?_
      refine TL.fa Try.underlying143 rfl Try.sizeOf141 rfl 2 rfl rfl rfl rfl ?_
      refine TL.done ?_
      exact TC.nrm () [] ⟨rfl, trivial⟩ [0] (by kernel_rfl)
     ·intro b0_ b6_ b7_ b8_ b9_ b10_ g1
      refine TL.asL [box b_1 143 [.one (SV.v s1), .one (.int .i64 0), .one (.int .u64 s2)]] (by kernel_rfl) ?_
      refine TL.load1 2 (Src.box 0 rfl) Try.isAgg141 rfl rfl rfl rfl rfl ?_
      refine TL.done ?_
      exact TC.nrm () [] ⟨rfl, trivial⟩ [0] (by kernel_rfl)
     ·intro b0_ b6_ b7_ b8_ b9_ b10_ g1
      refine TL.bin .u64 s2 1099511628211 rfl rfl rfl rfl (v := .int .u64 (IntKind.u64.wrap (s2 * 1099511628211))) rfl ?_
      refine TL.done ?_
      exact TC.nrm () [] ⟨rfl, trivial⟩ [0] (by kernel_rfl)
     ·intro b0_ b1_ b2_ b3_ b4_ b5_ b7_ g1
      refine TL.move rfl rfl (v := SV.v s1) rfl ?_
      refine TL.done ?_
      exact TC.nrm () [] ⟨rfl, trivial⟩ [0] (by kernel_rfl)
     ·intro b0_ b1_ b2_ b3_ b4_ b5_ b6_ g1
      refine TL.move rfl rfl (v := .int .i64 i1) rfl ?_
      refine TL.done ?_
      exact TC.nrm () [] ⟨rfl, trivial⟩ [0] (by kernel_rfl)
     ·intro b0_ b1_ b2_ b3_ b4_ b5_ g1
      refine TL.asL [box b_1 143 [.one (SV.v s1), .one (.int .i64 0), .one (.int .u64 s2)]] (by kernel_rfl) ?_
      refine TL.ixs i1 i1.toNat (Rd.old h1) h2 Try.underlying57 Try.sizeOf5 rfl rfl rfl rfl (by omega) ?_
      refine TL.done ?_
      exact TC.nrm () [] ⟨rfl, trivial⟩ [0] (by kernel_rfl)
     ·intro b0_ b1_ b2_ b3_ b4_ b5_ g1
      refine TL.asL [box b_1 143 [.one (SV.v s1), .one (.int .i64 0), .one (.int .u64 s2)]] (by kernel_rfl) ?_
      refine TL.loadE (Rd.old h1) Try.isAgg5 i1.toNat 0 (gt_spec h2) (v := u8v (gt code1 i1)) rfl (by simp only [show Eu.sz = 1 from rfl] <;> omega) rfl rfl rfl ?_
      refine TL.done ?_
      exact TC.nrm () [] ⟨rfl, trivial⟩ [0] (by kernel_rfl)
     ·intro b0_ b1_ b2_ b3_ b4_ b5_ g1
      refine TL.conv .u8 .u64 ((gt code1 i1).toNat : Int) _ rfl rfl rfl Try.underlying5 Try.underlying141 (v := .int .u64 (IntKind.u64.wrap ((gt code1 i1).toNat : Int))) rfl ?_
      refine TL.done ?_
      exact TC.nrm () [] ⟨rfl, trivial⟩ [0] (by kernel_rfl)
     ·intro b0_ g1
      refine TL.bin .u64 (IntKind.u64.wrap (s2 * 1099511628211)) (IntKind.u64.wrap ((gt code1 i1).toNat : Int)) rfl rfl rfl rfl (v := .int .u64 (IntKind.u64.wrap ((IntKind.u64.wrap (s2 * 1099511628211)) + (IntKind.u64.wrap ((gt code1 i1).toNat : Int))))) rfl ?_
      refine TL.done ?_
      exact TC.nrm () [] ⟨rfl, trivial⟩ [0] (by kernel_rfl)
     ·intro b0_ g1
      refine TL.bin .u64 (IntKind.u64.wrap ((IntKind.u64.wrap (s2 * 1099511628211)) + (IntKind.u64.wrap ((gt code1 i1).toNat : Int)))) 83 rfl rfl rfl rfl (v := .int .u64 (IntKind.u64.wrap ((IntKind.u64.wrap ((IntKind.u64.wrap (s2 * 1099511628211)) + (IntKind.u64.wrap ((gt code1 i1).toNat : Int)))) + 83))) rfl ?_
      refine TL.done ?_
      exact TC.nrm () [] ⟨rfl, trivial⟩ [0] (by kernel_rfl)
     ·intro g1
      refine TL.nilCheck rfl rfl rfl ?_
      refine TL.done ?_
      exact TC.nrm () [] ⟨rfl, trivial⟩ [0] (by kernel_rfl)
     ·intro g1
      refine TL.asL [box b_1 143 [.one (SV.v s1), .one (.int .i64 0), .one (.int .u64 s2)]] (by kernel_rfl) ?_
      refine TL.fa Try.underlying143 rfl Try.sizeOf141 rfl 2 rfl rfl rfl rfl ?_
      refine TL.done ?_
      exact TC.nrm () [] ⟨rfl, trivial⟩ [0] (by kernel_rfl)
     ·intro g1
      refine TL.asL [box b_1 143 [.one (SV.v s1), .one (.int .i64 0), .one (.int .u64 s2)]] (by kernel_rfl) ?_
      refine TL.st1 0 2 rfl Try.sizeOf141 rfl rfl rfl rfl rfl rfl rfl ?_
      refine TL.done ?_
      exact TC.nrm () [] trivial [0] (by kernel_rfl)
    ·intro g1
     refine TC.asL [box b_1 143 [.one (SV.v s1), .one (.int .i64 0), .one (.int .u64 (IntKind.u64.wrap ((IntKind.u64.wrap ((IntKind.u64.wrap (s2 * 1099511628211)) + (IntKind.u64.wrap ((gt code1 i1).toNat : Int)))) + 83)))]] (by kernel_rfl) ?_
     refine TC.region ?_
     refine TL.move rfl rfl (v := .int .i64 i1) rfl ?_
     refine TL.bin .i64 i1 1 rfl rfl rfl rfl (v := .int .i64 (w64 (i1 + 1))) rfl ?_
     refine TL.assign rfl rfl (v := .int .i64 (w64 (i1 + 1))) rfl ?_
     refine TL.done ?_
     exact TC.next1 (((IntKind.u64.wrap ((IntKind.u64.wrap ((IntKind.u64.wrap (s2 * 1099511628211)) + (IntKind.u64.wrap ((gt code1 i1).toNat : Int)))) + 83)), (w64 (i1 + 1)))) (()) ⟨rfl, rfl, rfl, trivial⟩ [0] rfl
   ·exact TC.brk1 ((s2, i1)) (()) ⟨rfl, rfl, rfl, trivial⟩ [0] rfl
 ·rintro ⟨s2, i1⟩ _
  refine TC.seq ?_
  refine TC.region ?_
  refine TL.move rfl rfl (v := bp b_1 0) rfl ?_
  refine TL.assign rfl rfl (v := bp b_1 0) rfl ?_
  refine TL.done ?_
  exact TC.retF (Fin.body (fin1 (.inr rfl) rfl (.tmp rfl) [0] rfl ⟨b_1, rfl, rfl⟩))

end Go.Proofs.Ytiiljfpbcanphaa.G
