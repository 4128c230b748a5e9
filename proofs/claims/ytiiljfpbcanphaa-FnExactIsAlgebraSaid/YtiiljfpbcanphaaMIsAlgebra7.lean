/- Functions of the program, as pure functions. -/
import Derived.Test.YtiiljfpbcanphaaMIsAlgebra6
import Derived.Test.YtiiljfpbcanphaaProg
/- impl.size, as a pure function. -/
set_option linter.unusedVariables false
namespace Go.Proofs.Ytiiljfpbcanphaa.G
open Go Go.Sx Go.Proofs

def impl_size.f (k_1 : Int) : Option Int := some (if (w64 (0 - k_1)) > k_1 then (w64 (0 - k_1)) else k_1)

def impl_size.R (r : Int) (v : Value) (L : List Asn) : Prop := v = .int .i64 r ∧ L = []

set_option maxRecDepth 100000 in
set_option maxHeartbeats 4000000 in
theorem impl_size.calls (w : World) (k_1 : Int) :
    ∀ r, impl_size.f k_1 = some r → Calls Try.prog 167 #[.int .i64 k_1] w (Ret w (impl_size.R r)) := by

  refine calls_T (n := 7) (Γ := [(0, .int .i64 k_1)]) (R := impl_size.R) Try.func167 rfl rfl (Nat.le_of_ble_eq_true rfl) ⟨rfl, trivial⟩ ?_
  unfold impl_size.f
  refine TC.seq ?_
  refine TC.region ?_
  refine TL.assign rfl rfl (v := .int .i64 0) rfl ?_
  refine TL.done ?_
  refine TC.seq ?_
  refine TC.region ?_
  refine TL.move rfl rfl (v := .int .i64 k_1) rfl ?_
  refine TL.move rfl rfl (v := .int .i64 k_1) rfl ?_
  refine TL.neg .i64 k_1 rfl rfl rfl ?_
  refine TL.max2 rfl rfl rfl rfl ?_
  refine TL.assign rfl rfl (v := .int .i64 (if (w64 (0 - k_1)) > k_1 then (w64 (0 - k_1)) else k_1)) rfl ?_
  refine TL.done ?_
  exact TC.retF (Fin.body (fin1 (.inr rfl) rfl (.tmp rfl) [] rfl ⟨rfl, rfl⟩))

end Go.Proofs.Ytiiljfpbcanphaa.G

/- impl.sidesOfEdges, as a pure function. -/
set_option linter.unusedVariables false
namespace Go.Proofs.Ytiiljfpbcanphaa.G
open Go Go.Sx Go.Proofs

def impl_sidesOfEdges.b0 (s1 : List (List Int)) (x1 : Int) : (List (List (Int × Int))) × Int → Option (LB ((List (List (Int × Int))) × Int)) := fun p => match p with | (out2, x2) => (bif (decide (x2 < ((gt s1 x1).length : Int))) then chk x2 ((gt s1 x1).length) ((G.impl_size.f (gt (gt s1 x1) x2)).bind (fun r_2 => chk r_2 out2.length (small ((gt out2 r_2).length + ([(x1, x2)] : List (Int × Int)).length) (some (.next ((out2.set r_2.toNat ((gt out2 r_2) ++ ([(x1, x2)] : List (Int × Int)))), (w64 (x2 + 1)))))))) else some (.brk (out2, x2)))

def impl_sidesOfEdges.b1 (s1 : List (List Int)) : (List (List (Int × Int))) × Int → Option (LB ((List (List (Int × Int))) × Int)) := fun p => match p with | (out1, x1) => (bif (decide (x1 < (s1.length : Int))) then chk x1 s1.length ((loop1 (impl_sidesOfEdges.b0 s1 x1) (out1, 0)).bind (fun p => match p with | (out2, x2) => some (.next (out2, (w64 (x1 + 1)))))) else some (.brk (out1, x1)))

def impl_sidesOfEdges.f (s1 : List (List Int)) : Option (List (List (Int × Int))) := (G.impl_edgesOf.f s1).bind (fun r_1 => grd (decide (0 ≤ (w64 (r_1 + 1)))) (small (w64 (r_1 + 1)).toNat ((loop1 (impl_sidesOfEdges.b1 s1) ((List.replicate (w64 (r_1 + 1)).toNat ([] : List (Int × Int))), 0)).bind (fun p => match p with | (out1, x1) => some out1))))

def impl_sidesOfEdges.R (r : List (List (Int × Int))) (v : Value) (L : List Asn) : Prop := ∃ (s0 : SV) (ss0 : List SV), v = SV.v s0 ∧ L = [mat Eii 108 104 s0 ss0 r]

set_option maxRecDepth 100000 in
set_option maxHeartbeats 4000000 in
theorem impl_sidesOfEdges.calls (w : World) (s2 : SV) (ss1 : List SV) (s1 : List (List Int)) (h1 : ReadsM Ei (hp w) s2 ss1 s1) :
    ∀ r, impl_sidesOfEdges.f s1 = some r → Calls Try.prog 119 #[SV.v s2] w (Ret w (impl_sidesOfEdges.R r)) := by

  refine calls_T (n := 43) (Γ := [(0, SV.v s2)]) (R := impl_sidesOfEdges.R) Try.func119 rfl rfl (Nat.le_of_ble_eq_true rfl) ⟨rfl, trivial⟩ ?_
  unfold impl_sidesOfEdges.f
  refine TC.seq ?_
  refine TC.region ?_
  refine TL.assign rfl rfl (v := SV.v ⟨none, 0, 0⟩) rfl ?_
  refine TL.done ?_
  refine TC.seq ?_
  refine TC.region ?_
  refine TL.move rfl rfl (v := SV.v s2) rfl ?_
  refine TL.call (R := G.impl_edgesOf.R) Try.call118 rfl rfl rfl (fun w hS => G.impl_edgesOf.calls w s2 ss1 s1 ((RdM.old h1) w hS)) ?_
  rintro r_1 _ _ ⟨rfl, rfl⟩
  refine TL.bin .i64 r_1 1 rfl rfl rfl rfl (v := .int .i64 (w64 (r_1 + 1))) rfl ?_
  refine TL.grd fun h3 => ?_
  refine TL.small fun h2 => ?_
  refine TL.mkslice Ev (⟨none, 0, 0⟩ : SV) (w64 (r_1 + 1)) Try.underlying105 (info_of Try.type104) (zv := (Try.t104.zero.getD (.bool false))) rfl rfl rfl (by simp [Ev]) (by decide) (by simpa using h3) (by omega) rfl rfl rfl rfl fun s3 => ?_
  refine TL.rowsRep Eii 108 ((w64 (r_1 + 1)).toNat) ?_
  refine TL.matmk 1 0 rfl rfl ?_
  refine TL.drop 1 rfl ?_
  refine TL.asL [mat Eii 108 104 s3 (List.replicate (w64 (r_1 + 1)).toNat (⟨none, 0, 0⟩ : SV)) (List.replicate (w64 (r_1 + 1)).toNat ([] : List (Int × Int)))] rfl ?_
  refine TL.assign rfl rfl (v := SV.v s3) rfl ?_
  refine TL.done ?_
  refine TC.seq ?_
  refine TC.seq ?_
  refine TC.region ?_
  refine TL.move rfl rfl (v := SV.v s2) rfl ?_
  refine TL.lenM (RdM.old h1) Try.underlying32 rfl rfl rfl ?_
  refine TL.move rfl rfl (v := .int .i64 0) rfl ?_
  refine TL.done ?_
  refine TC.loop1 (σ := (List (List (Int × Int))) × Int) (γ := (List SV)) (Γ' := (fun p q => match p, q with | (out1, x1), ss2 => [(3, SV.v s3), (12, SV.v s2), (13, .int .i64 (s1.length : Int)), (14, .int .i64 x1)])) (L' := (fun p q => match p, q with | (out1, x1), ss2 => [mat Eii 108 104 s3 ss2 out1])) (Γb := (fun p q => match p, q with | (out1, x1), ss2 => [(3, SV.v s3), (12, SV.v s2), (13, .int .i64 (s1.length : Int)), (14, .int .i64 x1)])) (Lb := (fun p q => match p, q with | (out1, x1), ss2 => [mat Eii 108 104 s3 ss2 out1])) (((List.replicate (w64 (r_1 + 1)).toNat ([] : List (Int × Int))), 0)) ((List.replicate (w64 (r_1 + 1)).toNat (⟨none, 0, 0⟩ : SV))) ⟨rfl, rfl, rfl, rfl, trivial⟩ [0] rfl ?_ ?_
  · rintro ⟨out1, x1⟩ ss2
    refine TC.seq ?_
    refine TC.region ?_
    refine TL.bin .i64 x1 (s1.length : Int) rfl rfl rfl rfl (v := .bool (decide (x1 < (s1.length : Int)))) rfl ?_
    refine TL.done ?_
    refine TC.seq ?_
    refine TC.cond (b := (decide (x1 < (s1.length : Int)))) rfl (fun c1 => ?_) (fun c2 => ?_)
    · refine TC.skip ?_
      refine TC.seq ?_
      refine TC.block (NoEx.loop1 rfl) ?_
      refine TC.seq ?_
      refine TC.region ?_
      refine TL.move rfl rfl (v := .int .i64 x1) rfl ?_
      refine TL.chk fun h4 => ?_
      refine TL.ixsM x1 x1.toNat (RdM.old h1) h4 Try.underlying32 Try.sizeOf22 rfl rfl rfl rfl (by omega) ?_
      refine TL.loadM2 (RdM.old h1) Try.isAgg22 x1 h4 (by omega) rfl rfl rfl ?_
      refine TL.assign rfl rfl (v := .int .i64 x1) rfl ?_
      refine TL.assign rfl rfl (v := SV.v (gt ss1 x1)) rfl ?_
      refine TL.done ?_
      refine TC.seq ?_
      refine TC.region ?_
      refine TL.move rfl rfl (v := SV.v (gt ss1 x1)) rfl ?_
      refine TL.len (RdM.inn (RdM.old h1) h4) Try.underlying22 rfl rfl rfl ?_
      refine TL.move rfl rfl (v := .int .i64 0) rfl ?_
      refine TL.done ?_
      refine TC.loop1 (σ := (List (List (Int × Int))) × Int) (γ := (List SV)) (Γ' := (fun p q => match p, q with | (out2, x2), ss3 => [(3, SV.v s3), (4, .int .i64 x1), (12, SV.v s2), (13, .int .i64 (s1.length : Int)), (14, .int .i64 x1), (19, SV.v (gt ss1 x1)), (20, .int .i64 ((gt s1 x1).length : Int)), (21, .int .i64 x2)])) (L' := (fun p q => match p, q with | (out2, x2), ss3 => [mat Eii 108 104 s3 ss3 out2])) (Γb := (fun p q => match p, q with | (out2, x2), ss3 => [(3, SV.v s3), (4, .int .i64 x1), (12, SV.v s2), (13, .int .i64 (s1.length : Int)), (14, .int .i64 x1), (19, SV.v (gt ss1 x1)), (20, .int .i64 ((gt s1 x1).length : Int)), (21, .int .i64 x2)])) (Lb := (fun p q => match p, q with | (out2, x2), ss3 => [mat Eii 108 104 s3 ss3 out2])) ((out1, 0)) (ss2) ⟨rfl, rfl, rfl, rfl, rfl, rfl, rfl, rfl, trivial⟩ [0] rfl ?_ ?_
      · rintro ⟨out2, x2⟩ ss3
        refine TC.seq ?_
        refine TC.region ?_
        refine TL.bin .i64 x2 ((gt s1 x1).length : Int) rfl rfl rfl rfl (v := .bool (decide (x2 < ((gt s1 x1).length : Int)))) rfl ?_
        refine TL.done ?_
        refine TC.seq ?_
        refine TC.cond (b := (decide (x2 < ((gt s1 x1).length : Int)))) rfl (fun c3 => ?_) (fun c4 => ?_)
        · refine TC.skip ?_
          refine TC.seq ?_
          refine TC.block (NoEx.loop1 rfl) ?_
          refine TC.seq ?_
          refine TC.region ?_
          refine TL.move rfl rfl (v := .int .i64 x2) rfl ?_
          refine TL.chk fun h5 => ?_
          refine TL.ixs x2 x2.toNat (RdM.inn (RdM.old h1) h4) h5 Try.underlying22 Try.sizeOf2 rfl rfl rfl rfl (by omega) ?_
          refine TL.loadE (RdM.inn (RdM.old h1) h4) Try.isAgg2 x2.toNat 0 (gt_spec h5) (v := .int .i64 (gt (gt s1 x1) x2)) rfl (by simp only [show Ei.sz = 1 from rfl] <;> omega) rfl rfl rfl ?_
          refine TL.assign rfl rfl (v := .int .i64 x2) rfl ?_
          refine TL.assign rfl rfl (v := .int .i64 (gt (gt s1 x1) x2)) rfl ?_
          refine TL.done ?_
          refine TC.region ?_
          refine TL.move rfl rfl (v := SV.v s3) rfl ?_
          refine TL.move rfl rfl (v := .int .i64 (gt (gt s1 x1) x2)) rfl ?_
          refine TL.bindE ?_
          rintro r_2 hr1
          refine TL.callH (R := G.impl_size.R) hr1 Try.call167 rfl rfl rfl (fun w hS => G.impl_size.calls w (gt (gt s1 x1) x2)) ?_
          rintro _ _ ⟨rfl, rfl⟩
          refine TL.move rfl rfl (v := SV.v s3) rfl ?_
          refine TL.move rfl rfl (v := .int .i64 (gt (gt s1 x1) x2)) rfl ?_
          refine TL.callH (R := G.impl_size.R) hr1 Try.call167 rfl rfl rfl (fun w hS => G.impl_size.calls w (gt (gt s1 x1) x2)) ?_
          rintro _ _ ⟨rfl, rfl⟩
          refine TL.chk fun h6 => ?_
          refine TL.ixsM r_2 r_2.toNat (RdM.mat 0 rfl) h6 Try.underlying105 Try.sizeOf104 rfl rfl rfl rfl (by omega) ?_
          refine TL.loadM2 (RdM.mat 0 rfl) Try.isAgg104 r_2 h6 (by omega) rfl rfl rfl ?_
          refine TL.move rfl rfl (v := .int .i64 x1) rfl ?_
          refine TL.move rfl rfl (v := .int .i64 x2) rfl ?_
          refine TL.buildS (segs0 := [.one (.int .i64 0), .one (.int .i64 0)]) (segs := [.one (.int .i64 x1), .one (.int .i64 x2)]) [1, 1] Try.underlying108 ⟨Try.sizeOf3, Try.sizeOf3, trivial⟩ Try.zeroValue108 rfl [(0, .int .i64 x1), (1, .int .i64 x2)] rfl (fun pl hpl => by subst hpl; exact fill_one 0 rfl rfl rfl rfl (fill_one 1 rfl rfl rfl rfl (rfl))) rfl rfl ?_
          refine TL.blit Eii ([(x1, x2)] : List (Int × Int)) Try.underlying104 Try.sizeOf108 Try.zeroValue108 rfl rfl rfl [(0, sval [.one (.int .i64 x1), .one (.int .i64 x2)])] rfl ⟨rfl, rfl, trivial⟩ rfl rfl fun s4 => ?_
          refine TL.matopen 1 r_2 rfl h6 ?_
          refine TL.small fun h7 => ?_
          refine TL.append 0 rfl (Rd.row 1 rfl) Try.underlying104 (info_of Try.type108) (zv := (Try.t108.zero.getD (.bool false))) rfl rfl rfl (by decide) h7 rfl rfl rfl rfl fun s5 => ?_
          refine TL.ixsX r_2 r_2.toNat 2 rfl h6 Try.underlying105 Try.sizeOf104 rfl rfl rfl rfl (by omega) ?_
          refine TL.matXlen 2 rfl fun h8 => ?_
          refine TL.matXcut 2 rfl ?_
          refine TL.stE 0 (r_2.toNat) s5 (v := SV.v s5) rfl Try.sizeOf104 rfl rfl rfl (by have h_ := h6; have l_ := h8; (try simp only [List.length_set] at h_ l_ ⊢); omega) (by simp only [show Ev.sz = 1 from rfl] <;> omega) rfl rfl rfl ?_
          refine TL.rowsPut 1 3 rfl rfl ?_
          refine TL.matmk 0 3 rfl rfl ?_
          refine TL.drop 0 rfl ?_
          refine TL.asL [emp, row Eii 108 s4 ([(x1, x2)] : List (Int × Int)), mat Eii 108 104 s3 (ss3.set r_2.toNat s5) (out2.set r_2.toNat ((gt out2 r_2) ++ ([(x1, x2)] : List (Int × Int))))] (by kernel_rfl) ?_
          refine TL.done ?_
          refine TC.region ?_
          refine TL.bin .i64 x2 1 rfl rfl rfl rfl (v := .int .i64 (w64 (x2 + 1))) rfl ?_
          refine TL.move rfl rfl (v := .int .i64 (w64 (x2 + 1))) rfl ?_
          refine TL.done ?_
          exact TC.next1 (((out2.set r_2.toNat ((gt out2 r_2) ++ ([(x1, x2)] : List (Int × Int)))), (w64 (x2 + 1)))) ((ss3.set r_2.toNat s5)) ⟨rfl, rfl, rfl, rfl, rfl, rfl, rfl, rfl, trivial⟩ [2] rfl
        · exact TC.brk1 ((out2, x2)) (ss3) ⟨rfl, rfl, rfl, rfl, rfl, rfl, rfl, rfl, trivial⟩ [0] rfl
      · rintro ⟨out2, x2⟩ ss3
        refine TC.region ?_
        refine TL.bin .i64 x1 1 rfl rfl rfl rfl (v := .int .i64 (w64 (x1 + 1))) rfl ?_
        refine TL.move rfl rfl (v := .int .i64 (w64 (x1 + 1))) rfl ?_
        refine TL.done ?_
        exact TC.next1 ((out2, (w64 (x1 + 1)))) (ss3) ⟨rfl, rfl, rfl, rfl, trivial⟩ [0] rfl
    · exact TC.brk1 ((out1, x1)) (ss2) ⟨rfl, rfl, rfl, rfl, trivial⟩ [0] rfl
  · rintro ⟨out1, x1⟩ ss2
    refine TC.seq ?_
    refine TC.region ?_
    refine TL.move rfl rfl (v := SV.v s3) rfl ?_
    refine TL.assign rfl rfl (v := SV.v s3) rfl ?_
    refine TL.done ?_
    exact TC.retF (Fin.body (fin1 (.inr rfl) rfl (.tmp rfl) [0] rfl ⟨s3, ss2, rfl, rfl⟩))

end Go.Proofs.Ytiiljfpbcanphaa.G

/- impl.IsSurface$1, as a pure function. -/
set_option linter.unusedVariables false
namespace Go.Proofs.Ytiiljfpbcanphaa.G
open Go Go.Sx Go.Proofs

def impl_IsSurface_1.f (k_1 : Int) (c1 : List (List Int)) : Option Bool := (bif (k_1 == 0) then some true else (G.impl_edgesOf.f c1).bind (fun r_1 => (G.impl_in.f k_1 (w64 (0 - r_1)) r_1).bind (fun r_3 => some (!r_3))))

def impl_IsSurface_1.R (r : Bool) (v : Value) (L : List Asn) : Prop := v = .bool r ∧ L = []

set_option maxRecDepth 100000 in
set_option maxHeartbeats 4000000 in
theorem impl_IsSurface_1.calls (w : World) (k_1 : Int) (b_1 : Nat) (s1 : SV) (ss1 : List SV) (c1 : List (List Int)) (h2 : At (hp w) b_1 [.one (SV.v s1)]) (h1 : ReadsM Ei (hp w) s1 ss1 c1) :
    ∀ r, impl_IsSurface_1.f k_1 c1 = some r → Calls Try.prog 124 #[.int .i64 k_1, bp b_1 0] w (Ret w (impl_IsSurface_1.R r)) := by

  refine calls_T (n := 16) (Γ := [(0, .int .i64 k_1), (1, bp b_1 0)]) (R := impl_IsSurface_1.R) Try.func124 rfl rfl (Nat.le_of_ble_eq_true rfl) ⟨rfl, rfl, trivial⟩ ?_
  unfold impl_IsSurface_1.f
  refine TC.seq ?_
  refine TC.region ?_
  refine TL.assign rfl rfl (v := .bool false) rfl ?_
  refine TL.done ?_
  refine TC.seq ?_
  refine TC.ifB (k_1 == 0) (fun c2 => ?_) (fun c2 => ?_)
  · refine TC.wk (Γ' := [(0, .int .i64 k_1), (1, bp b_1 0)]) ⟨rfl, rfl, trivial⟩ ?_
    refine TC.drawG [(0, .int .i64 k_1), (1, bp b_1 0)] [] ⟨rfl, rfl, trivial⟩ trivial (fun l_ g2 => []) (fun g2 => [.int .i64 k_1, .bool true, .bool true, undef, undef, undef, undef, undef, undef, undef, undef, .bool true, .bool true]) [[], [0], [0, 1], [0, 1, 2], [0, 1, 2], [0, 1, 2, 4], [0, 1, 2, 4, 5], [0, 1, 2], [0, 1, 2, 4, 5, 7], [0, 1, 2, 3, 4, 5, 6, 7, 8], [0, 1, 2, 3, 4, 5, 6, 7, 8, 9], [0, 1, 2, 3, 4, 5, 6, 7, 8, 9, 10], [0, 1, 2, 3, 4, 5, 6, 7, 8, 9, 10, 11]] [[some false, some false, some false, some false, some false, some false, some false, some false, some false, some false, some false, some false, some false], [some true, some false, some false, some false, some false, some false, some false, some false, some false, some false, some false, some false, some false], [some true, some true, some false, some false, some false, some false, some false, some false, some false, some false, some false, some false, some false], [some true, some true, some true, some false, none, none, none, none, none, some false, some false, some false, some false], [some true, some true, some true, none, some false, some false, some false, none, some false, some false, some false, some false, some false], [some true, some true, some true, none, some true, some false, some false, none, some false, some false, some false, some false, some false], [some true, some true, some true, none, some true, some true, some false, none, none, some false, some false, some false, some false], [some true, some true, some true, none, none, none, none, some false, some false, some false, some false, some false, some false], [some true, some true, some true, none, some true, some true, none, some true, some false, some false, some false, some false, some false], [some true, some true, some true, some true, some true, some true, some true, some true, some true, some false, some false, some false, some false], [some true, some true, some true, some true, some true, some true, some true, some true, some true, some true, some false, some false, some false], [some true, some true, some true, some true, some true, some true, some true, some true, some true, some true, some true, some false, some false], [some true, some true, some true, some true, some true, some true, some true, some true, some true, some true, some true, some true, some false]] (by kernel_rfl) (fun _ => rfl) rfl rfl rfl rfl rfl (fun _ _ => ⟨⟨⟨⟨⟨⟨⟨⟨⟨⟨⟨⟨⟨trivial, rfl⟩, rfl⟩, rfl⟩, rfl⟩, rfl⟩, rfl⟩, rfl⟩, rfl⟩, rfl⟩, rfl⟩, rfl⟩, rfl⟩, rfl⟩) 0 [] (fun _ => by kernel_rfl) ?_ ?_
    · refine ⟨rfl, ?_, rfl, ?_, rfl, ?_, rfl, ?_, rfl, ?_, rfl, ?_, rfl, ?_, rfl, ?_, rfl, ?_, rfl, ?_, rfl, ?_, rfl, ?_, rfl, ?_, trivial⟩
      · intro g2
        refine TL.move rfl rfl (v := .int .i64 k_1) rfl ?_
        refine TL.done ?_
        exact TC.nrm () [] ⟨rfl, trivial⟩ [] (by kernel_rfl)
      · intro g2
        refine TL.bin .i64 k_1 0 rfl rfl rfl rfl (v := .bool (k_1 == 0)) rfl ?_
        refine TL.done ?_
        exact TC.nrm () [] ⟨(by rw [c2]; rfl), trivial⟩ [] (by kernel_rfl)
      · intro g2
        refine TL.move rfl rfl (v := .bool true) rfl ?_
        refine TL.done ?_
        exact TC.nrm () [] ⟨rfl, trivial⟩ [] (by kernel_rfl)
      · intro b4_ b5_ b6_ b7_ b8_ g2
        refine TL.skip rfl rfl (by decide) ?_
        refine TL.done ?_
        exact TC.nrm () [] ⟨rfl, trivial⟩ [] (by kernel_rfl)
      · intro b3_ b7_ g2
        refine TL.asL [] (by kernel_rfl) ?_
        refine TL.skip rfl rfl (by decide) ?_
        refine TL.done ?_
        exact TC.nrm () [] ⟨rfl, trivial⟩ [] (by kernel_rfl)
      · intro b3_ b7_ g2
        refine TL.asL [] (by kernel_rfl) ?_
        refine TL.skip rfl rfl (by decide) ?_
        refine TL.done ?_
        exact TC.nrm () [] ⟨rfl, trivial⟩ [] (by kernel_rfl)
      · intro b3_ b7_ b8_ g2
        refine TL.skip rfl rfl (by decide) ?_
        refine TL.done ?_
        exact TC.nrm () [] ⟨rfl, trivial⟩ [] (by kernel_rfl)
      · intro b3_ b4_ b5_ b6_ g2
        refine TL.asL [] (by kernel_rfl) ?_
        refine TL.skip rfl rfl (by decide) ?_
        refine TL.done ?_
        exact TC.nrm () [] ⟨rfl, trivial⟩ [] (by kernel_rfl)
      · intro b3_ b6_ g2
        refine TL.asL [] (by kernel_rfl) ?_
        refine TL.skip rfl rfl (by decide) ?_
        refine TL.done ?_
        exact TC.nrm () [] ⟨rfl, trivial⟩ [] (by kernel_rfl)
      · intro g2
        refine TL.asL [] (by kernel_rfl) ?_
        refine TL.skip rfl rfl (by decide) ?_
        refine TL.done ?_
        exact TC.nrm () [] ⟨rfl, trivial⟩ [] (by kernel_rfl)
      · intro g2
        refine TL.skip rfl rfl (by decide) ?_
        refine TL.done ?_
        exact TC.nrm () [] ⟨rfl, trivial⟩ [] (by kernel_rfl)
      · intro g2
        refine TL.pick rfl rfl (b := true) rfl (r := .bool true) rfl ?_
        refine TL.done ?_
        exact TC.nrm () [] ⟨rfl, trivial⟩ [] (by kernel_rfl)
      · intro g2
        refine TL.assign rfl rfl (v := .bool true) rfl ?_
        refine TL.done ?_
        exact TC.nrm () [] ⟨rfl, trivial⟩ [] (by kernel_rfl)
    · intro g2
      refine TC.asL [] (by kernel_rfl) ?_
      exact TC.retF (Fin.body (fin1 (.inr rfl) rfl (.tmp rfl) [] rfl ⟨rfl, rfl⟩))
  · refine TC.wk (Γ' := [(0, .int .i64 k_1), (1, bp b_1 0)]) ⟨rfl, rfl, trivial⟩ ?_
    refine TC.bindE ?_
    rintro r_1 hr1
    refine TC.bindE ?_
    rintro r_3 hr2
    refine TC.drawG [(0, .int .i64 k_1), (1, bp b_1 0)] [] ⟨rfl, rfl, trivial⟩ trivial (fun l_ g3 => []) (fun g3 => [.int .i64 k_1, .bool false, .bool false, .int .i64 k_1, SV.v s1, .int .i64 r_1, .int .i64 (w64 (0 - r_1)), SV.v s1, .int .i64 r_1, .bool r_3, .bool (!r_3), .bool (!r_3), .bool (!r_3)]) [[], [0], [0, 1], [0, 1, 2], [0, 1, 2], [0, 1, 2, 4], [0, 1, 2, 4, 5], [0, 1, 2], [0, 1, 2, 4, 5, 7], [0, 1, 2, 3, 4, 5, 6, 7, 8], [0, 1, 2, 3, 4, 5, 6, 7, 8, 9], [0, 1, 2, 3, 4, 5, 6, 7, 8, 9, 10], [0, 1, 2, 3, 4, 5, 6, 7, 8, 9, 10, 11]] [[some false, some false, some false, some false, some false, some false, some false, some false, some false, some false, some false, some false, some false], [some true, some false, some false, some false, some false, some false, some false, some false, some false, some false, some false, some false, some false], [some true, some true, some false, some false, some false, some false, some false, some false, some false, some false, some false, some false, some false], [some true, some true, some true, some false, none, none, none, none, none, some false, some false, some false, some false], [some true, some true, some true, none, some false, some false, some false, none, some false, some false, some false, some false, some false], [some true, some true, some true, none, some true, some false, some false, none, some false, some false, some false, some false, some false], [some true, some true, some true, none, some true, some true, some false, none, none, some false, some false, some false, some false], [some true, some true, some true, none, none, none, none, some false, some false, some false, some false, some false, some false], [some true, some true, some true, none, some true, some true, none, some true, some false, some false, some false, some false, some false], [some true, some true, some true, some true, some true, some true, some true, some true, some true, some false, some false, some false, some false], [some true, some true, some true, some true, some true, some true, some true, some true, some true, some true, some false, some false, some false], [some true, some true, some true, some true, some true, some true, some true, some true, some true, some true, some true, some false, some false], [some true, some true, some true, some true, some true, some true, some true, some true, some true, some true, some true, some true, some false]] (by kernel_rfl) (fun _ => rfl) rfl rfl rfl rfl rfl (fun _ _ => ⟨⟨⟨⟨⟨⟨⟨⟨⟨⟨⟨⟨⟨trivial, rfl⟩, rfl⟩, rfl⟩, rfl⟩, rfl⟩, rfl⟩, rfl⟩, rfl⟩, rfl⟩, rfl⟩, rfl⟩, rfl⟩, rfl⟩) 0 [] (fun _ => by kernel_rfl) ?_ ?_
    · refine ⟨rfl, ?_, rfl, ?_, rfl, ?_, rfl, ?_, rfl, ?_, rfl, ?_, rfl, ?_, rfl, ?_, rfl, ?_, rfl, ?_, rfl, ?_, rfl, ?_, rfl, ?_, trivial⟩
      · intro g3
        refine TL.move rfl rfl (v := .int .i64 k_1) rfl ?_
        refine TL.done ?_
        exact TC.nrm () [] ⟨rfl, trivial⟩ [] (by kernel_rfl)
      · intro g3
        refine TL.bin .i64 k_1 0 rfl rfl rfl rfl (v := .bool (k_1 == 0)) rfl ?_
        refine TL.done ?_
        exact TC.nrm () [] ⟨(by rw [c2]; rfl), trivial⟩ [] (by kernel_rfl)
      · intro g3
        refine TL.move rfl rfl (v := .bool false) rfl ?_
        refine TL.done ?_
        exact TC.nrm () [] ⟨rfl, trivial⟩ [] (by kernel_rfl)
      · intro b4_ b5_ b6_ b7_ b8_ g3
        refine TL.move rfl rfl (v := .int .i64 k_1) rfl ?_
        refine TL.done ?_
        exact TC.nrm () [] ⟨rfl, trivial⟩ [] (by kernel_rfl)
      · intro b3_ b7_ g3
        refine TL.asL [] (by kernel_rfl) ?_
        refine TL.load1 0 (Src.at h2) Try.isAgg32 rfl rfl rfl rfl rfl ?_
        refine TL.done ?_
        exact TC.nrm () [] ⟨rfl, trivial⟩ [] (by kernel_rfl)
      · intro b3_ b7_ g3
        refine TL.asL [] (by kernel_rfl) ?_
        refine TL.callH (R := G.impl_edgesOf.R) hr1 Try.call118 rfl rfl rfl (fun w hS => G.impl_edgesOf.calls w s1 ss1 c1 ((RdM.old h1) w hS)) ?_
        rintro _ _ ⟨rfl, rfl⟩
        refine TL.done ?_
        exact TC.nrm () [] ⟨rfl, trivial⟩ [] (by kernel_rfl)
      · intro b3_ b7_ b8_ g3
        refine TL.neg .i64 r_1 rfl rfl rfl ?_
        refine TL.done ?_
        exact TC.nrm () [] ⟨rfl, trivial⟩ [] (by kernel_rfl)
      · intro b3_ b4_ b5_ b6_ g3
        refine TL.asL [] (by kernel_rfl) ?_
        refine TL.load1 0 (Src.at h2) Try.isAgg32 rfl rfl rfl rfl rfl ?_
        refine TL.done ?_
        exact TC.nrm () [] ⟨rfl, trivial⟩ [] (by kernel_rfl)
      · intro b3_ b6_ g3
        refine TL.asL [] (by kernel_rfl) ?_
        refine TL.callH (R := G.impl_edgesOf.R) hr1 Try.call118 rfl rfl rfl (fun w hS => G.impl_edgesOf.calls w s1 ss1 c1 ((RdM.old h1) w hS)) ?_
        rintro _ _ ⟨rfl, rfl⟩
        refine TL.done ?_
        exact TC.nrm () [] ⟨rfl, trivial⟩ [] (by kernel_rfl)
      · intro g3
        refine TL.asL [] (by kernel_rfl) ?_
        refine TL.callH (R := G.impl_in.R) hr2 Try.call72 rfl rfl rfl (fun w hS => G.impl_in.calls w k_1 (w64 (0 - r_1)) r_1) ?_
        rintro _ _ ⟨rfl, rfl⟩
        refine TL.done ?_
        exact TC.nrm () [] ⟨rfl, trivial⟩ [] (by kernel_rfl)
      · intro g3
        refine TL.not r_3 rfl rfl rfl ?_
        refine TL.done ?_
        exact TC.nrm () [] ⟨rfl, trivial⟩ [] (by kernel_rfl)
      · intro g3
        refine TL.pick rfl rfl (b := false) rfl (r := .bool (!r_3)) rfl ?_
        refine TL.done ?_
        exact TC.nrm () [] ⟨rfl, trivial⟩ [] (by kernel_rfl)
      · intro g3
        refine TL.assign rfl rfl (v := .bool (!r_3)) rfl ?_
        refine TL.done ?_
        exact TC.nrm () [] ⟨rfl, trivial⟩ [] (by kernel_rfl)
    · intro g3
      refine TC.asL [] (by kernel_rfl) ?_
      exact TC.retF (Fin.body (fin1 (.inr rfl) rfl (.tmp rfl) [] rfl ⟨rfl, rfl⟩))

end Go.Proofs.Ytiiljfpbcanphaa.G

/- impl.sided], as a pure function. -/
set_option linter.unusedVariables false
namespace Go.Proofs.Ytiiljfpbcanphaa.G
open Go Go.Sx Go.Proofs

def slices_IndexFunc_impl_sided_impl_sided.b0 (s1 : List (List (Int × Int))) (f2 : (List (Int × Int)) → Option Bool) : Int → Option (LR Int Int) := fun x1 => (bif (decide (x1 < (s1.length : Int))) then chk x1 s1.length ((f2 (gt s1 x1)).bind (fun r_1 => (bif r_1 then some (.ret (x1)) else some (.next (w64 (x1 + 1)))))) else some (.brk x1))

def slices_IndexFunc_impl_sided_impl_sided.f (s1 : List (List (Int × Int))) (f2 : (List (Int × Int)) → Option Bool) : Option Int := (loop (slices_IndexFunc_impl_sided_impl_sided.b0 s1 f2) 0).bind (ln (fun x1 => some (-1)))

def slices_IndexFunc_impl_sided_impl_sided.R (r : Int) (v : Value) (L : List Asn) : Prop := v = .int .i64 r ∧ L = []

set_option maxRecDepth 100000 in
set_option maxHeartbeats 4000000 in
theorem slices_IndexFunc_impl_sided_impl_sided.calls (w : World) (s2 : SV) (ss1 : List SV) (s1 : List (List (Int × Int))) (f1 : Nat) (fst1 : List Value) (cap1 : List Value) (f2 : (List (Int × Int)) → Option Bool) (h1 : ReadsM Eii (hp w) s2 ss1 s1) (hc1 : ∀ (args_ : Array Value) (w_ : World), (callFunc f1 args_).run Try.prog w_ = .ok (.enter f1 args_) w_) (hf1 : ∀ w_, Hle (hp w) (hp w_) → ∀ (s1_ : SV) (x0_ : List (Int × Int)), Reads Eii (hp w_) s1_ x0_ → ∀ r_, f2 x0_ = some r_ → Calls Try.prog f1 (fst1 ++ ([SV.v s1_] : List Value) ++ cap1).toArray w_ (Ret w_ (fun (v_ : Value) (L_ : List Asn) => v_ = .bool r_ ∧ L_ = []))) :
    ∀ r, slices_IndexFunc_impl_sided_impl_sided.f s1 f2 = some r → Calls Try.prog 169 #[SV.v s2, .func (.func f1) fst1.toArray cap1.toArray] w (Ret w (slices_IndexFunc_impl_sided_impl_sided.R r)) := by

  refine calls_T (n := 19) (Γ := [(0, SV.v s2), (1, .func (.func f1) fst1.toArray cap1.toArray)]) (R := slices_IndexFunc_impl_sided_impl_sided.R) Try.func169 rfl rfl (Nat.le_of_ble_eq_true rfl) ⟨rfl, rfl, trivial⟩ ?_
  unfold slices_IndexFunc_impl_sided_impl_sided.f
  refine TC.seq ?_
  refine TC.region ?_
  refine TL.assign rfl rfl (v := .int .i64 0) rfl ?_
  refine TL.done ?_
  refine TC.seq ?_
  refine TC.seq ?_
  refine TC.region ?_
  refine TL.move rfl rfl (v := SV.v s2) rfl ?_
  refine TL.lenM (RdM.old h1) Try.underlying105 rfl rfl rfl ?_
  refine TL.move rfl rfl (v := .int .i64 0) rfl ?_
  refine TL.done ?_
  refine TC.loopK (σ := Int) (γ := Unit) (Γ' := (fun x1 _ => [(0, SV.v s2), (1, .func (.func f1) fst1.toArray cap1.toArray), (7, .int .i64 (s1.length : Int)), (8, .int .i64 x1)])) (L' := (fun x1 _ => [])) (Γb := (fun x1 _ => [(0, SV.v s2), (1, .func (.func f1) fst1.toArray cap1.toArray), (7, .int .i64 (s1.length : Int)), (8, .int .i64 x1)])) (Lb := (fun x1 _ => [])) (0) (()) ⟨rfl, rfl, rfl, rfl, trivial⟩ [] rfl ?_ ?_
  · rintro x1 _
    refine TC.seq ?_
    refine TC.region ?_
    refine TL.bin .i64 x1 (s1.length : Int) rfl rfl rfl rfl (v := .bool (decide (x1 < (s1.length : Int)))) rfl ?_
    refine TL.done ?_
    refine TC.seq ?_
    refine TC.cond (b := (decide (x1 < (s1.length : Int)))) rfl (fun c1 => ?_) (fun c2 => ?_)
    · refine TC.skip ?_
      refine TC.seq ?_
      refine TC.block (NoEx.loop rfl NoEx.body) ?_
      refine TC.seq ?_
      refine TC.region ?_
      refine TL.move rfl rfl (v := .int .i64 x1) rfl ?_
      refine TL.assign rfl rfl (v := .int .i64 x1) rfl ?_
      refine TL.done ?_
      refine TC.seq ?_
      refine TC.region ?_
      refine TL.move rfl rfl (v := .func (.func f1) fst1.toArray cap1.toArray) rfl ?_
      refine TL.move rfl rfl (v := SV.v s2) rfl ?_
      refine TL.move rfl rfl (v := .int .i64 x1) rfl ?_
      refine TL.chk fun h2 => ?_
      refine TL.ixsM x1 x1.toNat (RdM.old h1) h2 Try.underlying105 Try.sizeOf104 rfl rfl rfl rfl (by omega) ?_
      refine TL.loadM2 (RdM.old h1) Try.isAgg104 x1 h2 (by omega) rfl rfl rfl ?_
      refine TL.callv (R := (fun r_ => (fun (v_ : Value) (L_ : List Asn) => v_ = .bool r_ ∧ L_ = []))) (vs := [SV.v (gt ss1 x1)]) hc1 rfl rfl rfl rfl (fun w hS => hf1 w hS.iw (gt ss1 x1) (gt s1 x1) ((RdM.inn (RdM.old h1) h2) w hS)) ?_
      rintro r_1 _ _ ⟨rfl, rfl⟩
      refine TL.done ?_
      refine TC.cond (b := r_1) rfl (fun c3 => ?_) (fun c4 => ?_)
      · refine TC.seq ?_
        refine TC.region ?_
        refine TL.move rfl rfl (v := .int .i64 x1) rfl ?_
        refine TL.assign rfl rfl (v := .int .i64 x1) rfl ?_
        refine TL.done ?_
        exact TC.retF (Fin.loop Far.ret (Fin.body (fin1 (.inr rfl) rfl (.tmp rfl) [] rfl ⟨rfl, rfl⟩)))
      · refine TC.skip ?_
        refine TC.region ?_
        refine TL.bin .i64 x1 1 rfl rfl rfl rfl (v := .int .i64 (w64 (x1 + 1))) rfl ?_
        refine TL.move rfl rfl (v := .int .i64 (w64 (x1 + 1))) rfl ?_
        refine TL.done ?_
        exact TC.next ((w64 (x1 + 1))) (()) ⟨rfl, rfl, rfl, rfl, trivial⟩ [] rfl
    · exact TC.brk (x1) (()) ⟨rfl, rfl, rfl, rfl, trivial⟩ [] rfl
  · rintro x1 _
    refine TC.seq ?_
    refine TC.region ?_
    refine TL.assign rfl rfl (v := .int .i64 (-1)) rfl ?_
    refine TL.done ?_
    exact TC.retF (Fin.body (fin1 (.inr rfl) rfl (.tmp rfl) [] rfl ⟨rfl, rfl⟩))

end Go.Proofs.Ytiiljfpbcanphaa.G

/- impl.sided], as a pure function. -/
set_option linter.unusedVariables false
namespace Go.Proofs.Ytiiljfpbcanphaa.G
open Go Go.Sx Go.Proofs

def slices_ContainsFunc_impl_sided_impl_sided.f (s1 : List (List (Int × Int))) (f2 : (List (Int × Int)) → Option Bool) : Option Bool := (G.slices_IndexFunc_impl_sided_impl_sided.f s1 f2).bind (fun r_1 => some (decide (r_1 ≥ 0)))

def slices_ContainsFunc_impl_sided_impl_sided.R (r : Bool) (v : Value) (L : List Asn) : Prop := v = .bool r ∧ L = []

set_option maxRecDepth 100000 in
set_option maxHeartbeats 4000000 in
theorem slices_ContainsFunc_impl_sided_impl_sided.calls (w : World) (s2 : SV) (ss1 : List SV) (s1 : List (List (Int × Int))) (f1 : Nat) (fst1 : List Value) (cap1 : List Value) (f2 : (List (Int × Int)) → Option Bool) (h1 : ReadsM Eii (hp w) s2 ss1 s1) (hc1 : ∀ (args_ : Array Value) (w_ : World), (callFunc f1 args_).run Try.prog w_ = .ok (.enter f1 args_) w_) (hf1 : ∀ w_, Hle (hp w) (hp w_) → ∀ (s1_ : SV) (x0_ : List (Int × Int)), Reads Eii (hp w_) s1_ x0_ → ∀ r_, f2 x0_ = some r_ → Calls Try.prog f1 (fst1 ++ ([SV.v s1_] : List Value) ++ cap1).toArray w_ (Ret w_ (fun (v_ : Value) (L_ : List Asn) => v_ = .bool r_ ∧ L_ = []))) :
    ∀ r, slices_ContainsFunc_impl_sided_impl_sided.f s1 f2 = some r → Calls Try.prog 125 #[SV.v s2, .func (.func f1) fst1.toArray cap1.toArray] w (Ret w (slices_ContainsFunc_impl_sided_impl_sided.R r)) := by

  refine calls_T (n := 9) (Γ := [(0, SV.v s2), (1, .func (.func f1) fst1.toArray cap1.toArray)]) (R := slices_ContainsFunc_impl_sided_impl_sided.R) Try.func125 rfl rfl (Nat.le_of_ble_eq_true rfl) ⟨rfl, rfl, trivial⟩ ?_
  unfold slices_ContainsFunc_impl_sided_impl_sided.f
  refine TC.seq ?_
  refine TC.region ?_
  refine TL.assign rfl rfl (v := .bool false) rfl ?_
  refine TL.done ?_
  refine TC.seq ?_
  refine TC.region ?_
  refine TL.move rfl rfl (v := SV.v s2) rfl ?_
  refine TL.move rfl rfl (v := .func (.func f1) fst1.toArray cap1.toArray) rfl ?_
  refine TL.call (R := G.slices_IndexFunc_impl_sided_impl_sided.R) Try.call169 rfl rfl rfl (fun w hS => G.slices_IndexFunc_impl_sided_impl_sided.calls w s2 ss1 s1 f1 fst1 cap1 f2 ((RdM.old h1) w hS) hc1 (fun w_ hle_ => hf1 w_ (hS.iw.trans hle_))) ?_
  rintro r_1 _ _ ⟨rfl, rfl⟩
  refine TL.bin .i64 r_1 0 rfl rfl rfl rfl (v := .bool (decide (r_1 ≥ 0))) rfl ?_
  refine TL.assign rfl rfl (v := .bool (decide (r_1 ≥ 0))) rfl ?_
  refine TL.done ?_
  exact TC.retF (Fin.body (fin1 (.inr rfl) rfl (.tmp rfl) [] rfl ⟨rfl, rfl⟩))

end Go.Proofs.Ytiiljfpbcanphaa.G

/- impl.IsSurface$2, as a pure function. -/
set_option linter.unusedVariables false
namespace Go.Proofs.Ytiiljfpbcanphaa.G
open Go Go.Sx Go.Proofs

def impl_IsSurface_2.f (list_1 : List (Int × Int)) : Option Bool := some ((list_1.length : Int) != 2)

def impl_IsSurface_2.R (r : Bool) (v : Value) (L : List Asn) : Prop := v = .bool r ∧ L = []

set_option maxRecDepth 100000 in
set_option maxHeartbeats 4000000 in
theorem impl_IsSurface_2.calls (w : World) (s1 : SV) (list_1 : List (Int × Int)) (h1 : Reads Eii (hp w) s1 list_1) :
    ∀ r, impl_IsSurface_2.f list_1 = some r → Calls Try.prog 126 #[SV.v s1] w (Ret w (impl_IsSurface_2.R r)) := by

  refine calls_T (n := 6) (Γ := [(0, SV.v s1)]) (R := impl_IsSurface_2.R) Try.func126 rfl rfl (Nat.le_of_ble_eq_true rfl) ⟨rfl, trivial⟩ ?_
  unfold impl_IsSurface_2.f
  refine TC.seq ?_
  refine TC.region ?_
  refine TL.assign rfl rfl (v := .bool false) rfl ?_
  refine TL.done ?_
  refine TC.seq ?_
  refine TC.region ?_
  refine TL.move rfl rfl (v := SV.v s1) rfl ?_
  refine TL.len (Rd.old h1) Try.underlying104 rfl rfl rfl ?_
  refine TL.bin .i64 (list_1.length : Int) 2 rfl rfl rfl rfl (v := .bool ((list_1.length : Int) != 2)) rfl ?_
  refine TL.assign rfl rfl (v := .bool ((list_1.length : Int) != 2)) rfl ?_
  refine TL.done ?_
  exact TC.retF (Fin.body (fin1 (.inr rfl) rfl (.tmp rfl) [] rfl ⟨rfl, rfl⟩))

end Go.Proofs.Ytiiljfpbcanphaa.G

/- impl.IsSurface, as a pure function. -/
set_option linter.unusedVariables false
namespace Go.Proofs.Ytiiljfpbcanphaa.G
open Go Go.Sx Go.Proofs

def impl_IsSurface.b0 (s1 : List (List Int)) : Int → Option (LR Int Bool) := fun x1 => (bif (decide (x1 < (s1.length : Int))) then chk x1 s1.length ((bif (((gt s1 x1).length : Int) != 3) then some true else (G.slices_ContainsFunc_int64_int64.f (gt s1 x1) (fun x0_ => G.impl_IsSurface_1.f x0_ s1)).bind (fun r_2 => some r_2)).bind (fun b_2 => (bif b_2 then some (.ret (false)) else some (.next (w64 (x1 + 1)))))) else some (.brk x1))

def impl_IsSurface.f (s1 : List (List Int)) : Option Bool := (G.impl_in.f (s1.length : Int) 2 12).bind (fun r_1 => (bif ((!r_1) || ((Int.tmod (s1.length : Int) 2) != 0)) then some false else (loop (impl_IsSurface.b0 s1) 0).bind (ln (fun x1 => (G.impl_sidesOfEdges.f s1).bind (fun r_3 => grd (decide (0 ≤ 1) && decide (1 ≤ (r_3.length : Int)) && decide ((r_3.length : Int) ≤ (r_3.length : Int))) ((G.slices_ContainsFunc_impl_sided_impl_sided.f ((r_3.drop 1).take (r_3.length - 1)) G.impl_IsSurface_2.f).bind (fun r_4 => some (!r_4))))))))

def impl_IsSurface.R (r : Bool) (v : Value) (L : List Asn) : Prop := v = .bool r ∧ L = []

set_option maxRecDepth 100000 in
set_option maxHeartbeats 4000000 in
theorem impl_IsSurface.calls (w : World) (s2 : SV) (ss1 : List SV) (s1 : List (List Int)) (h1 : ReadsM Ei (hp w) s2 ss1 s1) :
    ∀ r, impl_IsSurface.f s1 = some r → Calls Try.prog 44 #[SV.v s2] w (Ret w (impl_IsSurface.R r)) := by

  refine calls_T (n := 35) (Γ := [(0, SV.v s2)]) (R := impl_IsSurface.R) Try.func44 rfl rfl (Nat.le_of_ble_eq_true rfl) ⟨rfl, trivial⟩ ?_
  unfold impl_IsSurface.f
  refine TC.seq ?_
  refine TC.region ?_
  refine TL.box [.one (SV.v s2)] rfl rfl rfl rfl fun b_1 => ?_
  refine TL.assign rfl rfl (v := .bool false) rfl ?_
  refine TL.done ?_
  refine TC.seq ?_
  refine TC.seq ?_
  refine TC.region ?_
  refine TL.load1 0 (Src.box 0 rfl) Try.isAgg32 rfl rfl rfl rfl rfl ?_
  refine TL.lenM (RdM.old h1) Try.underlying32 rfl rfl rfl ?_
  refine TL.call (R := G.impl_in.R) Try.call72 rfl rfl rfl (fun w hS => G.impl_in.calls w (s1.length : Int) 2 12) ?_
  rintro r_1 _ _ ⟨rfl, rfl⟩
  refine TL.not r_1 rfl rfl rfl ?_
  refine TL.move rfl rfl (v := .bool (!r_1)) rfl ?_
  refine TL.cutU 5 [(14, .bool ((!r_1) || ((Int.tmod (s1.length : Int) 2) != 0))), (0, SV.v s2), (1, bp b_1 0), (2, .bool false), (5, SV.v s2), (6, .int .i64 (s1.length : Int)), (7, .bool r_1), (8, .bool (!r_1)), (9, .bool (!r_1))] [box b_1 32 [.one (SV.v s2)]] ?_ ?_
  · refine TL.cases (t := 9) (b := (!r_1)) rfl (fun c1 => ?_) (fun c2 => ?_)
    · refine TL.skip rfl rfl (by decide) ?_
      refine TL.skip rfl rfl (by decide) ?_
      refine TL.skip rfl rfl (by decide) ?_
      refine TL.skip rfl rfl (by decide) ?_
      refine TL.pick rfl rfl (b := true) rfl (r := .bool true) rfl ?_
      refine TL.done ?_
      exact TC.nrm () () ⟨(by rw [c1]; rfl), rfl, rfl, rfl, rfl, rfl, rfl, rfl, (by rw [c1]; rfl), trivial⟩ [0] (by kernel_rfl)
    · refine TL.load1 0 (Src.box 0 rfl) Try.isAgg32 rfl rfl rfl rfl rfl ?_
      refine TL.lenM (RdM.old h1) Try.underlying32 rfl rfl rfl ?_
      refine TL.rem .i64 (s1.length : Int) 2 (by decide) rfl rfl rfl rfl ?_
      refine TL.bin .i64 (Int.tmod (s1.length : Int) 2) 0 rfl rfl rfl rfl (v := .bool ((Int.tmod (s1.length : Int) 2) != 0)) rfl ?_
      refine TL.pick rfl rfl (b := false) rfl (r := .bool ((Int.tmod (s1.length : Int) 2) != 0)) rfl ?_
      refine TL.done ?_
      exact TC.nrm () () ⟨(by rw [c2]; rfl), rfl, rfl, rfl, rfl, rfl, rfl, rfl, (by rw [c2]; rfl), trivial⟩ [0] (by kernel_rfl)
  · refine TL.done ?_
    refine TC.cond (b := ((!r_1) || ((Int.tmod (s1.length : Int) 2) != 0))) rfl (fun c3 => ?_) (fun c4 => ?_)
    · refine TC.seq ?_
      refine TC.region ?_
      refine TL.assign rfl rfl (v := .bool false) rfl ?_
      refine TL.done ?_
      exact TC.retF (Fin.body (fin1 (.inr rfl) rfl (.tmp rfl) [] rfl ⟨rfl, rfl⟩))
    · refine TC.skip ?_
      refine TC.seq ?_
      refine TC.seq ?_
      refine TC.region ?_
      refine TL.load1 0 (Src.box 0 rfl) Try.isAgg32 rfl rfl rfl rfl rfl ?_
      refine TL.lenM (RdM.old h1) Try.underlying32 rfl rfl rfl ?_
      refine TL.move rfl rfl (v := .int .i64 0) rfl ?_
      refine TL.done ?_
      refine TC.loopK (σ := Int) (γ := Unit) (Γ' := (fun x1 _ => [(1, bp b_1 0), (15, SV.v s2), (16, .int .i64 (s1.length : Int)), (17, .int .i64 x1)])) (L' := (fun x1 _ => [box b_1 32 [.one (SV.v s2)]])) (Γb := (fun x1 _ => [(1, bp b_1 0), (15, SV.v s2), (16, .int .i64 (s1.length : Int)), (17, .int .i64 x1)])) (Lb := (fun x1 _ => [box b_1 32 [.one (SV.v s2)]])) (0) (()) ⟨rfl, rfl, rfl, rfl, trivial⟩ [0] rfl ?_ ?_
      · rintro x1 _
        refine TC.seq ?_
        refine TC.region ?_
        refine TL.bin .i64 x1 (s1.length : Int) rfl rfl rfl rfl (v := .bool (decide (x1 < (s1.length : Int)))) rfl ?_
        refine TL.done ?_
        refine TC.seq ?_
        refine TC.cond (b := (decide (x1 < (s1.length : Int)))) rfl (fun c5 => ?_) (fun c6 => ?_)
        · refine TC.skip ?_
          refine TC.seq ?_
          refine TC.block (NoEx.loop rfl NoEx.body) ?_
          refine TC.seq ?_
          refine TC.region ?_
          refine TL.chk fun h2 => ?_
          refine TL.ixsM x1 x1.toNat (RdM.old h1) h2 Try.underlying32 Try.sizeOf22 rfl rfl rfl rfl (by omega) ?_
          refine TL.loadM2 (RdM.old h1) Try.isAgg22 x1 h2 (by omega) rfl rfl rfl ?_
          refine TL.assign rfl rfl (v := SV.v (gt ss1 x1)) rfl ?_
          refine TL.done ?_
          refine TC.seq ?_
          refine TC.region ?_
          refine TL.move rfl rfl (v := SV.v (gt ss1 x1)) rfl ?_
          refine TL.len (RdM.inn (RdM.old h1) h2) Try.underlying22 rfl rfl rfl ?_
          refine TL.bin .i64 ((gt s1 x1).length : Int) 3 rfl rfl rfl rfl (v := .bool (((gt s1 x1).length : Int) != 3)) rfl ?_
          refine TL.move rfl rfl (v := .bool (((gt s1 x1).length : Int) != 3)) rfl ?_
          refine TL.cutJ (σ := Bool) (γ := Unit) (Γ' := fun b_2 _ => [(28, .bool b_2), (1, bp b_1 0), (15, SV.v s2), (16, .int .i64 (s1.length : Int)), (17, .int .i64 x1), (18, .bool (decide (x1 < (s1.length : Int)))), (19, ep s2 x1.toNat), (20, SV.v (gt ss1 x1)), (4, SV.v (gt ss1 x1)), (21, SV.v (gt ss1 x1)), (22, .int .i64 ((gt s1 x1).length : Int)), (23, .bool (((gt s1 x1).length : Int) != 3)), (24, .bool (((gt s1 x1).length : Int) != 3))]) (L' := fun _ _ => [box b_1 32 [.one (SV.v s2)]]) 4 ?_ ?_
          · refine TL.ifb (t := 24) (b := (((gt s1 x1).length : Int) != 3)) rfl (fun c7 => ?_) (fun c8 => ?_)
            · refine TL.skip rfl rfl (by decide) ?_
              refine TL.skip rfl rfl (by decide) ?_
              refine TL.skip rfl rfl (by decide) ?_
              refine TL.pick rfl rfl (b := true) rfl (r := .bool true) rfl ?_
              refine TL.done ?_
              exact TC.nrm (true) () ⟨rfl, rfl, rfl, rfl, rfl, rfl, rfl, rfl, rfl, rfl, rfl, rfl, (by rw [c7]; rfl), trivial⟩ [0] (by kernel_rfl)
            · refine TL.move rfl rfl (v := SV.v (gt ss1 x1)) rfl ?_
              refine TL.makeFunc rfl rfl (us := []) (vs := [bp b_1 0]) rfl rfl ?_
              refine TL.call (R := G.slices_ContainsFunc_int64_int64.R) Try.call103 rfl rfl rfl (fun w hS => G.slices_ContainsFunc_int64_int64.calls w (gt ss1 x1) (gt s1 x1) 124 [] [bp b_1 0] (fun x0_ => G.impl_IsSurface_1.f x0_ s1) ((RdM.inn (RdM.old h1) h2) w hS) Try.call124 (fun w_ hle_ x0_ r_ hr_ => G.impl_IsSurface_1.calls w_ x0_ b_1 s2 ss1 s1 (((Src.box 0 rfl) w hS).mono hle_) (((RdM.old h1) w hS).mono hle_) r_ hr_)) ?_
              rintro r_2 _ _ ⟨rfl, rfl⟩
              refine TL.pick rfl rfl (b := false) rfl (r := .bool r_2) rfl ?_
              refine TL.done ?_
              exact TC.nrm (r_2) () ⟨rfl, rfl, rfl, rfl, rfl, rfl, rfl, rfl, rfl, rfl, rfl, rfl, (by rw [c8]; rfl), trivial⟩ [0] (by kernel_rfl)
          · rintro b_2 _
            refine TL.done ?_
            refine TC.cond (b := b_2) rfl (fun c9 => ?_) (fun c10 => ?_)
            · refine TC.seq ?_
              refine TC.region ?_
              refine TL.assign rfl rfl (v := .bool false) rfl ?_
              refine TL.done ?_
              exact TC.retF (Fin.loop Far.ret (Fin.body (fin1 (.inr rfl) rfl (.tmp rfl) [] rfl ⟨rfl, rfl⟩)))
            · refine TC.skip ?_
              refine TC.region ?_
              refine TL.bin .i64 x1 1 rfl rfl rfl rfl (v := .int .i64 (w64 (x1 + 1))) rfl ?_
              refine TL.move rfl rfl (v := .int .i64 (w64 (x1 + 1))) rfl ?_
              refine TL.done ?_
              exact TC.next ((w64 (x1 + 1))) (()) ⟨rfl, rfl, rfl, rfl, trivial⟩ [0] rfl
        · exact TC.brk (x1) (()) ⟨rfl, rfl, rfl, rfl, trivial⟩ [0] rfl
      · rintro x1 _
        refine TC.seq ?_
        refine TC.region ?_
        refine TL.load1 0 (Src.box 0 rfl) Try.isAgg32 rfl rfl rfl rfl rfl ?_
        refine TL.call (R := G.impl_sidesOfEdges.R) Try.call119 rfl rfl rfl (fun w hS => G.impl_sidesOfEdges.calls w s2 ss1 s1 ((RdM.old h1) w hS)) ?_
        rintro r_3 _ _ ⟨s3, ss2, rfl, rfl⟩
        refine TL.grd fun h3 => ?_
        refine TL.sliceM (li := (some 1)) (hi' := none) (l := 1) (h := r_3.length) (RdM.mat 0 rfl) Try.underlying105 Try.sizeOf104 rfl rfl (by have h_ := h3; simp only [Bool.and_eq_true, decide_eq_true_eq] at h_; first | rfl | omega | (simp only [Option.getD_none, Option.getD_some]; omega)) (by have h_ := h3; simp only [Bool.and_eq_true, decide_eq_true_eq] at h_; first | rfl | omega | (simp only [Option.getD_none, Option.getD_some]; omega)) (by have h_ := h3; simp only [Bool.and_eq_true, decide_eq_true_eq] at h_; omega) (by have h_ := h3; simp only [Bool.and_eq_true, decide_eq_true_eq] at h_; omega) rfl rfl rfl ?_
        refine TL.call (R := G.slices_ContainsFunc_impl_sided_impl_sided.R) Try.call125 rfl rfl rfl (fun w hS => G.slices_ContainsFunc_impl_sided_impl_sided.calls w (SV.cut s3 1 r_3.length s3.c Ev.sz) ((ss2.drop 1).take (r_3.length - 1)) ((r_3.drop 1).take (r_3.length - 1)) 126 [] [] G.impl_IsSurface_2.f ((RdM.cut (RdM.mat 0 rfl) (by have h_ := h3; simp only [Bool.and_eq_true, decide_eq_true_eq] at h_; omega) (by have h_ := h3; simp only [Bool.and_eq_true, decide_eq_true_eq] at h_; omega)) w hS) Try.call126 (fun w_ hle_ s1_ x0_ h0_ r_ hr_ => G.impl_IsSurface_2.calls w_ s1_ x0_ h0_ r_ hr_)) ?_
        rintro r_4 _ _ ⟨rfl, rfl⟩
        refine TL.not r_4 rfl rfl rfl ?_
        refine TL.assign rfl rfl (v := .bool (!r_4)) rfl ?_
        refine TL.done ?_
        exact TC.retF (Fin.body (fin1 (.inr rfl) rfl (.tmp rfl) [] rfl ⟨rfl, rfl⟩))

end Go.Proofs.Ytiiljfpbcanphaa.G

/- spec.l07Oriented, as a pure function. -/
set_option linter.unusedVariables false
namespace Go.Proofs.Ytiiljfpbcanphaa.G
open Go Go.Sx Go.Proofs

def spec_l07Oriented.b0 (x2 : Int) (x1 : List (List Int)) : (List Int) × Int → Option (LB ((List Int) × Int)) := fun p => match p with | (l2, x3) => (bif (decide (x3 < 3)) then chk x2 x1.length (chk x3 ((gt x1 x2).length) (((bif (decide ((gt (gt x1 x2) x3) > 0)) then chk (gt (gt x1 x2) x3) l2.length (some (l2.set (gt (gt x1 x2) x3).toNat (w64 ((gt l2 (gt (gt x1 x2) x3)) + 1)))) else chk (w64 (0 - (gt (gt x1 x2) x3))) l2.length (some (l2.set (w64 (0 - (gt (gt x1 x2) x3))).toNat (w64 ((gt l2 (w64 (0 - (gt (gt x1 x2) x3)))) - 1)))))).bind (fun l3 => some (.next (l3, (w64 (x3 + 1))))))) else some (.brk (l2, x3)))

def spec_l07Oriented.b1 (x1 : List (List Int)) : (List Int) × Int → Option (LB ((List Int) × Int)) := fun p => match p with | (l1, x2) => (bif (decide (x2 < (x1.length : Int))) then (loop1 (spec_l07Oriented.b0 x2 x1) (l1, 0)).bind (fun p => match p with | (l2, x3) => some (.next (l2, (w64 (x2 + 1))))) else some (.brk (l1, x2)))

def spec_l07Oriented.b2 (l1 : List Int) : Int → Option (LR Int Bool) := fun x4 => (bif (decide (x4 < (l1.length : Int))) then chk x4 l1.length ((bif ((gt l1 x4) != 0) then some (.ret (false)) else some (.next (w64 (x4 + 1))))) else some (.brk x4))

def spec_l07Oriented.f (x1 : List (List Int)) : Option Bool := grd (decide (0 ≤ (w64 ((w64 (Int.tdiv (w64 ((x1.length : Int) * 3)) 2)) + 1)))) (small (w64 ((w64 (Int.tdiv (w64 ((x1.length : Int) * 3)) 2)) + 1)).toNat ((loop1 (spec_l07Oriented.b1 x1) ((List.replicate (w64 ((w64 (Int.tdiv (w64 ((x1.length : Int) * 3)) 2)) + 1)).toNat (0 : Int)), 0)).bind (fun p => match p with | (l1, x2) => (loop (spec_l07Oriented.b2 l1) 0).bind (ln (fun x4 => some true)))))

def spec_l07Oriented.R (r : Bool) (v : Value) (L : List Asn) : Prop := v = .bool r ∧ L = []

set_option maxRecDepth 100000 in
set_option maxHeartbeats 4000000 in
theorem spec_l07Oriented.calls (w : World) (s1 : SV) (ss1 : List SV) (x1 : List (List Int)) (h1 : ReadsM Ei (hp w) s1 ss1 x1) :
    ∀ r, spec_l07Oriented.f x1 = some r → Calls Try.prog 121 #[SV.v s1] w (Ret w (spec_l07Oriented.R r)) := by

  refine calls_T (n := 67) (Γ := [(0, SV.v s1)]) (R := spec_l07Oriented.R) Try.func121 rfl rfl (Nat.le_of_ble_eq_true rfl) ⟨rfl, trivial⟩ ?_
  unfold spec_l07Oriented.f
  refine TC.seq ?_
  refine TC.region ?_
  refine TL.assign rfl rfl (v := .bool false) rfl ?_
  refine TL.done ?_
  refine TC.seq ?_
  refine TC.region ?_
  refine TL.move rfl rfl (v := SV.v s1) rfl ?_
  refine TL.lenM (RdM.old h1) Try.underlying32 rfl rfl rfl ?_
  refine TL.bin .i64 (x1.length : Int) 3 rfl rfl rfl rfl (v := .int .i64 (w64 ((x1.length : Int) * 3))) rfl ?_
  refine TL.quo .i64 (w64 ((x1.length : Int) * 3)) 2 (by decide) rfl rfl rfl rfl ?_
  refine TL.bin .i64 (w64 (Int.tdiv (w64 ((x1.length : Int) * 3)) 2)) 1 rfl rfl rfl rfl (v := .int .i64 (w64 ((w64 (Int.tdiv (w64 ((x1.length : Int) * 3)) 2)) + 1))) rfl ?_
  refine TL.grd fun h3 => ?_
  refine TL.small fun h2 => ?_
  refine TL.mkslice Ei (0 : Int) (w64 ((w64 (Int.tdiv (w64 ((x1.length : Int) * 3)) 2)) + 1)) Try.underlying22 (info_of Try.type2) (zv := (Try.t2.zero.getD (.bool false))) rfl rfl rfl (by simp [Ei, flat, Seg.cells]) (by decide) (by simpa using h3) (by omega) rfl rfl rfl rfl fun s2 => ?_
  refine TL.assign rfl rfl (v := SV.v s2) rfl ?_
  refine TL.done ?_
  refine TC.seq ?_
  refine TC.seq ?_
  refine TC.region ?_
  refine TL.assign rfl rfl (v := .int .i64 0) rfl ?_
  refine TL.done ?_
  refine TC.loop1 (σ := (List Int) × Int) (γ := Unit) (Γ' := (fun p q => match p, q with | (l1, x2), _ => [(0, SV.v s1), (3, SV.v s2), (4, .int .i64 x2)])) (L' := (fun p q => match p, q with | (l1, x2), _ => [row Ei 2 s2 l1])) (Γb := (fun p q => match p, q with | (l1, x2), _ => [(0, SV.v s1), (3, SV.v s2), (4, .int .i64 x2)])) (Lb := (fun p q => match p, q with | (l1, x2), _ => [row Ei 2 s2 l1])) (((List.replicate (w64 ((w64 (Int.tdiv (w64 ((x1.length : Int) * 3)) 2)) + 1)).toNat (0 : Int)), 0)) (()) ⟨rfl, rfl, rfl, trivial⟩ [0] rfl ?_ ?_
  · rintro ⟨l1, x2⟩ _
    refine TC.seq ?_
    refine TC.seq ?_
    refine TC.region ?_
    refine TL.move rfl rfl (v := .int .i64 x2) rfl ?_
    refine TL.move rfl rfl (v := SV.v s1) rfl ?_
    refine TL.lenM (RdM.old h1) Try.underlying32 rfl rfl rfl ?_
    refine TL.bin .i64 x2 (x1.length : Int) rfl rfl rfl rfl (v := .bool (decide (x2 < (x1.length : Int)))) rfl ?_
    refine TL.done ?_
    refine TC.cond (b := (decide (x2 < (x1.length : Int)))) rfl (fun c1 => ?_) (fun c2 => ?_)
    · refine TC.skip ?_
      refine TC.seq ?_
      refine TC.block (NoEx.loop1 rfl) ?_
      refine TC.seq ?_
      refine TC.region ?_
      refine TL.assign rfl rfl (v := .int .i64 0) rfl ?_
      refine TL.done ?_
      refine TC.loop1 (σ := (List Int) × Int) (γ := Unit) (Γ' := (fun p q => match p, q with | (l2, x3), _ => [(0, SV.v s1), (3, SV.v s2), (4, .int .i64 x2), (5, .int .i64 x3)])) (L' := (fun p q => match p, q with | (l2, x3), _ => [row Ei 2 s2 l2])) (Γb := (fun p q => match p, q with | (l2, x3), _ => [(0, SV.v s1), (3, SV.v s2), (4, .int .i64 x2), (5, .int .i64 x3)])) (Lb := (fun p q => match p, q with | (l2, x3), _ => [row Ei 2 s2 l2])) ((l1, 0)) (()) ⟨rfl, rfl, rfl, rfl, trivial⟩ [0] rfl ?_ ?_
      · rintro ⟨l2, x3⟩ _
        refine TC.seq ?_
        refine TC.seq ?_
        refine TC.region ?_
        refine TL.move rfl rfl (v := .int .i64 x3) rfl ?_
        refine TL.bin .i64 x3 3 rfl rfl rfl rfl (v := .bool (decide (x3 < 3))) rfl ?_
        refine TL.done ?_
        refine TC.cond (b := (decide (x3 < 3))) rfl (fun c3 => ?_) (fun c4 => ?_)
        · refine TC.skip ?_
          refine TC.seq ?_
          refine TC.block (NoEx.loop1 rfl) ?_
          refine TC.seq ?_
          refine TC.region ?_
          refine TL.move rfl rfl (v := SV.v s1) rfl ?_
          refine TL.move rfl rfl (v := .int .i64 x2) rfl ?_
          refine TL.chk fun h4 => ?_
          refine TL.ixsM x2 x2.toNat (RdM.old h1) h4 Try.underlying32 Try.sizeOf22 rfl rfl rfl rfl (by omega) ?_
          refine TL.loadM2 (RdM.old h1) Try.isAgg22 x2 h4 (by omega) rfl rfl rfl ?_
          refine TL.move rfl rfl (v := .int .i64 x3) rfl ?_
          refine TL.chk fun h5 => ?_
          refine TL.ixs x3 x3.toNat (RdM.inn (RdM.old h1) h4) h5 Try.underlying22 Try.sizeOf2 rfl rfl rfl rfl (by omega) ?_
          refine TL.loadE (RdM.inn (RdM.old h1) h4) Try.isAgg2 x3.toNat 0 (gt_spec h5) (v := .int .i64 (gt (gt x1 x2) x3)) rfl (by simp only [show Ei.sz = 1 from rfl] <;> omega) rfl rfl rfl ?_
          refine TL.bin .i64 (gt (gt x1 x2) x3) 0 rfl rfl rfl rfl (v := .bool (decide ((gt (gt x1 x2) x3) > 0))) rfl ?_
          refine TL.done ?_
          refine TC.join1 (σ := (List Int)) (γ := Unit) (Γ' := (fun l3 _ => [(0, SV.v s1), (3, SV.v s2), (4, .int .i64 x2), (5, .int .i64 x3)])) (L' := (fun l3 _ => [row Ei 2 s2 l3])) ?_ ?_
          · refine TC.cond (b := (decide ((gt (gt x1 x2) x3) > 0))) rfl (fun c5 => ?_) (fun c6 => ?_)
            · refine TC.region ?_
              refine TL.move rfl rfl (v := SV.v s2) rfl ?_
              refine TL.move rfl rfl (v := SV.v s1) rfl ?_
              refine TL.move rfl rfl (v := .int .i64 x2) rfl ?_
              refine TL.ixsM x2 x2.toNat (RdM.old h1) h4 Try.underlying32 Try.sizeOf22 rfl rfl rfl rfl (by omega) ?_
              refine TL.loadM2 (RdM.old h1) Try.isAgg22 x2 h4 (by omega) rfl rfl rfl ?_
              refine TL.move rfl rfl (v := .int .i64 x3) rfl ?_
              refine TL.ixs x3 x3.toNat (RdM.inn (RdM.old h1) h4) h5 Try.underlying22 Try.sizeOf2 rfl rfl rfl rfl (by omega) ?_
              refine TL.loadE (RdM.inn (RdM.old h1) h4) Try.isAgg2 x3.toNat 0 (gt_spec h5) (v := .int .i64 (gt (gt x1 x2) x3)) rfl (by simp only [show Ei.sz = 1 from rfl] <;> omega) rfl rfl rfl ?_
              refine TL.chk fun h6 => ?_
              refine TL.ixs (gt (gt x1 x2) x3) ((gt (gt x1 x2) x3).toNat) (Rd.row 0 rfl) h6 Try.underlying22 Try.sizeOf2 rfl rfl rfl rfl (by omega) ?_
              refine TL.loadE (Rd.row 0 rfl) Try.isAgg2 (gt (gt x1 x2) x3).toNat 0 (gt_spec h6) (v := .int .i64 (gt l2 (gt (gt x1 x2) x3))) rfl (by simp only [show Ei.sz = 1 from rfl] <;> omega) rfl rfl rfl ?_
              refine TL.bin .i64 (gt l2 (gt (gt x1 x2) x3)) 1 rfl rfl rfl rfl (v := .int .i64 (w64 ((gt l2 (gt (gt x1 x2) x3)) + 1))) rfl ?_
              refine TL.ixs (gt (gt x1 x2) x3) ((gt (gt x1 x2) x3).toNat) (Rd.row 0 rfl) h6 Try.underlying22 Try.sizeOf2 rfl rfl rfl rfl (by omega) ?_
              refine TL.stE 0 ((gt (gt x1 x2) x3).toNat) (w64 ((gt l2 (gt (gt x1 x2) x3)) + 1)) (v := .int .i64 (w64 ((gt l2 (gt (gt x1 x2) x3)) + 1))) rfl Try.sizeOf2 rfl rfl rfl (by have h_ := h6; omega) (by simp only [show Ei.sz = 1 from rfl] <;> omega) rfl rfl rfl ?_
              refine TL.done ?_
              exact TC.nrm ((l2.set (gt (gt x1 x2) x3).toNat (w64 ((gt l2 (gt (gt x1 x2) x3)) + 1)))) (()) ⟨rfl, rfl, rfl, rfl, trivial⟩ [0] rfl
            · refine TC.region ?_
              refine TL.move rfl rfl (v := SV.v s2) rfl ?_
              refine TL.move rfl rfl (v := SV.v s1) rfl ?_
              refine TL.move rfl rfl (v := .int .i64 x2) rfl ?_
              refine TL.ixsM x2 x2.toNat (RdM.old h1) h4 Try.underlying32 Try.sizeOf22 rfl rfl rfl rfl (by omega) ?_
              refine TL.loadM2 (RdM.old h1) Try.isAgg22 x2 h4 (by omega) rfl rfl rfl ?_
              refine TL.move rfl rfl (v := .int .i64 x3) rfl ?_
              refine TL.ixs x3 x3.toNat (RdM.inn (RdM.old h1) h4) h5 Try.underlying22 Try.sizeOf2 rfl rfl rfl rfl (by omega) ?_
              refine TL.loadE (RdM.inn (RdM.old h1) h4) Try.isAgg2 x3.toNat 0 (gt_spec h5) (v := .int .i64 (gt (gt x1 x2) x3)) rfl (by simp only [show Ei.sz = 1 from rfl] <;> omega) rfl rfl rfl ?_
              refine TL.neg .i64 (gt (gt x1 x2) x3) rfl rfl rfl ?_
              refine TL.chk fun h7 => ?_
              refine TL.ixs (w64 (0 - (gt (gt x1 x2) x3))) ((w64 (0 - (gt (gt x1 x2) x3))).toNat) (Rd.row 0 rfl) h7 Try.underlying22 Try.sizeOf2 rfl rfl rfl rfl (by omega) ?_
              refine TL.loadE (Rd.row 0 rfl) Try.isAgg2 (w64 (0 - (gt (gt x1 x2) x3))).toNat 0 (gt_spec h7) (v := .int .i64 (gt l2 (w64 (0 - (gt (gt x1 x2) x3))))) rfl (by simp only [show Ei.sz = 1 from rfl] <;> omega) rfl rfl rfl ?_
              refine TL.bin .i64 (gt l2 (w64 (0 - (gt (gt x1 x2) x3)))) 1 rfl rfl rfl rfl (v := .int .i64 (w64 ((gt l2 (w64 (0 - (gt (gt x1 x2) x3)))) - 1))) rfl ?_
              refine TL.ixs (w64 (0 - (gt (gt x1 x2) x3))) ((w64 (0 - (gt (gt x1 x2) x3))).toNat) (Rd.row 0 rfl) h7 Try.underlying22 Try.sizeOf2 rfl rfl rfl rfl (by omega) ?_
              refine TL.stE 0 ((w64 (0 - (gt (gt x1 x2) x3))).toNat) (w64 ((gt l2 (w64 (0 - (gt (gt x1 x2) x3)))) - 1)) (v := .int .i64 (w64 ((gt l2 (w64 (0 - (gt (gt x1 x2) x3)))) - 1))) rfl Try.sizeOf2 rfl rfl rfl (by have h_ := h7; omega) (by simp only [show Ei.sz = 1 from rfl] <;> omega) rfl rfl rfl ?_
              refine TL.done ?_
              exact TC.nrm ((l2.set (w64 (0 - (gt (gt x1 x2) x3))).toNat (w64 ((gt l2 (w64 (0 - (gt (gt x1 x2) x3)))) - 1)))) (()) ⟨rfl, rfl, rfl, rfl, trivial⟩ [0] rfl
          · rintro l3 _
            refine TC.region ?_
            refine TL.move rfl rfl (v := .int .i64 x3) rfl ?_
            refine TL.bin .i64 x3 1 rfl rfl rfl rfl (v := .int .i64 (w64 (x3 + 1))) rfl ?_
            refine TL.assign rfl rfl (v := .int .i64 (w64 (x3 + 1))) rfl ?_
            refine TL.done ?_
            exact TC.next1 ((l3, (w64 (x3 + 1)))) (()) ⟨rfl, rfl, rfl, rfl, trivial⟩ [0] rfl
        · exact TC.brk1 ((l2, x3)) (()) ⟨rfl, rfl, rfl, rfl, trivial⟩ [0] rfl
      · rintro ⟨l2, x3⟩ _
        refine TC.region ?_
        refine TL.move rfl rfl (v := .int .i64 x2) rfl ?_
        refine TL.bin .i64 x2 1 rfl rfl rfl rfl (v := .int .i64 (w64 (x2 + 1))) rfl ?_
        refine TL.assign rfl rfl (v := .int .i64 (w64 (x2 + 1))) rfl ?_
        refine TL.done ?_
        exact TC.next1 ((l2, (w64 (x2 + 1)))) (()) ⟨rfl, rfl, rfl, trivial⟩ [0] rfl
    · exact TC.brk1 ((l1, x2)) (()) ⟨rfl, rfl, rfl, trivial⟩ [0] rfl
  · rintro ⟨l1, x2⟩ _
    refine TC.seq ?_
    refine TC.seq ?_
    refine TC.region ?_
    refine TL.assign rfl rfl (v := .int .i64 0) rfl ?_
    refine TL.done ?_
    refine TC.loopK (σ := Int) (γ := Unit) (Γ' := (fun x4 _ => [(3, SV.v s2), (6, .int .i64 x4)])) (L' := (fun x4 _ => [row Ei 2 s2 l1])) (Γb := (fun x4 _ => [(3, SV.v s2), (6, .int .i64 x4)])) (Lb := (fun x4 _ => [row Ei 2 s2 l1])) (0) (()) ⟨rfl, rfl, trivial⟩ [0] rfl ?_ ?_
    · rintro x4 _
      refine TC.seq ?_
      refine TC.seq ?_
      refine TC.region ?_
      refine TL.move rfl rfl (v := .int .i64 x4) rfl ?_
      refine TL.move rfl rfl (v := SV.v s2) rfl ?_
      refine TL.len (Rd.row 0 rfl) Try.underlying22 rfl rfl rfl ?_
      refine TL.bin .i64 x4 (l1.length : Int) rfl rfl rfl rfl (v := .bool (decide (x4 < (l1.length : Int)))) rfl ?_
      refine TL.done ?_
      refine TC.cond (b := (decide (x4 < (l1.length : Int)))) rfl (fun c7 => ?_) (fun c8 => ?_)
      · refine TC.skip ?_
        refine TC.seq ?_
        refine TC.block (NoEx.loop rfl NoEx.body) ?_
        refine TC.seq ?_
        refine TC.region ?_
        refine TL.move rfl rfl (v := SV.v s2) rfl ?_
        refine TL.move rfl rfl (v := .int .i64 x4) rfl ?_
        refine TL.chk fun h8 => ?_
        refine TL.ixs x4 x4.toNat (Rd.row 0 rfl) h8 Try.underlying22 Try.sizeOf2 rfl rfl rfl rfl (by omega) ?_
        refine TL.loadE (Rd.row 0 rfl) Try.isAgg2 x4.toNat 0 (gt_spec h8) (v := .int .i64 (gt l1 x4)) rfl (by simp only [show Ei.sz = 1 from rfl] <;> omega) rfl rfl rfl ?_
        refine TL.bin .i64 (gt l1 x4) 0 rfl rfl rfl rfl (v := .bool ((gt l1 x4) != 0)) rfl ?_
        refine TL.done ?_
        refine TC.cond (b := ((gt l1 x4) != 0)) rfl (fun c9 => ?_) (fun c10 => ?_)
        · refine TC.seq ?_
          refine TC.region ?_
          refine TL.assign rfl rfl (v := .bool false) rfl ?_
          refine TL.done ?_
          exact TC.retF (Fin.loop Far.ret (Fin.body (fin1 (.inr rfl) rfl (.tmp rfl) [] rfl ⟨rfl, rfl⟩)))
        · refine TC.skip ?_
          refine TC.region ?_
          refine TL.move rfl rfl (v := .int .i64 x4) rfl ?_
          refine TL.bin .i64 x4 1 rfl rfl rfl rfl (v := .int .i64 (w64 (x4 + 1))) rfl ?_
          refine TL.assign rfl rfl (v := .int .i64 (w64 (x4 + 1))) rfl ?_
          refine TL.done ?_
          exact TC.next ((w64 (x4 + 1))) (()) ⟨rfl, rfl, trivial⟩ [0] rfl
      · exact TC.brk (x4) (()) ⟨rfl, rfl, trivial⟩ [0] rfl
    · rintro x4 _
      refine TC.seq ?_
      refine TC.region ?_
      refine TL.assign rfl rfl (v := .bool true) rfl ?_
      refine TL.done ?_
      exact TC.retF (Fin.body (fin1 (.inr rfl) rfl (.tmp rfl) [] rfl ⟨rfl, rfl⟩))

end Go.Proofs.Ytiiljfpbcanphaa.G

/- impl.oriented$1, as a pure function. -/
set_option linter.unusedVariables false
namespace Go.Proofs.Ytiiljfpbcanphaa.G
open Go Go.Sx Go.Proofs

def impl_oriented_1.f (list_1 : List (Int × Int)) (c1 : List (List Int)) : Option Bool := chk 0 list_1.length (chk ((gt list_1 0).1) c1.length (chk ((gt list_1 0).2) ((gt c1 ((gt list_1 0).1)).length) (chk 1 list_1.length (chk ((gt list_1 1).1) c1.length (chk ((gt list_1 1).2) ((gt c1 ((gt list_1 1).1)).length) (some ((gt (gt c1 ((gt list_1 0).1)) ((gt list_1 0).2)) == (gt (gt c1 ((gt list_1 1).1)) ((gt list_1 1).2)))))))))

def impl_oriented_1.R (r : Bool) (v : Value) (L : List Asn) : Prop := v = .bool r ∧ L = []

set_option maxRecDepth 100000 in
set_option maxHeartbeats 4000000 in
theorem impl_oriented_1.calls (w : World) (s1 : SV) (list_1 : List (Int × Int)) (b_1 : Nat) (s2 : SV) (ss1 : List SV) (c1 : List (List Int)) (h1 : Reads Eii (hp w) s1 list_1) (h3 : At (hp w) b_1 [.one (SV.v s2)]) (h2 : ReadsM Ei (hp w) s2 ss1 c1) :
    ∀ r, impl_oriented_1.f list_1 c1 = some r → Calls Try.prog 152 #[SV.v s1, bp b_1 0] w (Ret w (impl_oriented_1.R r)) := by

  refine calls_T (n := 31) (Γ := [(0, SV.v s1), (1, bp b_1 0)]) (R := impl_oriented_1.R) Try.func152 rfl rfl (Nat.le_of_ble_eq_true rfl) ⟨rfl, rfl, trivial⟩ ?_
  unfold impl_oriented_1.f
  refine TC.seq ?_
  refine TC.region ?_
  refine TL.assign rfl rfl (v := .bool false) rfl ?_
  refine TL.done ?_
  refine TC.seq ?_
  refine TC.wk (Γ' := [(0, SV.v s1), (1, bp b_1 0)]) ⟨rfl, rfl, trivial⟩ ?_
  refine TC.chk fun h4 => ?_
  refine TC.chk fun h5 => ?_
  refine TC.chk fun h6 => ?_
  refine TC.chk fun h7 => ?_
  refine TC.chk fun h8 => ?_
  refine TC.chk fun h9 => ?_
  refine TC.draw [SV.v s2, SV.v s1, ep s1 0, ep s1 0, .int .i64 ((gt list_1 0).1), ep s2 (((gt list_1 0).1).toNat), SV.v (gt ss1 ((gt list_1 0).1)), SV.v s1, ep s1 0, ep s1 1, .int .i64 ((gt list_1 0).2), ep (gt ss1 ((gt list_1 0).1)) (((gt list_1 0).2).toNat), .int .i64 (gt (gt c1 ((gt list_1 0).1)) ((gt list_1 0).2)), SV.v s2, SV.v s1, ep s1 2, ep s1 2, .int .i64 ((gt list_1 1).1), ep s2 (((gt list_1 1).1).toNat), SV.v (gt ss1 ((gt list_1 1).1)), SV.v s1, ep s1 2, ep s1 3, .int .i64 ((gt list_1 1).2), ep (gt ss1 ((gt list_1 1).1)) (((gt list_1 1).2).toNat), .int .i64 (gt (gt c1 ((gt list_1 1).1)) ((gt list_1 1).2)), .bool ((gt (gt c1 ((gt list_1 0).1)) ((gt list_1 0).2)) == (gt (gt c1 ((gt list_1 1).1)) ((gt list_1 1).2))), .bool ((gt (gt c1 ((gt list_1 0).1)) ((gt list_1 0).2)) == (gt (gt c1 ((gt list_1 1).1)) ((gt list_1 1).2)))] 28 [] (by kernel_rfl) rfl rfl rfl rfl ?_ ?_
  · refine ⟨?_, ?_, ?_, ?_, ?_, ?_, ?_, ?_, ?_, ?_, ?_, ?_, ?_, ?_, ?_, ?_, ?_, ?_, ?_, ?_, ?_, ?_, ?_, ?_, ?_, ?_, ?_, ?_, trivial⟩
    · refine TL.load1 0 (Src.at h3) Try.isAgg32 rfl rfl rfl rfl rfl ?_
      refine TL.done ?_
      exact TC.nrm () () ⟨rfl, trivial⟩ [] (by kernel_rfl)
    · refine TL.move rfl rfl (v := SV.v s1) rfl ?_
      refine TL.done ?_
      exact TC.nrm () () ⟨rfl, trivial⟩ [] (by kernel_rfl)
    · refine TL.ixs 0 0 (Rd.old h1) h4 Try.underlying104 Try.sizeOf108 rfl rfl rfl rfl rfl ?_
      refine TL.done ?_
      exact TC.nrm () () ⟨rfl, trivial⟩ [] (by kernel_rfl)
    · refine TL.fae (Rd.old h1) (by have := h4; omega) Try.underlying108 rfl Try.sizeOf3 rfl 0 rfl rfl rfl rfl ?_
      refine TL.done ?_
      exact TC.nrm () () ⟨rfl, trivial⟩ [] (by kernel_rfl)
    · refine TL.loadE (Rd.old h1) Try.isAgg3 0 0 (gt_spec h4) (v := .int .i64 ((gt list_1 0).1)) rfl rfl rfl rfl rfl ?_
      refine TL.done ?_
      exact TC.nrm () () ⟨rfl, trivial⟩ [] (by kernel_rfl)
    · refine TL.ixsM ((gt list_1 0).1) (((gt list_1 0).1).toNat) (RdM.old h2) h5 Try.underlying32 Try.sizeOf22 rfl rfl rfl rfl (by omega) ?_
      refine TL.done ?_
      exact TC.nrm () () ⟨rfl, trivial⟩ [] (by kernel_rfl)
    · refine TL.loadM2 (RdM.old h2) Try.isAgg22 ((gt list_1 0).1) h5 (by omega) rfl rfl rfl ?_
      refine TL.done ?_
      exact TC.nrm () () ⟨rfl, trivial⟩ [] (by kernel_rfl)
    · refine TL.move rfl rfl (v := SV.v s1) rfl ?_
      refine TL.done ?_
      exact TC.nrm () () ⟨rfl, trivial⟩ [] (by kernel_rfl)
    · refine TL.ixs 0 0 (Rd.old h1) h4 Try.underlying104 Try.sizeOf108 rfl rfl rfl rfl rfl ?_
      refine TL.done ?_
      exact TC.nrm () () ⟨rfl, trivial⟩ [] (by kernel_rfl)
    · refine TL.fae (Rd.old h1) (by have := h4; omega) Try.underlying108 rfl Try.sizeOf3 rfl 1 rfl rfl rfl rfl ?_
      refine TL.done ?_
      exact TC.nrm () () ⟨rfl, trivial⟩ [] (by kernel_rfl)
    · refine TL.loadE (Rd.old h1) Try.isAgg3 0 1 (gt_spec h4) (v := .int .i64 ((gt list_1 0).2)) rfl rfl rfl rfl rfl ?_
      refine TL.done ?_
      exact TC.nrm () () ⟨rfl, trivial⟩ [] (by kernel_rfl)
    · refine TL.ixs ((gt list_1 0).2) (((gt list_1 0).2).toNat) (RdM.inn (RdM.old h2) h5) h6 Try.underlying22 Try.sizeOf2 rfl rfl rfl rfl (by omega) ?_
      refine TL.done ?_
      exact TC.nrm () () ⟨rfl, trivial⟩ [] (by kernel_rfl)
    · refine TL.loadE (RdM.inn (RdM.old h2) h5) Try.isAgg2 ((gt list_1 0).2).toNat 0 (gt_spec h6) (v := .int .i64 (gt (gt c1 ((gt list_1 0).1)) ((gt list_1 0).2))) rfl (by simp only [show Ei.sz = 1 from rfl] <;> omega) rfl rfl rfl ?_
      refine TL.done ?_
      exact TC.nrm () () ⟨rfl, trivial⟩ [] (by kernel_rfl)
    · refine TL.load1 0 (Src.at h3) Try.isAgg32 rfl rfl rfl rfl rfl ?_
      refine TL.done ?_
      exact TC.nrm () () ⟨rfl, trivial⟩ [] (by kernel_rfl)
    · refine TL.move rfl rfl (v := SV.v s1) rfl ?_
      refine TL.done ?_
      exact TC.nrm () () ⟨rfl, trivial⟩ [] (by kernel_rfl)
    · refine TL.ixs 1 2 (Rd.old h1) h7 Try.underlying104 Try.sizeOf108 rfl rfl rfl rfl rfl ?_
      refine TL.done ?_
      exact TC.nrm () () ⟨rfl, trivial⟩ [] (by kernel_rfl)
    · refine TL.fae (Rd.old h1) (by have := h7; omega) Try.underlying108 rfl Try.sizeOf3 rfl 2 rfl rfl rfl rfl ?_
      refine TL.done ?_
      exact TC.nrm () () ⟨rfl, trivial⟩ [] (by kernel_rfl)
    · refine TL.loadE (Rd.old h1) Try.isAgg3 1 0 (gt_spec h7) (v := .int .i64 ((gt list_1 1).1)) rfl rfl rfl rfl rfl ?_
      refine TL.done ?_
      exact TC.nrm () () ⟨rfl, trivial⟩ [] (by kernel_rfl)
    · refine TL.ixsM ((gt list_1 1).1) (((gt list_1 1).1).toNat) (RdM.old h2) h8 Try.underlying32 Try.sizeOf22 rfl rfl rfl rfl (by omega) ?_
      refine TL.done ?_
      exact TC.nrm () () ⟨rfl, trivial⟩ [] (by kernel_rfl)
    · refine TL.loadM2 (RdM.old h2) Try.isAgg22 ((gt list_1 1).1) h8 (by omega) rfl rfl rfl ?_
      refine TL.done ?_
      exact TC.nrm () () ⟨rfl, trivial⟩ [] (by kernel_rfl)
    · refine TL.move rfl rfl (v := SV.v s1) rfl ?_
      refine TL.done ?_
      exact TC.nrm () () ⟨rfl, trivial⟩ [] (by kernel_rfl)
    · refine TL.ixs 1 2 (Rd.old h1) h7 Try.underlying104 Try.sizeOf108 rfl rfl rfl rfl rfl ?_
      refine TL.done ?_
      exact TC.nrm () () ⟨rfl, trivial⟩ [] (by kernel_rfl)
    · refine TL.fae (Rd.old h1) (by have := h7; omega) Try.underlying108 rfl Try.sizeOf3 rfl 3 rfl rfl rfl rfl ?_
      refine TL.done ?_
      exact TC.nrm () () ⟨rfl, trivial⟩ [] (by kernel_rfl)
    · refine TL.loadE (Rd.old h1) Try.isAgg3 1 1 (gt_spec h7) (v := .int .i64 ((gt list_1 1).2)) rfl rfl rfl rfl rfl ?_
      refine TL.done ?_
      exact TC.nrm () () ⟨rfl, trivial⟩ [] (by kernel_rfl)
    · refine TL.ixs ((gt list_1 1).2) (((gt list_1 1).2).toNat) (RdM.inn (RdM.old h2) h8) h9 Try.underlying22 Try.sizeOf2 rfl rfl rfl rfl (by omega) ?_
      refine TL.done ?_
      exact TC.nrm () () ⟨rfl, trivial⟩ [] (by kernel_rfl)
    · refine TL.loadE (RdM.inn (RdM.old h2) h8) Try.isAgg2 ((gt list_1 1).2).toNat 0 (gt_spec h9) (v := .int .i64 (gt (gt c1 ((gt list_1 1).1)) ((gt list_1 1).2))) rfl (by simp only [show Ei.sz = 1 from rfl] <;> omega) rfl rfl rfl ?_
      refine TL.done ?_
      exact TC.nrm () () ⟨rfl, trivial⟩ [] (by kernel_rfl)
    · refine TL.bin .i64 (gt (gt c1 ((gt list_1 0).1)) ((gt list_1 0).2)) (gt (gt c1 ((gt list_1 1).1)) ((gt list_1 1).2)) rfl rfl rfl rfl (v := .bool ((gt (gt c1 ((gt list_1 0).1)) ((gt list_1 0).2)) == (gt (gt c1 ((gt list_1 1).1)) ((gt list_1 1).2)))) rfl ?_
      refine TL.done ?_
      exact TC.nrm () () ⟨rfl, trivial⟩ [] (by kernel_rfl)
    · refine TL.assign rfl rfl (v := .bool ((gt (gt c1 ((gt list_1 0).1)) ((gt list_1 0).2)) == (gt (gt c1 ((gt list_1 1).1)) ((gt list_1 1).2)))) rfl ?_
      refine TL.done ?_
      exact TC.nrm () () ⟨rfl, trivial⟩ [] (by kernel_rfl)
  · exact TC.retF (Fin.body (fin1 (.inr rfl) rfl (.tmp rfl) [] rfl ⟨rfl, rfl⟩))

end Go.Proofs.Ytiiljfpbcanphaa.G

/- impl.oriented, as a pure function. -/
set_option linter.unusedVariables false
namespace Go.Proofs.Ytiiljfpbcanphaa.G
open Go Go.Sx Go.Proofs

def impl_oriented.f (s1 : List (List Int)) : Option Bool := (G.impl_sidesOfEdges.f s1).bind (fun r_1 => grd (decide (0 ≤ 1) && decide (1 ≤ (r_1.length : Int)) && decide ((r_1.length : Int) ≤ (r_1.length : Int))) ((G.slices_ContainsFunc_impl_sided_impl_sided.f ((r_1.drop 1).take (r_1.length - 1)) (fun x0_ => G.impl_oriented_1.f x0_ s1)).bind (fun r_2 => some (!r_2))))

def impl_oriented.R (r : Bool) (v : Value) (L : List Asn) : Prop := v = .bool r ∧ L = []

set_option maxRecDepth 100000 in
set_option maxHeartbeats 4000000 in
theorem impl_oriented.calls (w : World) (s2 : SV) (ss1 : List SV) (s1 : List (List Int)) (h1 : ReadsM Ei (hp w) s2 ss1 s1) :
    ∀ r, impl_oriented.f s1 = some r → Calls Try.prog 108 #[SV.v s2] w (Ret w (impl_oriented.R r)) := by

  refine calls_T (n := 9) (Γ := [(0, SV.v s2)]) (R := impl_oriented.R) Try.func108 rfl rfl (Nat.le_of_ble_eq_true rfl) ⟨rfl, trivial⟩ ?_
  unfold impl_oriented.f
  refine TC.seq ?_
  refine TC.region ?_
  refine TL.box [.one (SV.v s2)] rfl rfl rfl rfl fun b_1 => ?_
  refine TL.assign rfl rfl (v := .bool false) rfl ?_
  refine TL.done ?_
  refine TC.seq ?_
  refine TC.region ?_
  refine TL.load1 0 (Src.box 0 rfl) Try.isAgg32 rfl rfl rfl rfl rfl ?_
  refine TL.call (R := G.impl_sidesOfEdges.R) Try.call119 rfl rfl rfl (fun w hS => G.impl_sidesOfEdges.calls w s2 ss1 s1 ((RdM.old h1) w hS)) ?_
  rintro r_1 _ _ ⟨s3, ss2, rfl, rfl⟩
  refine TL.grd fun h2 => ?_
  refine TL.sliceM (li := (some 1)) (hi' := none) (l := 1) (h := r_1.length) (RdM.mat 0 rfl) Try.underlying105 Try.sizeOf104 rfl rfl (by have h_ := h2; simp only [Bool.and_eq_true, decide_eq_true_eq] at h_; first | rfl | omega | (simp only [Option.getD_none, Option.getD_some]; omega)) (by have h_ := h2; simp only [Bool.and_eq_true, decide_eq_true_eq] at h_; first | rfl | omega | (simp only [Option.getD_none, Option.getD_some]; omega)) (by have h_ := h2; simp only [Bool.and_eq_true, decide_eq_true_eq] at h_; omega) (by have h_ := h2; simp only [Bool.and_eq_true, decide_eq_true_eq] at h_; omega) rfl rfl rfl ?_
  refine TL.makeFunc rfl rfl (us := []) (vs := [bp b_1 0]) rfl rfl ?_
  refine TL.call (R := G.slices_ContainsFunc_impl_sided_impl_sided.R) Try.call125 rfl rfl rfl (fun w hS => G.slices_ContainsFunc_impl_sided_impl_sided.calls w (SV.cut s3 1 r_1.length s3.c Ev.sz) ((ss2.drop 1).take (r_1.length - 1)) ((r_1.drop 1).take (r_1.length - 1)) 152 [] [bp b_1 0] (fun x0_ => G.impl_oriented_1.f x0_ s1) ((RdM.cut (RdM.mat 0 rfl) (by have h_ := h2; simp only [Bool.and_eq_true, decide_eq_true_eq] at h_; omega) (by have h_ := h2; simp only [Bool.and_eq_true, decide_eq_true_eq] at h_; omega)) w hS) Try.call152 (fun w_ hle_ s1_ x0_ h0_ r_ hr_ => G.impl_oriented_1.calls w_ s1_ x0_ b_1 s2 ss1 s1 h0_ (((Src.box 1 rfl) w hS).mono hle_) (((RdM.old h1) w hS).mono hle_) r_ hr_)) ?_
  rintro r_2 _ _ ⟨rfl, rfl⟩
  refine TL.not r_2 rfl rfl rfl ?_
  refine TL.assign rfl rfl (v := .bool (!r_2)) rfl ?_
  refine TL.done ?_
  exact TC.retF (Fin.body (fin1 (.inr rfl) rfl (.tmp rfl) [] rfl ⟨rfl, rfl⟩))

end Go.Proofs.Ytiiljfpbcanphaa.G

/- impl.ends, as a pure function. -/
set_option linter.unusedVariables false
namespace Go.Proofs.Ytiiljfpbcanphaa.G
open Go Go.Sx Go.Proofs

def impl_ends.f (k_1 : Int) : Option (Int × Int) := (G.impl_size.f k_1).bind (fun r_1 => (bif (decide (k_1 > 0)) then some ((w64 (2 * (w64 (r_1 - 1)))), (w64 ((w64 (2 * (w64 (r_1 - 1)))) + 1))) else some ((w64 ((w64 (2 * (w64 (r_1 - 1)))) + 1)), (w64 (2 * (w64 (r_1 - 1)))))))

def impl_ends.R (r : Int × Int) (v : Value) (L : List Asn) : Prop := v = .tuple #[.int .i64 r.1, .int .i64 r.2] ∧ L = []

set_option maxRecDepth 100000 in
set_option maxHeartbeats 4000000 in
theorem impl_ends.calls (w : World) (k_1 : Int) :
    ∀ r, impl_ends.f k_1 = some r → Calls Try.prog 171 #[.int .i64 k_1] w (Ret w (impl_ends.R r)) := by

  refine calls_T (n := 17) (Γ := [(0, .int .i64 k_1)]) (R := impl_ends.R) Try.func171 rfl rfl (Nat.le_of_ble_eq_true rfl) ⟨rfl, trivial⟩ ?_
  unfold impl_ends.f
  refine TC.seq ?_
  refine TC.region ?_
  refine TL.assign rfl rfl (v := .int .i64 0) rfl ?_
  refine TL.assign rfl rfl (v := .int .i64 0) rfl ?_
  refine TL.done ?_
  refine TC.seq ?_
  refine TC.region ?_
  refine TL.move rfl rfl (v := .int .i64 k_1) rfl ?_
  refine TL.call (R := G.impl_size.R) Try.call167 rfl rfl rfl (fun w hS => G.impl_size.calls w k_1) ?_
  rintro r_1 _ _ ⟨rfl, rfl⟩
  refine TL.bin .i64 r_1 1 rfl rfl rfl rfl (v := .int .i64 (w64 (r_1 - 1))) rfl ?_
  refine TL.bin .i64 2 (w64 (r_1 - 1)) rfl rfl rfl rfl (v := .int .i64 (w64 (2 * (w64 (r_1 - 1))))) rfl ?_
  refine TL.assign rfl rfl (v := .int .i64 (w64 (2 * (w64 (r_1 - 1))))) rfl ?_
  refine TL.done ?_
  refine TC.seq ?_
  refine TC.seq ?_
  refine TC.region ?_
  refine TL.move rfl rfl (v := .int .i64 k_1) rfl ?_
  refine TL.bin .i64 k_1 0 rfl rfl rfl rfl (v := .bool (decide (k_1 > 0))) rfl ?_
  refine TL.done ?_
  refine TC.cond (b := (decide (k_1 > 0))) rfl (fun c1 => ?_) (fun c2 => ?_)
  · refine TC.seq ?_
    refine TC.region ?_
    refine TL.move rfl rfl (v := .int .i64 (w64 (2 * (w64 (r_1 - 1))))) rfl ?_
    refine TL.move rfl rfl (v := .int .i64 (w64 (2 * (w64 (r_1 - 1))))) rfl ?_
    refine TL.bin .i64 (w64 (2 * (w64 (r_1 - 1)))) 1 rfl rfl rfl rfl (v := .int .i64 (w64 ((w64 (2 * (w64 (r_1 - 1)))) + 1))) rfl ?_
    refine TL.assign rfl rfl (v := .int .i64 (w64 (2 * (w64 (r_1 - 1))))) rfl ?_
    refine TL.assign rfl rfl (v := .int .i64 (w64 ((w64 (2 * (w64 (r_1 - 1)))) + 1))) rfl ?_
    refine TL.done ?_
    exact TC.retF (Fin.body (fin2 (.inr rfl) rfl (.tmp rfl) (.tmp rfl) [] rfl ⟨rfl, rfl⟩))
  · refine TC.skip ?_
    refine TC.seq ?_
    refine TC.region ?_
    refine TL.move rfl rfl (v := .int .i64 (w64 (2 * (w64 (r_1 - 1))))) rfl ?_
    refine TL.bin .i64 (w64 (2 * (w64 (r_1 - 1)))) 1 rfl rfl rfl rfl (v := .int .i64 (w64 ((w64 (2 * (w64 (r_1 - 1)))) + 1))) rfl ?_
    refine TL.move rfl rfl (v := .int .i64 (w64 (2 * (w64 (r_1 - 1))))) rfl ?_
    refine TL.assign rfl rfl (v := .int .i64 (w64 ((w64 (2 * (w64 (r_1 - 1)))) + 1))) rfl ?_
    refine TL.assign rfl rfl (v := .int .i64 (w64 (2 * (w64 (r_1 - 1))))) rfl ?_
    refine TL.done ?_
    exact TC.retF (Fin.body (fin2 (.inr rfl) rfl (.tmp rfl) (.tmp rfl) [] rfl ⟨rfl, rfl⟩))

end Go.Proofs.Ytiiljfpbcanphaa.G

/- impl.vertices, as a pure function. -/
set_option linter.unusedVariables false
namespace Go.Proofs.Ytiiljfpbcanphaa.G
open Go Go.Sx Go.Proofs

def impl_vertices.b0 (s1 : List (List Int)) (x1 : Int) : (List Int) × Int → Option (LB ((List Int) × Int)) := fun p => match p with | (p2, x2) => (bif (decide (x2 < ((gt s1 x1).length : Int))) then chk x2 ((gt s1 x1).length) ((G.impl_ends.f (gt (gt s1 x1) x2)).bind (fun p => match p with | (r_3, r_4) => chk (Int.tmod (w64 (x2 + 1)) 3) ((gt s1 x1).length) ((G.impl_ends.f (gt (gt s1 x1) (Int.tmod (w64 (x2 + 1)) 3))).bind (fun p => match p with | (r_5, r_6) => (G.impl_pool_join.f p2 r_4 r_5).bind (fun p3 => some (.next (p3, (w64 (x2 + 1))))))))) else some (.brk (p2, x2)))

def impl_vertices.b1 (s1 : List (List Int)) : (List Int) × Int → Option (LB ((List Int) × Int)) := fun p => match p with | (p1, x1) => (bif (decide (x1 < (s1.length : Int))) then chk x1 s1.length ((loop1 (impl_vertices.b0 s1 x1) (p1, 0)).bind (fun p => match p with | (p2, x2) => some (.next (p2, (w64 (x1 + 1)))))) else some (.brk (p1, x1)))

def impl_vertices.f (s1 : List (List Int)) : Option Int := (G.impl_edgesOf.f s1).bind (fun r_1 => (G.impl_poolOf.f (w64 (2 * r_1))).bind (fun r_2 => (loop1 (impl_vertices.b1 s1) (r_2, 0)).bind (fun p => match p with | (p1, x1) => (G.impl_pool_distinct.f p1).bind (fun r_7 => some r_7))))

def impl_vertices.R (r : Int) (v : Value) (L : List Asn) : Prop := v = .int .i64 r ∧ L = []

set_option maxRecDepth 100000 in
set_option maxHeartbeats 4000000 in
theorem impl_vertices.calls (w : World) (s2 : SV) (ss1 : List SV) (s1 : List (List Int)) (h1 : ReadsM Ei (hp w) s2 ss1 s1) :
    ∀ r, impl_vertices.f s1 = some r → Calls Try.prog 131 #[SV.v s2] w (Ret w (impl_vertices.R r)) := by

  refine calls_T (n := 52) (Γ := [(0, SV.v s2)]) (R := impl_vertices.R) Try.func131 rfl rfl (Nat.le_of_ble_eq_true rfl) ⟨rfl, trivial⟩ ?_
  unfold impl_vertices.f
  refine TC.seq ?_
  refine TC.region ?_
  refine TL.assign rfl rfl (v := .int .i64 0) rfl ?_
  refine TL.done ?_
  refine TC.seq ?_
  refine TC.region ?_
  refine TL.move rfl rfl (v := SV.v s2) rfl ?_
  refine TL.call (R := G.impl_edgesOf.R) Try.call118 rfl rfl rfl (fun w hS => G.impl_edgesOf.calls w s2 ss1 s1 ((RdM.old h1) w hS)) ?_
  rintro r_1 _ _ ⟨rfl, rfl⟩
  refine TL.bin .i64 2 r_1 rfl rfl rfl rfl (v := .int .i64 (w64 (2 * r_1))) rfl ?_
  refine TL.call (R := G.impl_poolOf.R) Try.call170 rfl rfl rfl (fun w hS => G.impl_poolOf.calls w (w64 (2 * r_1))) ?_
  rintro r_2 _ _ ⟨s3, rfl, rfl⟩
  refine TL.assign rfl rfl (v := SV.v s3) rfl ?_
  refine TL.done ?_
  refine TC.seq ?_
  refine TC.seq ?_
  refine TC.region ?_
  refine TL.move rfl rfl (v := SV.v s2) rfl ?_
  refine TL.lenM (RdM.old h1) Try.underlying32 rfl rfl rfl ?_
  refine TL.move rfl rfl (v := .int .i64 0) rfl ?_
  refine TL.done ?_
  refine TC.loop1 (σ := (List Int) × Int) (γ := Unit) (Γ' := (fun p q => match p, q with | (p1, x1), _ => [(3, SV.v s3), (16, SV.v s2), (17, .int .i64 (s1.length : Int)), (18, .int .i64 x1)])) (L' := (fun p q => match p, q with | (p1, x1), _ => [row Ei 3 s3 p1])) (Γb := (fun p q => match p, q with | (p1, x1), _ => [(3, SV.v s3), (16, SV.v s2), (17, .int .i64 (s1.length : Int)), (18, .int .i64 x1)])) (Lb := (fun p q => match p, q with | (p1, x1), _ => [row Ei 3 s3 p1])) ((r_2, 0)) (()) ⟨rfl, rfl, rfl, rfl, trivial⟩ [0] rfl ?_ ?_
  · rintro ⟨p1, x1⟩ _
    refine TC.seq ?_
    refine TC.region ?_
    refine TL.bin .i64 x1 (s1.length : Int) rfl rfl rfl rfl (v := .bool (decide (x1 < (s1.length : Int)))) rfl ?_
    refine TL.done ?_
    refine TC.seq ?_
    refine TC.cond (b := (decide (x1 < (s1.length : Int)))) rfl (fun c1 => ?_) (fun c2 => ?_)
    · refine TC.skip ?_
      refine TC.seq ?_
      refine TC.block (NoEx.loop1 rfl) ?_
      refine TC.seq ?_
      refine TC.region ?_
      refine TL.chk fun h2 => ?_
      refine TL.ixsM x1 x1.toNat (RdM.old h1) h2 Try.underlying32 Try.sizeOf22 rfl rfl rfl rfl (by omega) ?_
      refine TL.loadM2 (RdM.old h1) Try.isAgg22 x1 h2 (by omega) rfl rfl rfl ?_
      refine TL.assign rfl rfl (v := SV.v (gt ss1 x1)) rfl ?_
      refine TL.done ?_
      refine TC.seq ?_
      refine TC.region ?_
      refine TL.move rfl rfl (v := SV.v (gt ss1 x1)) rfl ?_
      refine TL.len (RdM.inn (RdM.old h1) h2) Try.underlying22 rfl rfl rfl ?_
      refine TL.move rfl rfl (v := .int .i64 0) rfl ?_
      refine TL.done ?_
      refine TC.loop1 (σ := (List Int) × Int) (γ := Unit) (Γ' := (fun p q => match p, q with | (p2, x2), _ => [(3, SV.v s3), (5, SV.v (gt ss1 x1)), (16, SV.v s2), (17, .int .i64 (s1.length : Int)), (18, .int .i64 x1), (22, SV.v (gt ss1 x1)), (23, .int .i64 ((gt s1 x1).length : Int)), (24, .int .i64 x2)])) (L' := (fun p q => match p, q with | (p2, x2), _ => [row Ei 3 s3 p2])) (Γb := (fun p q => match p, q with | (p2, x2), _ => [(3, SV.v s3), (5, SV.v (gt ss1 x1)), (16, SV.v s2), (17, .int .i64 (s1.length : Int)), (18, .int .i64 x1), (22, SV.v (gt ss1 x1)), (23, .int .i64 ((gt s1 x1).length : Int)), (24, .int .i64 x2)])) (Lb := (fun p q => match p, q with | (p2, x2), _ => [row Ei 3 s3 p2])) ((p1, 0)) (()) ⟨rfl, rfl, rfl, rfl, rfl, rfl, rfl, rfl, trivial⟩ [0] rfl ?_ ?_
      · rintro ⟨p2, x2⟩ _
        refine TC.seq ?_
        refine TC.region ?_
        refine TL.bin .i64 x2 ((gt s1 x1).length : Int) rfl rfl rfl rfl (v := .bool (decide (x2 < ((gt s1 x1).length : Int)))) rfl ?_
        refine TL.done ?_
        refine TC.seq ?_
        refine TC.cond (b := (decide (x2 < ((gt s1 x1).length : Int)))) rfl (fun c3 => ?_) (fun c4 => ?_)
        · refine TC.skip ?_
          refine TC.seq ?_
          refine TC.block (NoEx.loop1 rfl) ?_
          refine TC.seq ?_
          refine TC.region ?_
          refine TL.move rfl rfl (v := .int .i64 x2) rfl ?_
          refine TL.chk fun h3 => ?_
          refine TL.ixs x2 x2.toNat (RdM.inn (RdM.old h1) h2) h3 Try.underlying22 Try.sizeOf2 rfl rfl rfl rfl (by omega) ?_
          refine TL.loadE (RdM.inn (RdM.old h1) h2) Try.isAgg2 x2.toNat 0 (gt_spec h3) (v := .int .i64 (gt (gt s1 x1) x2)) rfl (by simp only [show Ei.sz = 1 from rfl] <;> omega) rfl rfl rfl ?_
          refine TL.assign rfl rfl (v := .int .i64 x2) rfl ?_
          refine TL.assign rfl rfl (v := .int .i64 (gt (gt s1 x1) x2)) rfl ?_
          refine TL.done ?_
          refine TC.seq ?_
          refine TC.region ?_
          refine TL.move rfl rfl (v := .int .i64 (gt (gt s1 x1) x2)) rfl ?_
          refine TL.call (R := G.impl_ends.R) Try.call171 rfl rfl rfl (fun w hS => G.impl_ends.calls w (gt (gt s1 x1) x2)) ?_
          rintro ⟨r_3, r_4⟩ _ _ ⟨rfl, rfl⟩
          refine TL.move rfl rfl (v := .tuple #[.int .i64 r_3, .int .i64 r_4]) rfl ?_
          refine TL.extract rfl rfl rfl (v := .int .i64 r_3) rfl ?_
          refine TL.extract rfl rfl rfl (v := .int .i64 r_4) rfl ?_
          refine TL.assign rfl rfl (v := .int .i64 r_3) rfl ?_
          refine TL.assign rfl rfl (v := .int .i64 r_4) rfl ?_
          refine TL.done ?_
          refine TC.seq ?_
          refine TC.region ?_
          refine TL.move rfl rfl (v := SV.v (gt ss1 x1)) rfl ?_
          refine TL.move rfl rfl (v := .int .i64 x2) rfl ?_
          refine TL.bin .i64 x2 1 rfl rfl rfl rfl (v := .int .i64 (w64 (x2 + 1))) rfl ?_
          refine TL.rem .i64 (w64 (x2 + 1)) 3 (by decide) rfl rfl rfl rfl ?_
          refine TL.chk fun h4 => ?_
          refine TL.ixs (Int.tmod (w64 (x2 + 1)) 3) ((Int.tmod (w64 (x2 + 1)) 3).toNat) (RdM.inn (RdM.old h1) h2) h4 Try.underlying22 Try.sizeOf2 rfl rfl rfl rfl (by omega) ?_
          refine TL.loadE (RdM.inn (RdM.old h1) h2) Try.isAgg2 (Int.tmod (w64 (x2 + 1)) 3).toNat 0 (gt_spec h4) (v := .int .i64 (gt (gt s1 x1) (Int.tmod (w64 (x2 + 1)) 3))) rfl (by simp only [show Ei.sz = 1 from rfl] <;> omega) rfl rfl rfl ?_
          refine TL.call (R := G.impl_ends.R) Try.call171 rfl rfl rfl (fun w hS => G.impl_ends.calls w (gt (gt s1 x1) (Int.tmod (w64 (x2 + 1)) 3))) ?_
          rintro ⟨r_5, r_6⟩ _ _ ⟨rfl, rfl⟩
          refine TL.move rfl rfl (v := .tuple #[.int .i64 r_5, .int .i64 r_6]) rfl ?_
          refine TL.extract rfl rfl rfl (v := .int .i64 r_5) rfl ?_
          refine TL.extract rfl rfl rfl (v := .int .i64 r_6) rfl ?_
          refine TL.assign rfl rfl (v := .int .i64 r_5) rfl ?_
          refine TL.assign rfl rfl (v := .int .i64 r_6) rfl ?_
          refine TL.done ?_
          refine TC.region ?_
          refine TL.move rfl rfl (v := SV.v s3) rfl ?_
          refine TL.move rfl rfl (v := .int .i64 r_4) rfl ?_
          refine TL.move rfl rfl (v := .int .i64 r_5) rfl ?_
          refine TL.callX (R := G.impl_pool_join.R s3) [0] [row Ei 3 s3 p2] [] rfl Try.call172 rfl rfl rfl (fun w I_ hle hB hS => G.impl_pool_join.calls _ I_ w s3 p2 r_4 r_5 hS) ?_
          rintro p3 _ _ ⟨rfl, rfl⟩
          refine TL.done ?_
          refine TC.region ?_
          refine TL.bin .i64 x2 1 rfl rfl rfl rfl (v := .int .i64 (w64 (x2 + 1))) rfl ?_
          refine TL.move rfl rfl (v := .int .i64 (w64 (x2 + 1))) rfl ?_
          refine TL.done ?_
          exact TC.next1 ((p3, (w64 (x2 + 1)))) (()) ⟨rfl, rfl, rfl, rfl, rfl, rfl, rfl, rfl, trivial⟩ [0] rfl
        · exact TC.brk1 ((p2, x2)) (()) ⟨rfl, rfl, rfl, rfl, rfl, rfl, rfl, rfl, trivial⟩ [0] rfl
      · rintro ⟨p2, x2⟩ _
        refine TC.region ?_
        refine TL.bin .i64 x1 1 rfl rfl rfl rfl (v := .int .i64 (w64 (x1 + 1))) rfl ?_
        refine TL.move rfl rfl (v := .int .i64 (w64 (x1 + 1))) rfl ?_
        refine TL.done ?_
        exact TC.next1 ((p2, (w64 (x1 + 1)))) (()) ⟨rfl, rfl, rfl, rfl, trivial⟩ [0] rfl
    · exact TC.brk1 ((p1, x1)) (()) ⟨rfl, rfl, rfl, rfl, trivial⟩ [0] rfl
  · rintro ⟨p1, x1⟩ _
    refine TC.seq ?_
    refine TC.region ?_
    refine TL.move rfl rfl (v := SV.v s3) rfl ?_
    refine TL.call (R := G.impl_pool_distinct.R) Try.call173 rfl rfl rfl (fun w hS => G.impl_pool_distinct.calls w s3 p1 ((Rd.row 0 rfl) w hS)) ?_
    rintro r_7 _ _ ⟨rfl, rfl⟩
    refine TL.assign rfl rfl (v := .int .i64 r_7) rfl ?_
    refine TL.done ?_
    exact TC.retF (Fin.body (fin1 (.inr rfl) rfl (.tmp rfl) [] rfl ⟨rfl, rfl⟩))

end Go.Proofs.Ytiiljfpbcanphaa.G

/- spec.l07End, as a pure function. -/
set_option linter.unusedVariables false
namespace Go.Proofs.Ytiiljfpbcanphaa.G
open Go Go.Sx Go.Proofs

def spec_l07End.f (side1 : Int) (end_1 : Bool) : Option Int := ((bif (decide (side1 < 0)) then some ((w64 (0 - side1)), (!end_1)) else some (side1, end_1))).bind (fun p => match p with | (side2, end_2) => (bif end_2 then some (w64 ((w64 (2 * side2)) - 1)) else some (w64 ((w64 (2 * side2)) - 2))))

def spec_l07End.R (r : Int) (v : Value) (L : List Asn) : Prop := v = .int .i64 r ∧ L = []

set_option maxRecDepth 100000 in
set_option maxHeartbeats 4000000 in
theorem spec_l07End.calls (w : World) (side1 : Int) (end_1 : Bool) :
    ∀ r, spec_l07End.f side1 end_1 = some r → Calls Try.prog 176 #[.int .i64 side1, .bool end_1] w (Ret w (spec_l07End.R r)) := by

  refine calls_T (n := 18) (Γ := [(0, .int .i64 side1), (1, .bool end_1)]) (R := spec_l07End.R) Try.func176 rfl rfl (Nat.le_of_ble_eq_true rfl) ⟨rfl, rfl, trivial⟩ ?_
  unfold spec_l07End.f
  refine TC.seq ?_
  refine TC.region ?_
  refine TL.assign rfl rfl (v := .int .i64 0) rfl ?_
  refine TL.done ?_
  refine TC.seq ?_
  refine TC.seq ?_
  refine TC.region ?_
  refine TL.move rfl rfl (v := .int .i64 side1) rfl ?_
  refine TL.bin .i64 side1 0 rfl rfl rfl rfl (v := .bool (decide (side1 < 0))) rfl ?_
  refine TL.done ?_
  refine TC.join1 (σ := Int × Bool) (γ := Unit) (Γ' := (fun p q => match p, q with | (side2, end_2), _ => [(0, .int .i64 side2), (1, .bool end_2)])) (L' := (fun p q => match p, q with | (side2, end_2), _ => [])) ?_ ?_
  · refine TC.cond (b := (decide (side1 < 0))) rfl (fun c1 => ?_) (fun c2 => ?_)
    · refine TC.seq ?_
      refine TC.region ?_
      refine TL.move rfl rfl (v := .int .i64 side1) rfl ?_
      refine TL.neg .i64 side1 rfl rfl rfl ?_
      refine TL.assign rfl rfl (v := .int .i64 (w64 (0 - side1))) rfl ?_
      refine TL.done ?_
      refine TC.region ?_
      refine TL.move rfl rfl (v := .bool end_1) rfl ?_
      refine TL.not end_1 rfl rfl rfl ?_
      refine TL.assign rfl rfl (v := .bool (!end_1)) rfl ?_
      refine TL.done ?_
      exact TC.nrm (((w64 (0 - side1)), (!end_1))) (()) ⟨rfl, rfl, trivial⟩ [] rfl
    · refine TC.skip ?_
      exact TC.nrm ((side1, end_1)) (()) ⟨rfl, rfl, trivial⟩ [] rfl
  · rintro ⟨side2, end_2⟩ _
    refine TC.seq ?_
    refine TC.seq ?_
    refine TC.region ?_
    refine TL.move rfl rfl (v := .bool end_2) rfl ?_
    refine TL.done ?_
    refine TC.cond (b := end_2) rfl (fun c3 => ?_) (fun c4 => ?_)
    · refine TC.seq ?_
      refine TC.region ?_
      refine TL.move rfl rfl (v := .int .i64 side2) rfl ?_
      refine TL.bin .i64 2 side2 rfl rfl rfl rfl (v := .int .i64 (w64 (2 * side2))) rfl ?_
      refine TL.bin .i64 (w64 (2 * side2)) 1 rfl rfl rfl rfl (v := .int .i64 (w64 ((w64 (2 * side2)) - 1))) rfl ?_
      refine TL.assign rfl rfl (v := .int .i64 (w64 ((w64 (2 * side2)) - 1))) rfl ?_
      refine TL.done ?_
      exact TC.retF (Fin.body (fin1 (.inr rfl) rfl (.tmp rfl) [] rfl ⟨rfl, rfl⟩))
    · refine TC.skip ?_
      refine TC.seq ?_
      refine TC.region ?_
      refine TL.move rfl rfl (v := .int .i64 side2) rfl ?_
      refine TL.bin .i64 2 side2 rfl rfl rfl rfl (v := .int .i64 (w64 (2 * side2))) rfl ?_
      refine TL.bin .i64 (w64 (2 * side2)) 2 rfl rfl rfl rfl (v := .int .i64 (w64 ((w64 (2 * side2)) - 2))) rfl ?_
      refine TL.assign rfl rfl (v := .int .i64 (w64 ((w64 (2 * side2)) - 2))) rfl ?_
      refine TL.done ?_
      exact TC.retF (Fin.body (fin1 (.inr rfl) rfl (.tmp rfl) [] rfl ⟨rfl, rfl⟩))

end Go.Proofs.Ytiiljfpbcanphaa.G

/- spec.l07Vertices, as a pure function. -/
set_option linter.unusedVariables false
namespace Go.Proofs.Ytiiljfpbcanphaa.G
open Go Go.Sx Go.Proofs

def spec_l07Vertices.b0 (i1 : Int) (s1 : List (List Int)) : (List Int) × Int → Option (LB ((List Int) × Int)) := fun p => match p with | (leaders2, k_1) => (bif (decide (k_1 < 3)) then chk i1 s1.length (chk k_1 ((gt s1 i1).length) ((G.spec_l07End.f (gt (gt s1 i1) k_1) true).bind (fun r_2 => chk (Int.tmod (w64 (k_1 + 1)) 3) ((gt s1 i1).length) ((G.spec_l07End.f (gt (gt s1 i1) (Int.tmod (w64 (k_1 + 1)) 3)) false).bind (fun r_3 => (G.spec_l07Join.f leaders2 r_2 r_3).bind (fun r_4 => some (.next (r_4, (w64 (k_1 + 1)))))))))) else some (.brk (leaders2, k_1)))

def spec_l07Vertices.b1 (s1 : List (List Int)) : (List Int) × Int → Option (LB ((List Int) × Int)) := fun p => match p with | (leaders1, i1) => (bif (decide (i1 < (s1.length : Int))) then (loop1 (spec_l07Vertices.b0 i1 s1) (leaders1, 0)).bind (fun p => match p with | (leaders2, k_1) => some (.next (leaders2, (w64 (i1 + 1))))) else some (.brk (leaders1, i1)))

def spec_l07Vertices.f (s1 : List (List Int)) : Option Int := (G.spec_l07Numbers.f (w64 ((s1.length : Int) * 3))).bind (fun r_1 => (loop1 (spec_l07Vertices.b1 s1) (r_1, 0)).bind (fun p => match p with | (leaders1, i1) => (G.spec_l07Different.f leaders1).bind (fun r_5 => some r_5)))

def spec_l07Vertices.R (r : Int) (v : Value) (L : List Asn) : Prop := v = .int .i64 r ∧ L = []

set_option maxRecDepth 100000 in
set_option maxHeartbeats 4000000 in
theorem spec_l07Vertices.calls (w : World) (s2 : SV) (ss1 : List SV) (s1 : List (List Int)) (h1 : ReadsM Ei (hp w) s2 ss1 s1) :
    ∀ r, spec_l07Vertices.f s1 = some r → Calls Try.prog 137 #[SV.v s2] w (Ret w (spec_l07Vertices.R r)) := by

  refine calls_T (n := 42) (Γ := [(0, SV.v s2)]) (R := spec_l07Vertices.R) Try.func137 rfl rfl (Nat.le_of_ble_eq_true rfl) ⟨rfl, trivial⟩ ?_
  unfold spec_l07Vertices.f
  refine TC.seq ?_
  refine TC.region ?_
  refine TL.assign rfl rfl (v := .int .i64 0) rfl ?_
  refine TL.done ?_
  refine TC.seq ?_
  refine TC.region ?_
  refine TL.move rfl rfl (v := SV.v s2) rfl ?_
  refine TL.lenM (RdM.old h1) Try.underlying32 rfl rfl rfl ?_
  refine TL.bin .i64 (s1.length : Int) 3 rfl rfl rfl rfl (v := .int .i64 (w64 ((s1.length : Int) * 3))) rfl ?_
  refine TL.call (R := G.spec_l07Numbers.R) Try.call174 rfl rfl rfl (fun w hS => G.spec_l07Numbers.calls w (w64 ((s1.length : Int) * 3))) ?_
  rintro r_1 _ _ ⟨s3, rfl, rfl⟩
  refine TL.assign rfl rfl (v := SV.v s3) rfl ?_
  refine TL.done ?_
  refine TC.seq ?_
  refine TC.seq ?_
  refine TC.region ?_
  refine TL.assign rfl rfl (v := .int .i64 0) rfl ?_
  refine TL.done ?_
  refine TC.loop1 (σ := (List Int) × Int) (γ := SV) (Γ' := (fun p q => match p, q with | (leaders1, i1), s4 => [(0, SV.v s2), (3, SV.v s4), (4, .int .i64 i1)])) (L' := (fun p q => match p, q with | (leaders1, i1), s4 => [row Ei 2 s4 leaders1])) (Γb := (fun p q => match p, q with | (leaders1, i1), s4 => [(0, SV.v s2), (3, SV.v s4), (4, .int .i64 i1)])) (Lb := (fun p q => match p, q with | (leaders1, i1), s4 => [row Ei 2 s4 leaders1])) ((r_1, 0)) (s3) ⟨rfl, rfl, rfl, trivial⟩ [0] rfl ?_ ?_
  · rintro ⟨leaders1, i1⟩ s4
    refine TC.seq ?_
    refine TC.seq ?_
    refine TC.region ?_
    refine TL.move rfl rfl (v := .int .i64 i1) rfl ?_
    refine TL.move rfl rfl (v := SV.v s2) rfl ?_
    refine TL.lenM (RdM.old h1) Try.underlying32 rfl rfl rfl ?_
    refine TL.bin .i64 i1 (s1.length : Int) rfl rfl rfl rfl (v := .bool (decide (i1 < (s1.length : Int)))) rfl ?_
    refine TL.done ?_
    refine TC.cond (b := (decide (i1 < (s1.length : Int)))) rfl (fun c1 => ?_) (fun c2 => ?_)
    · refine TC.skip ?_
      refine TC.seq ?_
      refine TC.block (NoEx.loop1 rfl) ?_
      refine TC.seq ?_
      refine TC.region ?_
      refine TL.assign rfl rfl (v := .int .i64 0) rfl ?_
      refine TL.done ?_
      refine TC.loop1 (σ := (List Int) × Int) (γ := SV) (Γ' := (fun p q => match p, q with | (leaders2, k_1), s5 => [(0, SV.v s2), (3, SV.v s5), (4, .int .i64 i1), (5, .int .i64 k_1)])) (L' := (fun p q => match p, q with | (leaders2, k_1), s5 => [row Ei 2 s5 leaders2])) (Γb := (fun p q => match p, q with | (leaders2, k_1), s5 => [(0, SV.v s2), (3, SV.v s5), (4, .int .i64 i1), (5, .int .i64 k_1)])) (Lb := (fun p q => match p, q with | (leaders2, k_1), s5 => [row Ei 2 s5 leaders2])) ((leaders1, 0)) (s4) ⟨rfl, rfl, rfl, rfl, trivial⟩ [0] rfl ?_ ?_
      · rintro ⟨leaders2, k_1⟩ s5
        refine TC.seq ?_
        refine TC.seq ?_
        refine TC.region ?_
        refine TL.move rfl rfl (v := .int .i64 k_1) rfl ?_
        refine TL.bin .i64 k_1 3 rfl rfl rfl rfl (v := .bool (decide (k_1 < 3))) rfl ?_
        refine TL.done ?_
        refine TC.cond (b := (decide (k_1 < 3))) rfl (fun c3 => ?_) (fun c4 => ?_)
        · refine TC.skip ?_
          refine TC.seq ?_
          refine TC.block (NoEx.loop1 rfl) ?_
          refine TC.wk (Γ' := [(0, SV.v s2), (4, .int .i64 i1), (5, .int .i64 k_1), (16, .int .i64 k_1), (17, .bool (decide (k_1 < 3))), (3, SV.v s5)]) ⟨rfl, rfl, rfl, rfl, rfl, rfl, trivial⟩ ?_
          refine TC.chk fun h2 => ?_
          refine TC.chk fun h3 => ?_
          refine TC.bindE ?_
          rintro r_2 hr1
          refine TC.chk fun h4 => ?_
          refine TC.bindE ?_
          rintro r_3 hr2
          refine TC.bindE ?_
          rintro r_4 hr3
          refine TC.drawG [(0, SV.v s2), (4, .int .i64 i1), (5, .int .i64 k_1), (16, .int .i64 k_1), (17, .bool (decide (k_1 < 3)))] [(3, SV.v s5, 20)] ⟨rfl, rfl, rfl, rfl, rfl, trivial⟩ ⟨rfl, trivial⟩ (fun l_ g1 => [row Ei 2 s5 leaders2, (bif nb l_ 19 then row Ei 2 (gs (g1 152)) r_4 else emp)]) (fun g1 => [SV.v s5, SV.v s2, .int .i64 i1, ep s2 i1.toNat, SV.v (gt ss1 i1), .int .i64 k_1, ep (gt ss1 i1) k_1.toNat, .int .i64 (gt (gt s1 i1) k_1), .int .i64 r_2, SV.v s2, .int .i64 i1, ep s2 i1.toNat, SV.v (gt ss1 i1), .int .i64 k_1, .int .i64 (w64 (k_1 + 1)), .int .i64 (Int.tmod (w64 (k_1 + 1)) 3), ep (gt ss1 i1) ((Int.tmod (w64 (k_1 + 1)) 3).toNat), .int .i64 (gt (gt s1 i1) (Int.tmod (w64 (k_1 + 1)) 3)), .int .i64 r_3, SV.v (gs (g1 152)), SV.v (gs (g1 152))]) [[], [], [], [1, 2], [1, 2, 3], [], [1, 2, 3, 4, 5], [1, 2, 3, 4, 5, 6], [1, 2, 3, 4, 5, 6, 7], [], [], [9, 10], [9, 10, 11], [], [13], [13, 14], [9, 10, 11, 12, 13, 14, 15], [9, 10, 11, 12, 13, 14, 15, 16], [1, 2, 3, 4, 5, 6, 7, 8, 9, 10, 11, 12, 13, 14, 15, 16, 17], [0, 1, 2, 3, 4, 5, 6, 7, 8, 9, 10, 11, 12, 13, 14, 15, 16, 17, 18], [0, 1, 2, 3, 4, 5, 6, 7, 8, 9, 10, 11, 12, 13, 14, 15, 16, 17, 18, 19]] [[some false, none, none, none, none, none, none, none, none, none, none, none, none, none, none, none, none, none, none, some false, some false], [none, some false, none, some false, some false, none, some false, some false, some false, none, none, none, none, none, none, none, none, none, some false, some false, some false], [none, none, some false, some false, some false, none, some false, some false, some false, none, none, none, none, none, none, none, none, none, some false, some false, some false], [none, some true, some true, some false, some false, none, some false, some false, some false, none, none, none, none, none, none, none, none, none, some false, some false, some false], [none, some true, some true, some true, some false, none, some false, some false, some false, none, none, none, none, none, none, none, none, none, some false, some false, some false], [none, none, none, none, none, some false, some false, some false, some false, none, none, none, none, none, none, none, none, none, some false, some false, some false], [none, some true, some true, some true, some true, some true, some false, some false, some false, none, none, none, none, none, none, none, none, none, some false, some false, some false], [none, some true, some true, some true, some true, some true, some true, some false, some false, none, none, none, none, none, none, none, none, none, some false, some false, some false], [none, some true, some true, some true, some true, some true, some true, some true, some false, none, none, none, none, none, none, none, none, none, some false, some false, some false], [none, none, none, none, none, none, none, none, none, some false, none, some false, some false, none, none, none, some false, some false, some false, some false, some false], [none, none, none, none, none, none, none, none, none, none, some false, some false, some false, none, none, none, some false, some false, some false, some false, some false], [none, none, none, none, none, none, none, none, none, some true, some true, some false, some false, none, none, none, some false, some false, some false, some false, some false], [none, none, none, none, none, none, none, none, none, some true, some true, some true, some false, none, none, none, some false, some false, some false, some false, some false], [none, none, none, none, none, none, none, none, none, none, none, none, none, some false, some false, some false, some false, some false, some false, some false, some false], [none, none, none, none, none, none, none, none, none, none, none, none, none, some true, some false, some false, some false, some false, some false, some false, some false], [none, none, none, none, none, none, none, none, none, none, none, none, none, some true, some true, some false, some false, some false, some false, some false, some false], [none, none, none, none, none, none, none, none, none, some true, some true, some true, some true, some true, some true, some true, some false, some false, some false, some false, some false], [none, none, none, none, none, none, none, none, none, some true, some true, some true, some true, some true, some true, some true, some true, some false, some false, some false, some false], [none, some true, some true, some true, some true, some true, some true, some true, some true, some true, some true, some true, some true, some true, some true, some true, some true, some true, some false, some false, some false], [some true, some true, some true, some true, some true, some true, some true, some true, some true, some true, some true, some true, some true, some true, some true, some true, some true, some true, some true, some false, some false], [some true, some true, some true, some true, some true, some true, some true, some true, some true, some true, some true, some true, some true, some true, some true, some true, some true, some true, some true, some true, some false]] (by kernel_rfl) (fun _ => rfl) rfl rfl rfl rfl rfl (fun _ _ => ⟨⟨⟨⟨⟨⟨⟨⟨⟨⟨⟨⟨⟨⟨⟨⟨⟨⟨⟨⟨⟨trivial, rfl⟩, rfl⟩, rfl⟩, rfl⟩, rfl⟩, rfl⟩, rfl⟩, rfl⟩, rfl⟩, rfl⟩, rfl⟩, rfl⟩, rfl⟩, rfl⟩, rfl⟩, rfl⟩, rfl⟩, rfl⟩, rfl⟩, rfl⟩, rfl⟩) 1 [1, 0] (fun _ => by kernel_rfl) ?_ ?_
          · refine ⟨rfl, ?_, rfl, ?_, rfl, ?_, rfl, ?_, rfl, ?_, rfl, ?_, rfl, ?_, rfl, ?_, rfl, ?_, rfl, ?_, rfl, ?_, rfl, ?_, rfl, ?_, rfl, ?_, rfl, ?_, rfl, ?_, rfl, ?_, rfl, ?_, rfl, ?_, rfl, ?_, rfl, ?_, trivial⟩
            · intro b1_ b2_ b3_ b4_ b5_ b6_ b7_ b8_ b9_ b10_ b11_ b12_ b13_ b14_ b15_ b16_ b17_ b18_ g1
              refine TL.move rfl rfl (v := SV.v s5) rfl ?_
              refine TL.done ?_
              exact TC.nrm () [] ⟨rfl, trivial⟩ [0, 0] (by kernel_rfl)
            · intro b0_ b2_ b5_ b9_ b10_ b11_ b12_ b13_ b14_ b15_ b16_ b17_ g1
              refine TL.move rfl rfl (v := SV.v s2) rfl ?_
              refine TL.done ?_
              exact TC.nrm () [] ⟨rfl, trivial⟩ [0, 0] (by kernel_rfl)
            · intro b0_ b1_ b5_ b9_ b10_ b11_ b12_ b13_ b14_ b15_ b16_ b17_ g1
              refine TL.move rfl rfl (v := .int .i64 i1) rfl ?_
              refine TL.done ?_
              exact TC.nrm () [] ⟨rfl, trivial⟩ [0, 0] (by kernel_rfl)
            · intro b0_ b5_ b9_ b10_ b11_ b12_ b13_ b14_ b15_ b16_ b17_ g1
              refine TL.asL [row Ei 2 s5 leaders2, emp] (by kernel_rfl) ?_
              refine TL.ixsM i1 i1.toNat (RdM.old h1) h2 Try.underlying32 Try.sizeOf22 rfl rfl rfl rfl (by omega) ?_
              refine TL.done ?_
              exact TC.nrm () [] ⟨rfl, trivial⟩ [0, 0] (by kernel_rfl)
            · intro b0_ b5_ b9_ b10_ b11_ b12_ b13_ b14_ b15_ b16_ b17_ g1
              refine TL.asL [row Ei 2 s5 leaders2, emp] (by kernel_rfl) ?_
              refine TL.loadM2 (RdM.old h1) Try.isAgg22 i1 h2 (by omega) rfl rfl rfl ?_
              refine TL.done ?_
              exact TC.nrm () [] ⟨rfl, trivial⟩ [0, 0] (by kernel_rfl)
            · intro b0_ b1_ b2_ b3_ b4_ b9_ b10_ b11_ b12_ b13_ b14_ b15_ b16_ b17_ g1
              refine TL.move rfl rfl (v := .int .i64 k_1) rfl ?_
              refine TL.done ?_
              exact TC.nrm () [] ⟨rfl, trivial⟩ [0, 0] (by kernel_rfl)
            · intro b0_ b9_ b10_ b11_ b12_ b13_ b14_ b15_ b16_ b17_ g1
              refine TL.asL [row Ei 2 s5 leaders2, emp] (by kernel_rfl) ?_
              refine TL.ixs k_1 k_1.toNat (RdM.inn (RdM.old h1) h2) h3 Try.underlying22 Try.sizeOf2 rfl rfl rfl rfl (by omega) ?_
              refine TL.done ?_
              exact TC.nrm () [] ⟨rfl, trivial⟩ [0, 0] (by kernel_rfl)
            · intro b0_ b9_ b10_ b11_ b12_ b13_ b14_ b15_ b16_ b17_ g1
              refine TL.asL [row Ei 2 s5 leaders2, emp] (by kernel_rfl) ?_
              refine TL.loadE (RdM.inn (RdM.old h1) h2) Try.isAgg2 k_1.toNat 0 (gt_spec h3) (v := .int .i64 (gt (gt s1 i1) k_1)) rfl (by simp only [show Ei.sz = 1 from rfl] <;> omega) rfl rfl rfl ?_
              refine TL.done ?_
              exact TC.nrm () [] ⟨rfl, trivial⟩ [0, 0] (by kernel_rfl)
            · intro b0_ b9_ b10_ b11_ b12_ b13_ b14_ b15_ b16_ b17_ g1
              refine TL.asL [row Ei 2 s5 leaders2, emp] (by kernel_rfl) ?_
              refine TL.callH (R := G.spec_l07End.R) hr1 Try.call176 rfl rfl rfl (fun w hS => G.spec_l07End.calls w (gt (gt s1 i1) k_1) true) ?_
              rintro _ _ ⟨rfl, rfl⟩
              refine TL.done ?_
              exact TC.nrm () [] ⟨rfl, trivial⟩ [0, 0] (by kernel_rfl)
            · intro b0_ b1_ b2_ b3_ b4_ b5_ b6_ b7_ b8_ b10_ b13_ b14_ b15_ g1
              refine TL.move rfl rfl (v := SV.v s2) rfl ?_
              refine TL.done ?_
              exact TC.nrm () [] ⟨rfl, trivial⟩ [0, 0] (by kernel_rfl)
            · intro b0_ b1_ b2_ b3_ b4_ b5_ b6_ b7_ b8_ b9_ b13_ b14_ b15_ g1
              refine TL.move rfl rfl (v := .int .i64 i1) rfl ?_
              refine TL.done ?_
              exact TC.nrm () [] ⟨rfl, trivial⟩ [0, 0] (by kernel_rfl)
            · intro b0_ b1_ b2_ b3_ b4_ b5_ b6_ b7_ b8_ b13_ b14_ b15_ g1
              refine TL.asL [row Ei 2 s5 leaders2, emp] (by kernel_rfl) ?_
              refine TL.ixsM i1 i1.toNat (RdM.old h1) h2 Try.underlying32 Try.sizeOf22 rfl rfl rfl rfl (by omega) ?_
              refine TL.done ?_
              exact TC.nrm () [] ⟨rfl, trivial⟩ [0, 0] (by kernel_rfl)
            · intro b0_ b1_ b2_ b3_ b4_ b5_ b6_ b7_ b8_ b13_ b14_ b15_ g1
              refine TL.asL [row Ei 2 s5 leaders2, emp] (by kernel_rfl) ?_
              refine TL.loadM2 (RdM.old h1) Try.isAgg22 i1 h2 (by omega) rfl rfl rfl ?_
              refine TL.done ?_
              exact TC.nrm () [] ⟨rfl, trivial⟩ [0, 0] (by kernel_rfl)
            · intro b0_ b1_ b2_ b3_ b4_ b5_ b6_ b7_ b8_ b9_ b10_ b11_ b12_ g1
              refine TL.move rfl rfl (v := .int .i64 k_1) rfl ?_
              refine TL.done ?_
              exact TC.nrm () [] ⟨rfl, trivial⟩ [0, 0] (by kernel_rfl)
            · intro b0_ b1_ b2_ b3_ b4_ b5_ b6_ b7_ b8_ b9_ b10_ b11_ b12_ g1
              refine TL.bin .i64 k_1 1 rfl rfl rfl rfl (v := .int .i64 (w64 (k_1 + 1))) rfl ?_
              refine TL.done ?_
              exact TC.nrm () [] ⟨rfl, trivial⟩ [0, 0] (by kernel_rfl)
            · intro b0_ b1_ b2_ b3_ b4_ b5_ b6_ b7_ b8_ b9_ b10_ b11_ b12_ g1
              refine TL.rem .i64 (w64 (k_1 + 1)) 3 (by decide) rfl rfl rfl rfl ?_
              refine TL.done ?_
              exact TC.nrm () [] ⟨rfl, trivial⟩ [0, 0] (by kernel_rfl)
            · intro b0_ b1_ b2_ b3_ b4_ b5_ b6_ b7_ b8_ g1
              refine TL.asL [row Ei 2 s5 leaders2, emp] (by kernel_rfl) ?_
              refine TL.ixs (Int.tmod (w64 (k_1 + 1)) 3) ((Int.tmod (w64 (k_1 + 1)) 3).toNat) (RdM.inn (RdM.old h1) h2) h4 Try.underlying22 Try.sizeOf2 rfl rfl rfl rfl (by omega) ?_
              refine TL.done ?_
              exact TC.nrm () [] ⟨rfl, trivial⟩ [0, 0] (by kernel_rfl)
            · intro b0_ b1_ b2_ b3_ b4_ b5_ b6_ b7_ b8_ g1
              refine TL.asL [row Ei 2 s5 leaders2, emp] (by kernel_rfl) ?_
              refine TL.loadE (RdM.inn (RdM.old h1) h2) Try.isAgg2 (Int.tmod (w64 (k_1 + 1)) 3).toNat 0 (gt_spec h4) (v := .int .i64 (gt (gt s1 i1) (Int.tmod (w64 (k_1 + 1)) 3))) rfl (by simp only [show Ei.sz = 1 from rfl] <;> omega) rfl rfl rfl ?_
              refine TL.done ?_
              exact TC.nrm () [] ⟨rfl, trivial⟩ [0, 0] (by kernel_rfl)
            · intro b0_ g1
              refine TL.asL [row Ei 2 s5 leaders2, emp] (by kernel_rfl) ?_
              refine TL.callH (R := G.spec_l07End.R) hr2 Try.call176 rfl rfl rfl (fun w hS => G.spec_l07End.calls w (gt (gt s1 i1) (Int.tmod (w64 (k_1 + 1)) 3)) false) ?_
              rintro _ _ ⟨rfl, rfl⟩
              refine TL.done ?_
              exact TC.nrm () [] ⟨rfl, trivial⟩ [0, 0] (by kernel_rfl)
            · intro g1
              refine TL.asL [row Ei 2 s5 leaders2, emp] (by kernel_rfl) ?_
              refine TL.callH (R := G.spec_l07Join.R) hr3 Try.call175 rfl rfl rfl (fun w hS => G.spec_l07Join.calls w s5 leaders2 r_2 r_3 ((Rd.row 0 rfl) w hS)) ?_
              rintro _ _ ⟨s6, rfl, rfl⟩
              refine TL.done ?_
              exact TC.nrm () [[s6]] ⟨rfl, trivial⟩ [1, 0] (by kernel_rfl)
            · intro g1
              refine TL.assign rfl rfl (v := SV.v (gs (g1 152))) rfl ?_
              refine TL.done ?_
              exact TC.nrm () [] ⟨rfl, trivial⟩ [0, 0] (by kernel_rfl)
          · intro g1
            refine TC.asL [row Ei 2 s5 leaders2, row Ei 2 (gs (g1 152)) r_4] (by kernel_rfl) ?_
            refine TC.region ?_
            refine TL.move rfl rfl (v := .int .i64 k_1) rfl ?_
            refine TL.bin .i64 k_1 1 rfl rfl rfl rfl (v := .int .i64 (w64 (k_1 + 1))) rfl ?_
            refine TL.assign rfl rfl (v := .int .i64 (w64 (k_1 + 1))) rfl ?_
            refine TL.done ?_
            exact TC.next1 ((r_4, (w64 (k_1 + 1)))) ((gs (g1 152))) ⟨rfl, rfl, rfl, rfl, trivial⟩ [1] rfl
        · exact TC.brk1 ((leaders2, k_1)) (s5) ⟨rfl, rfl, rfl, rfl, trivial⟩ [0] rfl
      · rintro ⟨leaders2, k_1⟩ s5
        refine TC.region ?_
        refine TL.move rfl rfl (v := .int .i64 i1) rfl ?_
        refine TL.bin .i64 i1 1 rfl rfl rfl rfl (v := .int .i64 (w64 (i1 + 1))) rfl ?_
        refine TL.assign rfl rfl (v := .int .i64 (w64 (i1 + 1))) rfl ?_
        refine TL.done ?_
        exact TC.next1 ((leaders2, (w64 (i1 + 1)))) (s5) ⟨rfl, rfl, rfl, trivial⟩ [0] rfl
    · exact TC.brk1 ((leaders1, i1)) (s4) ⟨rfl, rfl, rfl, trivial⟩ [0] rfl
  · rintro ⟨leaders1, i1⟩ s4
    refine TC.seq ?_
    refine TC.region ?_
    refine TL.move rfl rfl (v := SV.v s4) rfl ?_
    refine TL.call (R := G.spec_l07Different.R) Try.call133 rfl rfl rfl (fun w hS => G.spec_l07Different.calls w s4 leaders1 ((Rd.row 0 rfl) w hS)) ?_
    rintro r_5 _ _ ⟨rfl, rfl⟩
    refine TL.assign rfl rfl (v := .int .i64 r_5) rfl ?_
    refine TL.done ?_
    exact TC.retF (Fin.body (fin1 (.inr rfl) rfl (.tmp rfl) [] rfl ⟨rfl, rfl⟩))

end Go.Proofs.Ytiiljfpbcanphaa.G
