/- impl.homomorphism, as a pure function. -/
import Derived.Test.YtcombgcjgdkbiaaProg
import Derived.Test.YtcombgcjgdkbiaaSx9
import Derived.Test.YtcombgcjgdkbiaaQ66
set_option linter.unusedVariables false
namespace Go.Proofs.Ytcombgcjgdkbiaa.G
open Go Go.Sx Go.Proofs

def impl_homomorphism.b0 (f1 : List Int) (g1 : Int) (g2 : Nat → UInt8) (x1 : Int) (h2 : Int) (h3 : Nat → UInt8) : Int → Option (LR Int (LR Int Bool)) := fun x2 => (bif (decide (x2 < (f1.length : Int))) then (G.impl_Group_times.f g1 g2 x1 x2).bind (fun r_1 => chk r_1 f1.length (chk x1 f1.length (chk x2 f1.length ((G.impl_Group_times.f h2 h3 (gt f1 x1) (gt f1 x2)).bind (fun r_2 => (bif ((gt f1 r_1) != r_2) then some (.ret (.ret (false))) else some (.next (w64 (x2 + 1))))))))) else some (.brk x2))

def impl_homomorphism.b1 (f1 : List Int) (g1 : Int) (g2 : Nat → UInt8) (h2 : Int) (h3 : Nat → UInt8) : Int → Option (LR Int Bool) := fun x1 => (bif (decide (x1 < (f1.length : Int))) then (loop (impl_homomorphism.b0 f1 g1 g2 x1 h2 h3) 0).bind (ln (fun x2 => some (.next (w64 (x1 + 1))))) else some (.brk x1))

def impl_homomorphism.f (g1 : Int) (g2 : Nat → UInt8) (h2 : Int) (h3 : Nat → UInt8) (f1 : List Int) : Option Bool := (loop (impl_homomorphism.b1 f1 g1 g2 h2 h3) 0).bind (ln (fun x1 => some true))

def impl_homomorphism.R (r : Bool) (v : Value) (L : List Asn) : Prop := v = .bool r ∧ L = []

set_option maxRecDepth 100000 in
set_option maxHeartbeats 4000000 in
theorem impl_homomorphism.calls (w : World) (b_1 : Nat) (g1 : Int) (g2 : Nat → UInt8) (b_2 : Nat) (h2 : Int) (h3 : Nat → UInt8) (s1 : SV) (f1 : List Int) (h1 : At (hp w) b_1 [.one (.int .i64 g1), .arr 36 (enf u8v g2)]) (h4 : At (hp w) b_2 [.one (.int .i64 h2), .arr 36 (enf u8v h3)]) (h5 : Reads Ei (hp w) s1 f1) :
    ∀ r, impl_homomorphism.f g1 g2 h2 h3 f1 = some r → Calls Try.prog 70 #[bp b_1 0, bp b_2 0, SV.v s1] w (Ret w (impl_homomorphism.R r)) := by

  refine calls_T (n := 39) (Γ := [(0, bp b_1 0), (1, bp b_2 0), (2, SV.v s1)]) (R := impl_homomorphism.R) Try.func70 rfl rfl (Nat.le_of_ble_eq_true rfl) ⟨rfl, rfl, rfl, trivial⟩ ?_
  unfold impl_homomorphism.f
  refine TC.seq ?_
  refine TC.region ?_
  refine TL.assign rfl rfl (v := .bool false) rfl ?_
  refine TL.done ?_
  refine TC.seq ?_
  refine TC.seq ?_
  refine TC.region ?_
  refine TL.move rfl rfl (v := SV.v s1) rfl ?_
  refine TL.len (Rd.old h5) Try.underlying78 rfl rfl rfl ?_
  refine TL.move rfl rfl (v := .int .i64 0) rfl ?_
  refine TL.done ?_
  refine TC.loopK (σ := Int) (γ := Unit) (Γ' := (fun x1 _ => [(0, bp b_1 0), (1, bp b_2 0), (2, SV.v s1), (10, .int .i64 (f1.length : Int)), (11, .int .i64 x1)])) (L' := (fun x1 _ => [])) (Γb := (fun x1 _ => [(0, bp b_1 0), (1, bp b_2 0), (2, SV.v s1), (10, .int .i64 (f1.length : Int)), (11, .int .i64 x1)])) (Lb := (fun x1 _ => [])) (0) (()) ⟨rfl, rfl, rfl, rfl, rfl, trivial⟩ [] rfl ?_ ?_
  · rintro x1 _
    refine TC.seq ?_
    refine TC.region ?_
    refine TL.bin .i64 x1 (f1.length : Int) rfl rfl rfl rfl (v := .bool (decide (x1 < (f1.length : Int)))) rfl ?_
    refine TL.done ?_
    refine TC.seq ?_
    refine TC.cond (b := (decide (x1 < (f1.length : Int)))) rfl (fun c1 => ?_) (fun c2 => ?_)
    · refine TC.skip ?_
      refine TC.seq ?_
      refine TC.block (NoEx.loop rfl NoEx.body) ?_
      refine TC.seq ?_
      refine TC.region ?_
      refine TL.move rfl rfl (v := .int .i64 x1) rfl ?_
      refine TL.assign rfl rfl (v := .int .i64 x1) rfl ?_
      refine TL.done ?_
      refine TC.seq ?_
      refine TC.region ?_
      refine TL.move rfl rfl (v := SV.v s1) rfl ?_
      refine TL.len (Rd.old h5) Try.underlying78 rfl rfl rfl ?_
      refine TL.move rfl rfl (v := .int .i64 0) rfl ?_
      refine TL.done ?_
      refine TC.loopK (σ := Int) (γ := Unit) (Γ' := (fun x2 _ => [(0, bp b_1 0), (1, bp b_2 0), (2, SV.v s1), (7, .int .i64 x1), (10, .int .i64 (f1.length : Int)), (11, .int .i64 x1), (15, .int .i64 (f1.length : Int)), (16, .int .i64 x2)])) (L' := (fun x2 _ => [])) (Γb := (fun x2 _ => [(0, bp b_1 0), (1, bp b_2 0), (2, SV.v s1), (7, .int .i64 x1), (10, .int .i64 (f1.length : Int)), (11, .int .i64 x1), (15, .int .i64 (f1.length : Int)), (16, .int .i64 x2)])) (Lb := (fun x2 _ => [])) (0) (()) ⟨rfl, rfl, rfl, rfl, rfl, rfl, rfl, rfl, trivial⟩ [] rfl ?_ ?_
      · rintro x2 _
        refine TC.seq ?_
        refine TC.region ?_
        refine TL.bin .i64 x2 (f1.length : Int) rfl rfl rfl rfl (v := .bool (decide (x2 < (f1.length : Int)))) rfl ?_
        refine TL.done ?_
        refine TC.seq ?_
        refine TC.cond (b := (decide (x2 < (f1.length : Int)))) rfl (fun c3 => ?_) (fun c4 => ?_)
        · refine TC.skip ?_
          refine TC.seq ?_
          refine TC.block (NoEx.loop rfl (NoEx.loop rfl NoEx.body)) ?_
          refine TC.seq ?_
          refine TC.region ?_
          refine TL.move rfl rfl (v := .int .i64 x2) rfl ?_
          refine TL.assign rfl rfl (v := .int .i64 x2) rfl ?_
          refine TL.done ?_
          refine TC.seq ?_
          refine TC.wk (Γ' := [(0, bp b_1 0), (1, bp b_2 0), (2, SV.v s1), (7, .int .i64 x1), (10, .int .i64 (f1.length : Int)), (11, .int .i64 x1), (15, .int .i64 (f1.length : Int)), (16, .int .i64 x2), (17, .bool (decide (x2 < (f1.length : Int)))), (18, .int .i64 x2), (8, .int .i64 x2)]) ⟨rfl, rfl, rfl, rfl, rfl, rfl, rfl, rfl, rfl, rfl, rfl, trivial⟩ ?_
          refine TC.bindE fun r_1 hr1 => ?_
          refine TC.chk fun h6 => ?_
          refine TC.chk fun h7 => ?_
          refine TC.chk fun h8 => ?_
          refine TC.bindE fun r_2 hr2 => ?_
          refine TC.draw [SV.v s1, bp b_1 0, .int .i64 x1, .int .i64 x2, .int .i64 r_1, ep s1 r_1.toNat, .int .i64 (gt f1 r_1), bp b_2 0, SV.v s1, .int .i64 x1, ep s1 x1.toNat, .int .i64 (gt f1 x1), SV.v s1, .int .i64 x2, ep s1 x2.toNat, .int .i64 (gt f1 x2), .int .i64 r_2, .bool ((gt f1 r_1) != r_2)] 18 [] (by kernel_rfl) rfl rfl rfl rfl ?_ ?_
          · refine ⟨?_, ?_, ?_, ?_, ?_, ?_, ?_, ?_, ?_, ?_, ?_, ?_, ?_, ?_, ?_, ?_, ?_, ?_, trivial⟩
            · refine TL.move rfl rfl (v := SV.v s1) rfl ?_
              refine TL.done ?_
              exact TC.nrm () () ⟨rfl, trivial⟩ [] rfl
            · refine TL.move rfl rfl (v := bp b_1 0) rfl ?_
              refine TL.done ?_
              exact TC.nrm () () ⟨rfl, trivial⟩ [] rfl
            · refine TL.move rfl rfl (v := .int .i64 x1) rfl ?_
              refine TL.done ?_
              exact TC.nrm () () ⟨rfl, trivial⟩ [] rfl
            · refine TL.move rfl rfl (v := .int .i64 x2) rfl ?_
              refine TL.done ?_
              exact TC.nrm () () ⟨rfl, trivial⟩ [] rfl
            · refine TL.callH (R := G.impl_Group_times.R) hr1 Try.call66 rfl rfl rfl (fun w hS => G.impl_Group_times.calls w b_1 g1 g2 x1 x2 ((Src.at h1) w hS)) ?_
              rintro _ _ ⟨rfl, rfl⟩
              refine TL.done ?_
              exact TC.nrm () () ⟨rfl, trivial⟩ [] rfl
            · refine TL.ixs r_1 r_1.toNat (Rd.old h5) h6 Try.underlying78 Try.sizeOf3 rfl rfl rfl rfl (by omega) ?_
              refine TL.done ?_
              exact TC.nrm () () ⟨rfl, trivial⟩ [] rfl
            · refine TL.loadE (Rd.old h5) Try.isAgg3 r_1.toNat 0 (gt_spec h6) (v := .int .i64 (gt f1 r_1)) rfl (by simp only [show Ei.sz = 1 from rfl]; omega) rfl rfl rfl ?_
              refine TL.done ?_
              exact TC.nrm () () ⟨rfl, trivial⟩ [] rfl
            · refine TL.move rfl rfl (v := bp b_2 0) rfl ?_
              refine TL.done ?_
              exact TC.nrm () () ⟨rfl, trivial⟩ [] rfl
            · refine TL.move rfl rfl (v := SV.v s1) rfl ?_
              refine TL.done ?_
              exact TC.nrm () () ⟨rfl, trivial⟩ [] rfl
            · refine TL.move rfl rfl (v := .int .i64 x1) rfl ?_
              refine TL.done ?_
              exact TC.nrm () () ⟨rfl, trivial⟩ [] rfl
            · refine TL.ixs x1 x1.toNat (Rd.old h5) h7 Try.underlying78 Try.sizeOf3 rfl rfl rfl rfl (by omega) ?_
              refine TL.done ?_
              exact TC.nrm () () ⟨rfl, trivial⟩ [] rfl
            · refine TL.loadE (Rd.old h5) Try.isAgg3 x1.toNat 0 (gt_spec h7) (v := .int .i64 (gt f1 x1)) rfl (by simp only [show Ei.sz = 1 from rfl]; omega) rfl rfl rfl ?_
              refine TL.done ?_
              exact TC.nrm () () ⟨rfl, trivial⟩ [] rfl
            · refine TL.move rfl rfl (v := SV.v s1) rfl ?_
              refine TL.done ?_
              exact TC.nrm () () ⟨rfl, trivial⟩ [] rfl
            · refine TL.move rfl rfl (v := .int .i64 x2) rfl ?_
              refine TL.done ?_
              exact TC.nrm () () ⟨rfl, trivial⟩ [] rfl
            · refine TL.ixs x2 x2.toNat (Rd.old h5) h8 Try.underlying78 Try.sizeOf3 rfl rfl rfl rfl (by omega) ?_
              refine TL.done ?_
              exact TC.nrm () () ⟨rfl, trivial⟩ [] rfl
            · refine TL.loadE (Rd.old h5) Try.isAgg3 x2.toNat 0 (gt_spec h8) (v := .int .i64 (gt f1 x2)) rfl (by simp only [show Ei.sz = 1 from rfl]; omega) rfl rfl rfl ?_
              refine TL.done ?_
              exact TC.nrm () () ⟨rfl, trivial⟩ [] rfl
            · refine TL.callH (R := G.impl_Group_times.R) hr2 Try.call66 rfl rfl rfl (fun w hS => G.impl_Group_times.calls w b_2 h2 h3 (gt f1 x1) (gt f1 x2) ((Src.at h4) w hS)) ?_
              rintro _ _ ⟨rfl, rfl⟩
              refine TL.done ?_
              exact TC.nrm () () ⟨rfl, trivial⟩ [] rfl
            · refine TL.bin .i64 (gt f1 r_1) r_2 rfl rfl rfl rfl (v := .bool ((gt f1 r_1) != r_2)) rfl ?_
              refine TL.done ?_
              exact TC.nrm () () ⟨rfl, trivial⟩ [] rfl
          · refine TC.cond (b := ((gt f1 r_1) != r_2)) rfl (fun c5 => ?_) (fun c6 => ?_)
            · refine TC.seq ?_
              refine TC.region ?_
              refine TL.assign rfl rfl (v := .bool false) rfl ?_
              refine TL.done ?_
              exact TC.retF (Fin.loop Far.ret (Fin.loop Far.ret (Fin.body (fin1 (.inr rfl) rfl (.tmp rfl) [] rfl ⟨rfl, rfl⟩))))
            · refine TC.skip ?_
              refine TC.region ?_
              refine TL.bin .i64 x2 1 rfl rfl rfl rfl (v := .int .i64 (w64 (x2 + 1))) rfl ?_
              refine TL.move rfl rfl (v := .int .i64 (w64 (x2 + 1))) rfl ?_
              refine TL.done ?_
              exact TC.next ((w64 (x2 + 1))) (()) ⟨rfl, rfl, rfl, rfl, rfl, rfl, rfl, rfl, trivial⟩ [] rfl
        · exact TC.brk (x2) (()) ⟨rfl, rfl, rfl, rfl, rfl, rfl, rfl, rfl, trivial⟩ [] rfl
      · rintro x2 _
        refine TC.region ?_
        refine TL.bin .i64 x1 1 rfl rfl rfl rfl (v := .int .i64 (w64 (x1 + 1))) rfl ?_
        refine TL.move rfl rfl (v := .int .i64 (w64 (x1 + 1))) rfl ?_
        refine TL.done ?_
        exact TC.next ((w64 (x1 + 1))) (()) ⟨rfl, rfl, rfl, rfl, rfl, trivial⟩ [] rfl
    · exact TC.brk (x1) (()) ⟨rfl, rfl, rfl, rfl, rfl, trivial⟩ [] rfl
  · rintro x1 _
    refine TC.seq ?_
    refine TC.region ?_
    refine TL.assign rfl rfl (v := .bool true) rfl ?_
    refine TL.done ?_
    exact TC.retF (Fin.body (fin1 (.inr rfl) rfl (.tmp rfl) [] rfl ⟨rfl, rfl⟩))

end Go.Proofs.Ytcombgcjgdkbiaa.G
