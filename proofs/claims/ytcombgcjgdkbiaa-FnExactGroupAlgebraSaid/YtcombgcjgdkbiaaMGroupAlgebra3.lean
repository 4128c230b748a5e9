/- Functions of the program, as pure functions. -/
import Derived.Test.YtcombgcjgdkbiaaMGroupAlgebra2
import Derived.Test.YtcombgcjgdkbiaaProg
/- impl.power, as a pure function. -/
set_option linter.unusedVariables false
namespace Go.Proofs.Ytcombgcjgdkbiaa.G
open Go Go.Sx Go.Proofs

def impl_power.b0 (k_1 : Int) (p1 : Int) (n_1 : Int) : Int × Int → Option (LB (Int × Int)) := fun p => match p with | (out1, x1) => (bif (decide (x1 < k_1)) then nz p1 (some (.next ((Int.tmod (w64 (out1 * n_1)) p1), (w64 (x1 + 1))))) else some (.brk (out1, x1)))

def impl_power.f (n_1 : Int) (k_1 : Int) (p1 : Int) : Option Int := (loop1 (impl_power.b0 k_1 p1 n_1) (1, 0)).bind (fun p => match p with | (out1, x1) => some out1)

def impl_power.R (r : Int) (v : Value) (L : List Asn) : Prop := v = .int .i64 r ∧ L = []

set_option maxRecDepth 100000 in
set_option maxHeartbeats 4000000 in
theorem impl_power.calls (w : World) (n_1 : Int) (k_1 : Int) (p1 : Int) :
    ∀ r, impl_power.f n_1 k_1 p1 = some r → Calls Try.prog 60 #[.int .i64 n_1, .int .i64 k_1, .int .i64 p1] w (Ret w (impl_power.R r)) := by

  refine calls_T (n := 18) (Γ := [(0, .int .i64 n_1), (1, .int .i64 k_1), (2, .int .i64 p1)]) (R := impl_power.R) Try.func60 rfl rfl (Nat.le_of_ble_eq_true rfl) ⟨rfl, rfl, rfl, trivial⟩ ?_
  unfold impl_power.f
  refine TC.seq ?_
  refine TC.region ?_
  refine TL.assign rfl rfl (v := .int .i64 0) rfl ?_
  refine TL.done ?_
  refine TC.seq ?_
  refine TC.region ?_
  refine TL.assign rfl rfl (v := .int .i64 1) rfl ?_
  refine TL.done ?_
  refine TC.seq ?_
  refine TC.seq ?_
  refine TC.region ?_
  refine TL.move rfl rfl (v := .int .i64 k_1) rfl ?_
  refine TL.move rfl rfl (v := .int .i64 0) rfl ?_
  refine TL.done ?_
  refine TC.loop1 (σ := Int × Int) (γ := Unit) (Γ' := (fun p q => match p, q with | (out1, x1), _ => [(0, .int .i64 n_1), (2, .int .i64 p1), (7, .int .i64 out1), (8, .int .i64 k_1), (9, .int .i64 x1)])) (L' := (fun p q => match p, q with | (out1, x1), _ => [])) (Γb := (fun p q => match p, q with | (out1, x1), _ => [(0, .int .i64 n_1), (2, .int .i64 p1), (7, .int .i64 out1), (8, .int .i64 k_1), (9, .int .i64 x1)])) (Lb := (fun p q => match p, q with | (out1, x1), _ => [])) ((1, 0)) (()) ⟨rfl, rfl, rfl, rfl, rfl, trivial⟩ [] rfl ?_ ?_
  · rintro ⟨out1, x1⟩ _
    refine TC.seq ?_
    refine TC.region ?_
    refine TL.bin .i64 x1 k_1 rfl rfl rfl rfl (v := .bool (decide (x1 < k_1))) rfl ?_
    refine TL.done ?_
    refine TC.seq ?_
    refine TC.cond (b := (decide (x1 < k_1))) rfl (fun c1 => ?_) (fun c2 => ?_)
    · refine TC.skip ?_
      refine TC.seq ?_
      refine TC.block (NoEx.loop1 rfl) ?_
      refine TC.region ?_
      refine TL.move rfl rfl (v := .int .i64 out1) rfl ?_
      refine TL.move rfl rfl (v := .int .i64 n_1) rfl ?_
      refine TL.bin .i64 out1 n_1 rfl rfl rfl rfl (v := .int .i64 (w64 (out1 * n_1))) rfl ?_
      refine TL.move rfl rfl (v := .int .i64 p1) rfl ?_
      refine TL.nz fun z1 => ?_
      refine TL.rem .i64 (w64 (out1 * n_1)) p1 z1 rfl rfl rfl rfl ?_
      refine TL.assign rfl rfl (v := .int .i64 (Int.tmod (w64 (out1 * n_1)) p1)) rfl ?_
      refine TL.done ?_
      refine TC.region ?_
      refine TL.bin .i64 x1 1 rfl rfl rfl rfl (v := .int .i64 (w64 (x1 + 1))) rfl ?_
      refine TL.move rfl rfl (v := .int .i64 (w64 (x1 + 1))) rfl ?_
      refine TL.done ?_
      exact TC.next1 (((Int.tmod (w64 (out1 * n_1)) p1), (w64 (x1 + 1)))) (()) ⟨rfl, rfl, rfl, rfl, rfl, trivial⟩ [] rfl
    · exact TC.brk1 ((out1, x1)) (()) ⟨rfl, rfl, rfl, rfl, rfl, trivial⟩ [] rfl
  · rintro ⟨out1, x1⟩ _
    refine TC.seq ?_
    refine TC.region ?_
    refine TL.move rfl rfl (v := .int .i64 out1) rfl ?_
    refine TL.assign rfl rfl (v := .int .i64 out1) rfl ?_
    refine TL.done ?_
    exact TC.retF (Fin.body (fin1 (.inr rfl) rfl (.tmp rfl) [] rfl ⟨rfl, rfl⟩))

end Go.Proofs.Ytcombgcjgdkbiaa.G

/- impl.inverse, as a pure function. -/
set_option linter.unusedVariables false
namespace Go.Proofs.Ytcombgcjgdkbiaa.G
open Go Go.Sx Go.Proofs

def impl_inverse.f (n_1 : Int) (p1 : Int) : Option Int := (G.impl_power.f n_1 (w64 (p1 - 2)) p1).bind (fun r_1 => some r_1)

def impl_inverse.R (r : Int) (v : Value) (L : List Asn) : Prop := v = .int .i64 r ∧ L = []

set_option maxRecDepth 100000 in
set_option maxHeartbeats 4000000 in
theorem impl_inverse.calls (w : World) (n_1 : Int) (p1 : Int) :
    ∀ r, impl_inverse.f n_1 p1 = some r → Calls Try.prog 59 #[.int .i64 n_1, .int .i64 p1] w (Ret w (impl_inverse.R r)) := by

  refine calls_T (n := 10) (Γ := [(0, .int .i64 n_1), (1, .int .i64 p1)]) (R := impl_inverse.R) Try.func59 rfl rfl (Nat.le_of_ble_eq_true rfl) ⟨rfl, rfl, trivial⟩ ?_
  unfold impl_inverse.f
  refine TC.seq ?_
  refine TC.region ?_
  refine TL.assign rfl rfl (v := .int .i64 0) rfl ?_
  refine TL.done ?_
  refine TC.seq ?_
  refine TC.region ?_
  refine TL.move rfl rfl (v := .int .i64 n_1) rfl ?_
  refine TL.move rfl rfl (v := .int .i64 p1) rfl ?_
  refine TL.bin .i64 p1 2 rfl rfl rfl rfl (v := .int .i64 (w64 (p1 - 2))) rfl ?_
  refine TL.move rfl rfl (v := .int .i64 p1) rfl ?_
  refine TL.call (R := G.impl_power.R) Try.call60 rfl rfl rfl (fun w hS => G.impl_power.calls w n_1 (w64 (p1 - 2)) p1) ?_
  rintro r_1 _ _ ⟨rfl, rfl⟩
  refine TL.assign rfl rfl (v := .int .i64 r_1) rfl ?_
  refine TL.done ?_
  exact TC.retF (Fin.body (fin1 (.inr rfl) rfl (.tmp rfl) [] rfl ⟨rfl, rfl⟩))

end Go.Proofs.Ytcombgcjgdkbiaa.G

/- spec.l01Mod, as a pure function. -/
set_option linter.unusedVariables false
namespace Go.Proofs.Ytcombgcjgdkbiaa.G
open Go Go.Sx Go.Proofs

def spec_l01Mod.f (p1 : Int) (x1 : Int) : Option Int := nz p1 (some (Int.tmod (w64 ((Int.tmod x1 p1) + p1)) p1))

def spec_l01Mod.R (r : Int) (v : Value) (L : List Asn) : Prop := v = .int .i64 r ∧ L = []

set_option maxRecDepth 100000 in
set_option maxHeartbeats 4000000 in
theorem spec_l01Mod.calls (w : World) (p1 : Int) (x1 : Int) :
    ∀ r, spec_l01Mod.f p1 x1 = some r → Calls Try.prog 112 #[.int .i64 p1, .int .i64 x1] w (Ret w (spec_l01Mod.R r)) := by

  refine calls_T (n := 12) (Γ := [(0, .int .i64 p1), (1, .int .i64 x1)]) (R := spec_l01Mod.R) Try.func112 rfl rfl (Nat.le_of_ble_eq_true rfl) ⟨rfl, rfl, trivial⟩ ?_
  unfold spec_l01Mod.f
  refine TC.seq ?_
  refine TC.region ?_
  refine TL.assign rfl rfl (v := .int .i64 0) rfl ?_
  refine TL.done ?_
  refine TC.seq ?_
  refine TC.region ?_
  refine TL.move rfl rfl (v := .int .i64 x1) rfl ?_
  refine TL.move rfl rfl (v := .int .i64 p1) rfl ?_
  refine TL.nz fun z1 => ?_
  refine TL.rem .i64 x1 p1 z1 rfl rfl rfl rfl ?_
  refine TL.move rfl rfl (v := .int .i64 p1) rfl ?_
  refine TL.bin .i64 (Int.tmod x1 p1) p1 rfl rfl rfl rfl (v := .int .i64 (w64 ((Int.tmod x1 p1) + p1))) rfl ?_
  refine TL.move rfl rfl (v := .int .i64 p1) rfl ?_
  refine TL.rem .i64 (w64 ((Int.tmod x1 p1) + p1)) p1 z1 rfl rfl rfl rfl ?_
  refine TL.assign rfl rfl (v := .int .i64 (Int.tmod (w64 ((Int.tmod x1 p1) + p1)) p1)) rfl ?_
  refine TL.done ?_
  exact TC.retF (Fin.body (fin1 (.inr rfl) rfl (.tmp rfl) [] rfl ⟨rfl, rfl⟩))

end Go.Proofs.Ytcombgcjgdkbiaa.G

/- spec.l01Inverse, as a pure function. -/
set_option linter.unusedVariables false
namespace Go.Proofs.Ytcombgcjgdkbiaa.G
open Go Go.Sx Go.Proofs

def spec_l01Inverse.b0 (p1 : Int) (x1 : Int) : Int → Option (LR Int Int) := fun k_1 => (bif (decide (k_1 < p1)) then (G.spec_l01Mod.f p1 x1).bind (fun r_1 => nz p1 ((bif ((Int.tmod (w64 (k_1 * r_1)) p1) == 1) then some (.ret (k_1)) else some (.next (w64 (k_1 + 1)))))) else some (.brk k_1))

def spec_l01Inverse.f (p1 : Int) (x1 : Int) : Option Int := (loop (spec_l01Inverse.b0 p1 x1) 1).bind (ln (fun k_1 => some 0))

def spec_l01Inverse.R (r : Int) (v : Value) (L : List Asn) : Prop := v = .int .i64 r ∧ L = []

set_option maxRecDepth 100000 in
set_option maxHeartbeats 4000000 in
theorem spec_l01Inverse.calls (w : World) (p1 : Int) (x1 : Int) :
    ∀ r, spec_l01Inverse.f p1 x1 = some r → Calls Try.prog 56 #[.int .i64 p1, .int .i64 x1] w (Ret w (spec_l01Inverse.R r)) := by

  refine calls_T (n := 20) (Γ := [(0, .int .i64 p1), (1, .int .i64 x1)]) (R := spec_l01Inverse.R) Try.func56 rfl rfl (Nat.le_of_ble_eq_true rfl) ⟨rfl, rfl, trivial⟩ ?_
  unfold spec_l01Inverse.f
  refine TC.seq ?_
  refine TC.region ?_
  refine TL.assign rfl rfl (v := .int .i64 0) rfl ?_
  refine TL.done ?_
  refine TC.seq ?_
  refine TC.seq ?_
  refine TC.region ?_
  refine TL.assign rfl rfl (v := .int .i64 1) rfl ?_
  refine TL.done ?_
  refine TC.loopK (σ := Int) (γ := Unit) (Γ' := (fun k_1 _ => [(0, .int .i64 p1), (1, .int .i64 x1), (5, .int .i64 k_1)])) (L' := (fun k_1 _ => [])) (Γb := (fun k_1 _ => [(0, .int .i64 p1), (1, .int .i64 x1), (5, .int .i64 k_1)])) (Lb := (fun k_1 _ => [])) (1) (()) ⟨rfl, rfl, rfl, trivial⟩ [] rfl ?_ ?_
  · rintro k_1 _
    refine TC.seq ?_
    refine TC.seq ?_
    refine TC.region ?_
    refine TL.move rfl rfl (v := .int .i64 k_1) rfl ?_
    refine TL.move rfl rfl (v := .int .i64 p1) rfl ?_
    refine TL.bin .i64 k_1 p1 rfl rfl rfl rfl (v := .bool (decide (k_1 < p1))) rfl ?_
    refine TL.done ?_
    refine TC.cond (b := (decide (k_1 < p1))) rfl (fun c1 => ?_) (fun c2 => ?_)
    · refine TC.skip ?_
      refine TC.seq ?_
      refine TC.block (NoEx.loop rfl NoEx.body) ?_
      refine TC.seq ?_
      refine TC.region ?_
      refine TL.move rfl rfl (v := .int .i64 k_1) rfl ?_
      refine TL.move rfl rfl (v := .int .i64 p1) rfl ?_
      refine TL.move rfl rfl (v := .int .i64 x1) rfl ?_
      refine TL.call (R := G.spec_l01Mod.R) Try.call112 rfl rfl rfl (fun w hS => G.spec_l01Mod.calls w p1 x1) ?_
      rintro r_1 _ _ ⟨rfl, rfl⟩
      refine TL.bin .i64 k_1 r_1 rfl rfl rfl rfl (v := .int .i64 (w64 (k_1 * r_1))) rfl ?_
      refine TL.move rfl rfl (v := .int .i64 p1) rfl ?_
      refine TL.nz fun z1 => ?_
      refine TL.rem .i64 (w64 (k_1 * r_1)) p1 z1 rfl rfl rfl rfl ?_
      refine TL.bin .i64 (Int.tmod (w64 (k_1 * r_1)) p1) 1 rfl rfl rfl rfl (v := .bool ((Int.tmod (w64 (k_1 * r_1)) p1) == 1)) rfl ?_
      refine TL.done ?_
      refine TC.cond (b := ((Int.tmod (w64 (k_1 * r_1)) p1) == 1)) rfl (fun c3 => ?_) (fun c4 => ?_)
      · refine TC.seq ?_
        refine TC.region ?_
        refine TL.move rfl rfl (v := .int .i64 k_1) rfl ?_
        refine TL.assign rfl rfl (v := .int .i64 k_1) rfl ?_
        refine TL.done ?_
        exact TC.retF (Fin.loop Far.ret (Fin.body (fin1 (.inr rfl) rfl (.tmp rfl) [] rfl ⟨rfl, rfl⟩)))
      · refine TC.skip ?_
        refine TC.region ?_
        refine TL.move rfl rfl (v := .int .i64 k_1) rfl ?_
        refine TL.bin .i64 k_1 1 rfl rfl rfl rfl (v := .int .i64 (w64 (k_1 + 1))) rfl ?_
        refine TL.assign rfl rfl (v := .int .i64 (w64 (k_1 + 1))) rfl ?_
        refine TL.done ?_
        exact TC.next ((w64 (k_1 + 1))) (()) ⟨rfl, rfl, rfl, trivial⟩ [] rfl
    · exact TC.brk (k_1) (()) ⟨rfl, rfl, rfl, trivial⟩ [] rfl
  · rintro k_1 _
    refine TC.seq ?_
    refine TC.region ?_
    refine TL.assign rfl rfl (v := .int .i64 0) rfl ?_
    refine TL.done ?_
    exact TC.retF (Fin.body (fin1 (.inr rfl) rfl (.tmp rfl) [] rfl ⟨rfl, rfl⟩))

end Go.Proofs.Ytcombgcjgdkbiaa.G
