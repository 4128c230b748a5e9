/- laws.FnExactAlgebraNames, as a pure function. -/
import Derived.Test.YtgljkechjkllgaaProg
import Derived.Test.YtgljkechjkllgaaSx9
import Derived.Test.YtgljkechjkllgaaQ14
import Derived.Test.YtgljkechjkllgaaQ15
import Derived.Test.YtgljkechjkllgaaQ16
import Derived.Test.YtgljkechjkllgaaQ17
import Derived.Test.YtgljkechjkllgaaQ18
set_option linter.unusedVariables false
namespace Go.Proofs.Ytgljkechjkllgaa.G
open Go Go.Sx Go.Proofs

def laws_FnExactAlgebraNames.f : Option Bool := (G.spec_AlgebraNames.f).bind (fun r_1 => (G.impl_AlgebraNames.f).bind (fun r_2 => (G.laws_eqStringS.f r_2 r_1).bind (fun r_3 => (bif (!r_3) then some false else (G.laws_markStringS.f r_2 1).bind (fun p => match p with | (r_4, g01) => (G.laws_heldStringS.f g01 1).bind (fun r_5 => (bif (decide (r_5 < 0)) then some false else (bif (r_5 != r_4) then some false else (G.impl_AlgebraNames.f).bind (fun r_6 => (G.laws_eqStringS.f r_6 r_1).bind (fun r_7 => (bif (!r_7) then some false else (G.laws_heldStringS.f g01 1).bind (fun r_8 => (bif (decide (r_8 < 0)) then some false else (bif (r_8 != r_4) then some false else some true))))))))))))))

def laws_FnExactAlgebraNames.R (r : Bool) (v : Value) (L : List Asn) : Prop := v = .bool r ∧ L = []

set_option maxRecDepth 100000 in
set_option maxHeartbeats 4000000 in
theorem laws_FnExactAlgebraNames.calls (w : World) :
    ∀ r, laws_FnExactAlgebraNames.f = some r → Calls Try.prog 4 #[] w (Ret w (laws_FnExactAlgebraNames.R r)) := by

  refine calls_T (n := 36) (Γ := []) (R := laws_FnExactAlgebraNames.R) Try.func4 rfl rfl (Nat.le_of_ble_eq_true rfl) trivial ?_
  unfold laws_FnExactAlgebraNames.f
  refine TC.seq ?_
  refine TC.region ?_
  refine TL.assign rfl rfl (v := .bool false) rfl ?_
  refine TL.done ?_
  refine TC.seq ?_
  refine TC.region ?_
  refine TL.call (R := G.spec_AlgebraNames.R) Try.call14 rfl rfl rfl (fun w hS => G.spec_AlgebraNames.calls w) ?_
  rintro r_1 _ _ ⟨s1, rfl, rfl⟩
  refine TL.assign rfl rfl (v := SV.v s1) rfl ?_
  refine TL.done ?_
  refine TC.seq ?_
  refine TC.region ?_
  refine TL.call (R := G.impl_AlgebraNames.R) Try.call15 rfl rfl rfl (fun w hS => G.impl_AlgebraNames.calls w) ?_
  rintro r_2 _ _ ⟨s2, rfl, rfl⟩
  refine TL.assign rfl rfl (v := SV.v s2) rfl ?_
  refine TL.done ?_
  refine TC.seq ?_
  refine TC.seq ?_
  refine TC.region ?_
  refine TL.move rfl rfl (v := SV.v s2) rfl ?_
  refine TL.move rfl rfl (v := SV.v s1) rfl ?_
  refine TL.call (R := G.laws_eqStringS.R) Try.call16 rfl rfl rfl (fun w hS => G.laws_eqStringS.calls w s2 r_2 s1 r_1 ((Rd.row 0 rfl) w hS) ((Rd.row 1 rfl) w hS)) ?_
  rintro r_3 _ _ ⟨rfl, rfl⟩
  refine TL.not r_3 rfl rfl rfl ?_
  refine TL.done ?_
  refine TC.cond (b := (!r_3)) rfl (fun c1 => ?_) (fun c2 => ?_)
  · refine TC.seq ?_
    refine TC.region ?_
    refine TL.assign rfl rfl (v := .bool false) rfl ?_
    refine TL.done ?_
    exact TC.retF (Fin.body (fin1 (.inr rfl) rfl (.tmp rfl) [] rfl ⟨rfl, rfl⟩))
  · refine TC.skip ?_
    refine TC.seq ?_
    refine TC.region ?_
    refine TL.assign rfl rfl (v := .int .i64 1) rfl ?_
    refine TL.done ?_
    refine TC.seq ?_
    refine TC.region ?_
    refine TL.move rfl rfl (v := SV.v s2) rfl ?_
    refine TL.move rfl rfl (v := .int .i64 1) rfl ?_
    refine TL.callX (R := G.laws_markStringS.R s2) [0, 0] [row Es 9 s2 r_2] [row Es 9 s1 r_1] rfl Try.call17 rfl rfl rfl (fun w I_ hle hB hS => G.laws_markStringS.calls _ I_ w s2 r_2 1 hS) ?_
    rintro ⟨r_4, g01⟩ _ _ ⟨rfl, rfl⟩
    refine TL.assign rfl rfl (v := .int .i64 r_4) rfl ?_
    refine TL.done ?_
    refine TC.seq ?_
    refine TC.region ?_
    refine TL.assign rfl rfl (v := .int .i64 1) rfl ?_
    refine TL.done ?_
    refine TC.seq ?_
    refine TC.region ?_
    refine TL.move rfl rfl (v := SV.v s2) rfl ?_
    refine TL.move rfl rfl (v := .int .i64 1) rfl ?_
    refine TL.call (R := G.laws_heldStringS.R) Try.call18 rfl rfl rfl (fun w hS => G.laws_heldStringS.calls w s2 g01 1 ((Rd.row 0 rfl) w hS)) ?_
    rintro r_5 _ _ ⟨rfl, rfl⟩
    refine TL.assign rfl rfl (v := .int .i64 r_5) rfl ?_
    refine TL.done ?_
    refine TC.seq ?_
    refine TC.seq ?_
    refine TC.region ?_
    refine TL.move rfl rfl (v := .int .i64 r_5) rfl ?_
    refine TL.bin .i64 r_5 0 rfl rfl rfl rfl (v := .bool (decide (r_5 < 0))) rfl ?_
    refine TL.done ?_
    refine TC.cond (b := (decide (r_5 < 0))) rfl (fun c3 => ?_) (fun c4 => ?_)
    · refine TC.seq ?_
      refine TC.region ?_
      refine TL.assign rfl rfl (v := .bool false) rfl ?_
      refine TL.done ?_
      exact TC.retF (Fin.body (fin1 (.inr rfl) rfl (.tmp rfl) [] rfl ⟨rfl, rfl⟩))
    · refine TC.skip ?_
      refine TC.seq ?_
      refine TC.seq ?_
      refine TC.region ?_
      refine TL.move rfl rfl (v := .int .i64 r_5) rfl ?_
      refine TL.move rfl rfl (v := .int .i64 r_4) rfl ?_
      refine TL.bin .i64 r_5 r_4 rfl rfl rfl rfl (v := .bool (r_5 != r_4)) rfl ?_
      refine TL.done ?_
      refine TC.cond (b := (r_5 != r_4)) rfl (fun c5 => ?_) (fun c6 => ?_)
      · refine TC.seq ?_
        refine TC.region ?_
        refine TL.assign rfl rfl (v := .bool false) rfl ?_
        refine TL.done ?_
        exact TC.retF (Fin.body (fin1 (.inr rfl) rfl (.tmp rfl) [] rfl ⟨rfl, rfl⟩))
      · refine TC.skip ?_
        refine TC.seq ?_
        refine TC.region ?_
        refine TL.call (R := G.impl_AlgebraNames.R) Try.call15 rfl rfl rfl (fun w hS => G.impl_AlgebraNames.calls w) ?_
        rintro r_6 _ _ ⟨s3, rfl, rfl⟩
        refine TL.assign rfl rfl (v := SV.v s3) rfl ?_
        refine TL.done ?_
        refine TC.seq ?_
        refine TC.seq ?_
        refine TC.region ?_
        refine TL.move rfl rfl (v := SV.v s3) rfl ?_
        refine TL.move rfl rfl (v := SV.v s1) rfl ?_
        refine TL.call (R := G.laws_eqStringS.R) Try.call16 rfl rfl rfl (fun w hS => G.laws_eqStringS.calls w s3 r_6 s1 r_1 ((Rd.row 0 rfl) w hS) ((Rd.row 2 rfl) w hS)) ?_
        rintro r_7 _ _ ⟨rfl, rfl⟩
        refine TL.not r_7 rfl rfl rfl ?_
        refine TL.done ?_
        refine TC.cond (b := (!r_7)) rfl (fun c7 => ?_) (fun c8 => ?_)
        · refine TC.seq ?_
          refine TC.region ?_
          refine TL.assign rfl rfl (v := .bool false) rfl ?_
          refine TL.done ?_
          exact TC.retF (Fin.body (fin1 (.inr rfl) rfl (.tmp rfl) [] rfl ⟨rfl, rfl⟩))
        · refine TC.skip ?_
          refine TC.seq ?_
          refine TC.region ?_
          refine TL.assign rfl rfl (v := .int .i64 1) rfl ?_
          refine TL.done ?_
          refine TC.seq ?_
          refine TC.region ?_
          refine TL.move rfl rfl (v := SV.v s2) rfl ?_
          refine TL.move rfl rfl (v := .int .i64 1) rfl ?_
          refine TL.call (R := G.laws_heldStringS.R) Try.call18 rfl rfl rfl (fun w hS => G.laws_heldStringS.calls w s2 g01 1 ((Rd.row 1 rfl) w hS)) ?_
          rintro r_8 _ _ ⟨rfl, rfl⟩
          refine TL.assign rfl rfl (v := .int .i64 r_8) rfl ?_
          refine TL.done ?_
          refine TC.seq ?_
          refine TC.seq ?_
          refine TC.region ?_
          refine TL.move rfl rfl (v := .int .i64 r_8) rfl ?_
          refine TL.bin .i64 r_8 0 rfl rfl rfl rfl (v := .bool (decide (r_8 < 0))) rfl ?_
          refine TL.done ?_
          refine TC.cond (b := (decide (r_8 < 0))) rfl (fun c9 => ?_) (fun c10 => ?_)
          · refine TC.seq ?_
            refine TC.region ?_
            refine TL.assign rfl rfl (v := .bool false) rfl ?_
            refine TL.done ?_
            exact TC.retF (Fin.body (fin1 (.inr rfl) rfl (.tmp rfl) [] rfl ⟨rfl, rfl⟩))
          · refine TC.skip ?_
            refine TC.seq ?_
            refine TC.seq ?_
            refine TC.region ?_
            refine TL.move rfl rfl (v := .int .i64 r_8) rfl ?_
            refine TL.move rfl rfl (v := .int .i64 r_4) rfl ?_
            refine TL.bin .i64 r_8 r_4 rfl rfl rfl rfl (v := .bool (r_8 != r_4)) rfl ?_
            refine TL.done ?_
            refine TC.cond (b := (r_8 != r_4)) rfl (fun c11 => ?_) (fun c12 => ?_)
            · refine TC.seq ?_
              refine TC.region ?_
              refine TL.assign rfl rfl (v := .bool false) rfl ?_
              refine TL.done ?_
              exact TC.retF (Fin.body (fin1 (.inr rfl) rfl (.tmp rfl) [] rfl ⟨rfl, rfl⟩))
            · refine TC.skip ?_
              refine TC.seq ?_
              refine TC.region ?_
              refine TL.assign rfl rfl (v := .bool true) rfl ?_
              refine TL.done ?_
              exact TC.retF (Fin.body (fin1 (.inr rfl) rfl (.tmp rfl) [] rfl ⟨rfl, rfl⟩))

end Go.Proofs.Ytgljkechjkllgaa.G
