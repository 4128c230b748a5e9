/- Functions of the program, as pure functions. -/
import Derived.Test.YtiiljfpbcanphaaMRootsOf2
import Derived.Test.YtiiljfpbcanphaaProg
/- laws.szInt64S, as a pure function. -/
set_option linter.unusedVariables false
namespace Go.Proofs.Ytiiljfpbcanphaa.G
open Go Go.Sx Go.Proofs

def laws_szInt64S.f (a_1 : List Int) (left_1 : Int) : Option Int := (bif (decide ((w64 (left_1 - (a_1.length : Int))) < 0)) then some (-1) else some (w64 (left_1 - (a_1.length : Int))))

def laws_szInt64S.R (r : Int) (v : Value) (L : List Asn) : Prop := v = .int .i64 r ∧ L = []

set_option maxRecDepth 100000 in
set_option maxHeartbeats 4000000 in
theorem laws_szInt64S.calls (w : World) (s1 : SV) (a_1 : List Int) (left_1 : Int) (h1 : Reads Ei (hp w) s1 a_1) :
    ∀ r, laws_szInt64S.f a_1 left_1 = some r → Calls Try.prog 99 #[SV.v s1, .int .i64 left_1] w (Ret w (laws_szInt64S.R r)) := by

  refine calls_T (n := 12) (Γ := [(0, SV.v s1), (1, .int .i64 left_1)]) (R := laws_szInt64S.R) Try.func99 rfl rfl (Nat.le_of_ble_eq_true rfl) ⟨rfl, rfl, trivial⟩ ?_
  unfold laws_szInt64S.f
  refine TC.seq ?_
  refine TC.region ?_
  refine TL.assign rfl rfl (v := .int .i64 0) rfl ?_
  refine TL.done ?_
  refine TC.seq ?_
  refine TC.region ?_
  refine TL.move rfl rfl (v := .int .i64 left_1) rfl ?_
  refine TL.move rfl rfl (v := SV.v s1) rfl ?_
  refine TL.len (Rd.old h1) Try.underlying22 rfl rfl rfl ?_
  refine TL.bin .i64 left_1 (a_1.length : Int) rfl rfl rfl rfl (v := .int .i64 (w64 (left_1 - (a_1.length : Int)))) rfl ?_
  refine TL.assign rfl rfl (v := .int .i64 (w64 (left_1 - (a_1.length : Int)))) rfl ?_
  refine TL.done ?_
  refine TC.seq ?_
  refine TC.seq ?_
  refine TC.region ?_
  refine TL.move rfl rfl (v := .int .i64 (w64 (left_1 - (a_1.length : Int)))) rfl ?_
  refine TL.bin .i64 (w64 (left_1 - (a_1.length : Int))) 0 rfl rfl rfl rfl (v := .bool (decide ((w64 (left_1 - (a_1.length : Int))) < 0))) rfl ?_
  refine TL.done ?_
  refine TC.cond (b := (decide ((w64 (left_1 - (a_1.length : Int))) < 0))) rfl (fun c1 => ?_) (fun c2 => ?_)
  · refine TC.seq ?_
    refine TC.region ?_
    refine TL.assign rfl rfl (v := .int .i64 (-1)) rfl ?_
    refine TL.done ?_
    exact TC.retF (Fin.body (fin1 (.inr rfl) rfl (.tmp rfl) [] rfl ⟨rfl, rfl⟩))
  · refine TC.skip ?_
    refine TC.seq ?_
    refine TC.region ?_
    refine TL.move rfl rfl (v := .int .i64 (w64 (left_1 - (a_1.length : Int)))) rfl ?_
    refine TL.assign rfl rfl (v := .int .i64 (w64 (left_1 - (a_1.length : Int)))) rfl ?_
    refine TL.done ?_
    exact TC.retF (Fin.body (fin1 (.inr rfl) rfl (.tmp rfl) [] rfl ⟨rfl, rfl⟩))

end Go.Proofs.Ytiiljfpbcanphaa.G
