/- impl.IsSurface$2, as a pure function. -/
import Derived.Test.YtnppkcemnjkboaaProg
import Derived.Test.YtnppkcemnjkboaaSx9
set_option linter.unusedVariables false
namespace Go.Proofs.Ytnppkcemnjkboaa.G
open Go Go.Sx Go.Proofs

def impl_IsSurface_2.f (list_1 : List (Int × Int)) : Option Bool := some ((list_1.length : Int) != 2)

def impl_IsSurface_2.R (r : Bool) (v : Value) (L : List Asn) : Prop := v = .bool r ∧ L = []

set_option maxRecDepth 100000 in
set_option maxHeartbeats 4000000 in
theorem impl_IsSurface_2.calls (w : World) (s1 : SV) (list_1 : List (Int × Int)) (h1 : Reads Eii (hp w) s1 list_1) :
    ∀ r, impl_IsSurface_2.f list_1 = some r → Calls Try.prog 88 #[SV.v s1] w (Ret w (impl_IsSurface_2.R r)) := by

  refine calls_T (n := 6) (Γ := [(0, SV.v s1)]) (R := impl_IsSurface_2.R) Try.func88 rfl rfl (Nat.le_of_ble_eq_true rfl) ⟨rfl, trivial⟩ ?_
  unfold impl_IsSurface_2.f
  refine TC.seq ?_
  refine TC.region ?_
  refine TL.assign rfl rfl (v := .bool false) rfl ?_
  refine TL.done ?_
  refine TC.seq ?_
  refine TC.region ?_
  refine TL.move rfl rfl (v := SV.v s1) rfl ?_
  refine TL.len (Rd.old h1) Try.underlying64 rfl rfl rfl ?_
  refine TL.bin .i64 (list_1.length : Int) 2 rfl rfl rfl rfl (v := .bool ((list_1.length : Int) != 2)) rfl ?_
  refine TL.assign rfl rfl (v := .bool ((list_1.length : Int) != 2)) rfl ?_
  refine TL.done ?_
  exact TC.retF (Fin.body (fin1 (.inr rfl) rfl (.tmp rfl) [] rfl ⟨rfl, rfl⟩))

end Go.Proofs.Ytnppkcemnjkboaa.G
