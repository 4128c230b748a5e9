/- spec.KnownGroup, as a pure function. -/
import Derived.Test.YtgljkechjkllgaaProg
import Derived.Test.YtgljkechjkllgaaSx9
import Derived.Test.YtgljkechjkllgaaQ61
set_option linter.unusedVariables false
namespace Go.Proofs.Ytgljkechjkllgaa.G
open Go Go.Sx Go.Proofs

def spec_KnownGroup.f (name1 : Str) : Option (Int × (Nat → UInt8) × Int) := (G.spec_l06Known.f name1).bind (fun p => match p with | (r_1, r_2, r_3) => (bif (!r_3) then some (0, (fun _ => (0 : UInt8)), 4) else some (r_1, r_2, 0)))

def spec_KnownGroup.R (r : Int × (Nat → UInt8) × Int) (v : Value) (L : List Asn) : Prop := v = .tuple #[sval [.one (.int .i64 r.1), .arr 36 (enf u8v r.2.1)], .int .i64 r.2.2] ∧ L = []

set_option maxRecDepth 100000 in
set_option maxHeartbeats 4000000 in
theorem spec_KnownGroup.calls (w : World) (name1 : Str) :
    ∀ r, spec_KnownGroup.f name1 = some r → Calls Try.prog 27 #[strv name1] w (Ret w (spec_KnownGroup.R r)) := by

  refine calls_T (n := 15) (Γ := [(0, strv name1)]) (R := spec_KnownGroup.R) Try.func27 rfl rfl (Nat.le_of_ble_eq_true rfl) ⟨rfl, trivial⟩ ?_
  unfold spec_KnownGroup.f
  refine TC.seq ?_
  refine TC.region ?_
  refine TL.alloc [.one (.int .i64 0), .arr 36 (enf u8v (fun _ => (0 : UInt8)))] rfl rfl Try.zeroValue38 rfl fun b_1 => ?_
  refine TL.assign rfl rfl (v := .int .i64 0) rfl ?_
  refine TL.done ?_
  refine TC.seq ?_
  refine TC.region ?_
  refine TL.move rfl rfl (v := strv name1) rfl ?_
  refine TL.call (R := G.spec_l06Known.R) Try.call61 rfl rfl rfl (fun w hS => G.spec_l06Known.calls w name1) ?_
  rintro ⟨r_1, r_2, r_3⟩ _ _ ⟨rfl, rfl⟩
  refine TL.move rfl rfl (v := .tuple #[sval [.one (.int .i64 r_1), .arr 36 (enf u8v r_2)], .bool r_3]) rfl ?_
  refine TL.extract rfl rfl rfl (v := sval [.one (.int .i64 r_1), .arr 36 (enf u8v r_2)]) rfl ?_
  refine TL.extract rfl rfl rfl (v := .bool r_3) rfl ?_
  refine TL.alloc [.one (.int .i64 0), .arr 36 (enf u8v (fun _ => (0 : UInt8)))] rfl rfl Try.zeroValue38 rfl fun b_2 => ?_
  refine TL.stM (news := [.one (.int .i64 r_1), .arr 36 (enf u8v r_2)]) 0 0 2 rfl Try.sizeOf38 (ones_one rfl (ones_arr (fun _ => rfl) ones_nil)) rfl rfl rfl rfl rfl rfl ?_
  refine TL.assign rfl rfl (v := .bool r_3) rfl ?_
  refine TL.done ?_
  refine TC.seq ?_
  refine TC.seq ?_
  refine TC.region ?_
  refine TL.move rfl rfl (v := .bool r_3) rfl ?_
  refine TL.not r_3 rfl rfl rfl ?_
  refine TL.done ?_
  refine TC.cond (b := (!r_3)) rfl (fun c1 => ?_) (fun c2 => ?_)
  · refine TC.seq ?_
    refine TC.region ?_
    refine TL.buildS (segs0 := [.one (.int .i64 0), .arr 36 (enf u8v (fun _ => (0 : UInt8)))]) (segs := [.one (.int .i64 0), .arr 36 (enf u8v (fun _ => (0 : UInt8)))]) [1, 36] Try.underlying38 ⟨Try.sizeOf2, Try.sizeOf34, trivial⟩ Try.zeroValue38 rfl [] rfl (fun pl hpl => by subst hpl; exact rfl) rfl rfl ?_
    refine TL.stM (news := [.one (.int .i64 0), .arr 36 (enf u8v (fun _ => (0 : UInt8)))]) 1 0 2 rfl Try.sizeOf38 (ones_one rfl (ones_arr (fun _ => rfl) ones_nil)) rfl rfl rfl rfl rfl rfl ?_
    refine TL.assign rfl rfl (v := .int .i64 4) rfl ?_
    refine TL.done ?_
    exact TC.retF (Fin.body (fin2 (.inr rfl) rfl (.cellN rfl (Src.box 1 rfl) Try.isAgg38 Try.sizeOf38 rfl) (.tmp rfl) [] rfl ⟨rfl, rfl⟩))
  · refine TC.skip ?_
    refine TC.seq ?_
    refine TC.region ?_
    refine TL.loadM 0 2 (Src.box 0 rfl) Try.isAgg38 Try.sizeOf38 (mid := [.one (.int .i64 r_1), .arr 36 (enf u8v r_2)]) rfl rfl rfl rfl rfl rfl ?_
    refine TL.stM (news := [.one (.int .i64 r_1), .arr 36 (enf u8v r_2)]) 1 0 2 rfl Try.sizeOf38 (ones_one rfl (ones_arr (fun _ => rfl) ones_nil)) rfl rfl rfl rfl rfl rfl ?_
    refine TL.assign rfl rfl (v := .int .i64 0) rfl ?_
    refine TL.done ?_
    exact TC.retF (Fin.body (fin2 (.inr rfl) rfl (.cellN rfl (Src.box 1 rfl) Try.isAgg38 Try.sizeOf38 rfl) (.tmp rfl) [] rfl ⟨rfl, rfl⟩))

end Go.Proofs.Ytgljkechjkllgaa.G
