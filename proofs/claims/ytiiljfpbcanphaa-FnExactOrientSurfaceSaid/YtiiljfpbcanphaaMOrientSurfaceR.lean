/- The program's OrientSurface answers what the reference's answers, at every list of triangles. -/
import Derived.Test.YtiiljfpbcanphaaMOrientSurfaceP1
import Derived.Test.YtiiljfpbcanphaaRows
import Derived.WalkKit
import Derived.ProofKit
import Derived.OpenShut
import Derived.ShutString
import Derived.ChangeOld
import Derived.Below
import Derived.SizedLaws
namespace Go.Proofs.Ytiiljfpbcanphaa.fnExactOrientSurface
open Go.ChangeShapes Go.WideShapes Go.ChangeAt Go.RowKit Go.Sx
set_option linter.unusedVariables false
theorem own : ownKnob Try.prog.godebug = none := by kernel_rfl
theorem laidOut : laidOutB Try.prog = true := by kernel_rfl
set_option maxRecDepth 100000 in
set_option maxHeartbeats 4000000 in
theorem lifted (os : Os) (started : os.Started) (H : Type) (enc : TypeId × Value → H) :
    ReturnsInHanded {} Try.checked os 9 .any (Rows.fnExactOrientSurfaceSpec.pre6 enc Try.prog Try.f9 Rows.fnExactOrientSurfaceRow.domain false) (Rows.fnExactOrientSurfaceSpec.post enc Try.prog Try.f9 false true false false) := by
  refine returnsInHanded_of_change_sized (C := Try.checked) own started (by kernel_rfl) Try.func9
    (ChangeSpec.witness6 (enc := enc) (C := Try.checked) false ⟨#[], #[.slice none 0 0], []⟩ 8 (by kernel_rfl) (by kernel_rfl) (by kernel_rfl) (by kernel_rfl)) ?_
  intro W base args ds gs before hval0 hW hcnd hsz0 _
  have hsz : (DataW.weightsEach Try.prog (Try.f9.params.toList ++ Rows.fnExactOrientSurfaceSpec.plain.varTypes Try.prog) (ds ++ gs)).all (· ≤ reachBytes) = true := hsz0
  have hval : ∀ (j : Nat) t v, Try.f9.params[j]? = some t → args[j]? = some v → Value.okWide Try.prog W .any base t v := hval0
  have hW' := hW
  obtain ⟨p, q, hA0, hV, rfl, hfz, hnd⟩ := hW
  have hA : DataW.TrodAll enc Try.prog W 0 (fun _ => true) true Try.f9.params.toList args.toList ds p := hA0
  rw [Try.params9] at hA hval hsz
  obtain ⟨v0, vs0, d0, ds0, p0, q0, hargs, rfl, rfl, h0, r0⟩ := trodAll_cons hA
  obtain ⟨rfl, rfl, rfl⟩ := trodAll_nil r0
  obtain rfl : args = #[v0] := by cases args; simp_all
  obtain ⟨rfl, rfl⟩ := trodVars_none hV
  have k0 := h0
  have lt0 : ∀ x ∈ p0, x.block < W.heap.size := by obtain ⟨m, hm⟩ := k0; exact DataW.trod_lt m _ _ _ hm
  obtain ⟨s0, ss0, a0, rfl, rd0, w0, z0, y0⟩ := okWideV_introws Try.underlying32 Try.underlying22 Try.underlying2 (by kernel_rfl) (by kernel_rfl) (hval 0 32 v0 rfl rfl) k0
  clear hA0 hval0 hsz0 hsz
  refine (G.laws_FnExactOrientSurface.calls W s0 ss0 a0 rd0 true (G.plain_FnExactOrientSurface a0 w0 z0 y0)).mono fun e W' ⟨v_, L_, he, ⟨hv_, hL_⟩, hS_⟩ => ?_
  subst he
  subst hv_
  have bel : Below W.heap.size W W' := hS_.below
  exact ⟨_, rfl, _, _, _, [], _, [], hW', trodAll_mk1 (shut_bool Try.underlying4 _), (trodAll_cons_mk (Below.trod laidOut (by kernel_rfl) (of_decide_eq_true (by kernel_rfl)) k0 bel lt0) trodAll_mk0), rfl, bel.frame _, fun h => by cases h⟩
theorem over : Rows.fnExactOrientSurfaceRow.holds Try.pinned (OpenSpec.ofChange Rows.fnExactOrientSurfaceSpec) :=
  OpenClaim.holds_of_wide 9 Try.f9 rfl rfl rfl rfl rfl rfl rfl ⟨rfl, rfl, rfl, rfl, rfl⟩ rfl rfl rfl rfl rfl (by kernel_rfl) Try.func9 (by kernel_rfl)
    (of_decide_eq_true (by kernel_rfl)) (by unfold Func.isWrapper; first | (rw [if_pos (by decide +kernel)]; kernel_rfl) | (rw [if_neg (by decide +kernel)]; exact ⟨rfl, rfl⟩))
    (fun os started H enc _ => lifted os started H enc)
theorem proved : Rows.FnExactOrientSurfaceSaid := over
#print axioms proved
end Go.Proofs.Ytiiljfpbcanphaa.fnExactOrientSurface
namespace Go.Proofs.Ytiiljfpbcanphaa
/-- The row, under a short name, for the claim. -/
theorem fnExactOrientSurface_holds : Rows.FnExactOrientSurfaceSaid := fnExactOrientSurface.proved
end Go.Proofs.Ytiiljfpbcanphaa
