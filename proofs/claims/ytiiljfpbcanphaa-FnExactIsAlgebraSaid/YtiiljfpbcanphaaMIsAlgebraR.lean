/- The program's IsAlgebra answers what the reference's answers, at every table. -/
import Derived.Test.YtiiljfpbcanphaaMIsAlgebraP2
import Derived.Test.YtiiljfpbcanphaaRows
import Derived.WalkKit
import Derived.ProofKit
import Derived.OpenShut
import Derived.ShutString
import Derived.ChangeOld
import Derived.Below
import Derived.SizedLaws
namespace Go.Proofs.Ytiiljfpbcanphaa.fnExactIsAlgebra
open Go.ChangeShapes Go.WideShapes Go.ChangeAt Go.RowKit Go.Sx
set_option linter.unusedVariables false
theorem own : ownKnob Try.prog.godebug = none := by kernel_rfl
theorem laidOut : laidOutB Try.prog = true := by kernel_rfl
set_option maxRecDepth 100000 in
set_option maxHeartbeats 4000000 in
theorem lifted (os : Os) (started : os.Started) (H : Type) (enc : TypeId × Value → H) :
    ReturnsInHanded {} Try.checked os 10 .any (Rows.fnExactIsAlgebraSpec.pre6 enc Try.prog Try.f10 Rows.fnExactIsAlgebraRow.domain false) (Rows.fnExactIsAlgebraSpec.post enc Try.prog Try.f10 false true false false) := by
  refine returnsInHanded_of_change_sized (C := Try.checked) own started (by kernel_rfl) Try.func10
    (ChangeSpec.witness6 (enc := enc) (C := Try.checked) false ⟨#[], #[(Try.t53.zero.getD (.bool false))], []⟩ 8 (by kernel_rfl) (by kernel_rfl) (by kernel_rfl) (by kernel_rfl)) ?_
  intro W base args ds gs before hval0 hW hcnd hsz0 _
  have hsz : (DataW.weightsEach Try.prog (Try.f10.params.toList ++ Rows.fnExactIsAlgebraSpec.plain.varTypes Try.prog) (ds ++ gs)).all (· ≤ reachBytes) = true := hsz0
  have hval : ∀ (j : Nat) t v, Try.f10.params[j]? = some t → args[j]? = some v → Value.okWide Try.prog W .any base t v := hval0
  have hW' := hW
  obtain ⟨p, q, hA0, hV, rfl, hfz, hnd⟩ := hW
  have hA : DataW.TrodAll enc Try.prog W 0 (fun _ => true) true Try.f10.params.toList args.toList ds p := hA0
  rw [Try.params10] at hA hval hsz
  obtain ⟨v0, vs0, d0, ds0, p0, q0, hargs, rfl, rfl, h0, r0⟩ := trodAll_cons hA
  obtain ⟨rfl, rfl, rfl⟩ := trodAll_nil r0
  obtain rfl : args = #[v0] := by cases args; simp_all
  obtain ⟨rfl, rfl⟩ := trodVars_none hV
  have k0 := h0
  have lt0 : ∀ x ∈ p0, x.block < W.heap.size := by obtain ⟨m, hm⟩ := k0; exact DataW.trod_lt m _ _ _ hm
  obtain ⟨cs0, rfl, hn0, hc0⟩ := okWide_agg (P := Try.prog) (t := 53) (ts := Try.prog.cellTypes Try.prog.depth 53 |>.getD []) (by rw [Try.underlying53]) (by kernel_rfl) (hval 0 53 v0 rfl rfl)
  replace hn0 : cs0.size = 224 := hn0.trans (by kernel_rfl)
  have hts0 : (Try.prog.cellTypes Try.prog.depth 53 |>.getD []) = [2, 2, 5, 5, 5, 5, 5, 5, 5, 5, 5, 5, 5, 5, 5, 5, 5, 5, 5, 5, 5, 5, 5, 5, 5, 5, 5, 5, 5, 5, 5, 5, 5, 5, 5, 5, 5, 5, 5, 5, 5, 5, 5, 5, 5, 5, 5, 5, 5, 5, 5, 5, 5, 5, 5, 5, 5, 5, 5, 5, 5, 5, 5, 5, 5, 5, 5, 5, 5, 5, 5, 5, 5, 5, 5, 5, 5, 5, 5, 5, 5, 5, 5, 5, 5, 5, 5, 5, 5, 5, 5, 5, 5, 5, 5, 5, 5, 5, 5, 5, 5, 5, 5, 5, 5, 5, 5, 5, 5, 5, 5, 5, 5, 5, 5, 5, 5, 5, 5, 5, 5, 5, 5, 5, 5, 5, 5, 5, 5, 5, 5, 5, 5, 5, 5, 5, 5, 5, 5, 5, 5, 5, 5, 5, 5, 5, 5, 5, 5, 5, 5, 5, 5, 5, 5, 5, 5, 5, 5, 5, 5, 5, 5, 5, 5, 5, 5, 5, 5, 5, 5, 5, 5, 5, 5, 5, 5, 5, 5, 5, 5, 5, 5, 5, 5, 5, 5, 5, 5, 5, 5, 5, 5, 5, 5, 5, 5, 5, 5, 5, 5, 5, 5, 5, 5, 5, 5, 5, 5, 5, 5, 5, 5, 5, 5, 5, 5, 5, 5, 5, 5, 5, 5, 5] := by kernel_rfl
  rw [hts0] at hc0
  obtain ⟨a0_0, e0_0, w0_0⟩ : ∃ x, (cs0.toList.drop 0).take 1 = flat [.one (.int .i64 x)] ∧ IntKind.i64.has x := i64cell cs0 0 (by omega) fun u hu => Go.Sx.okWide_int Try.underlying2 (by obtain ⟨k_, hk_, h_⟩ := hc0 0 u hu; obtain rfl : 2 = k_ := (by simpa using hk_); exact h_)
  obtain ⟨a0_1, e0_1, w0_1⟩ : ∃ x, (cs0.toList.drop 1).take 1 = flat [.one (.int .i64 x)] ∧ IntKind.i64.has x := i64cell cs0 1 (by omega) fun u hu => Go.Sx.okWide_int Try.underlying2 (by obtain ⟨k_, hk_, h_⟩ := hc0 1 u hu; obtain rfl : 2 = k_ := (by simpa using hk_); exact h_)
  obtain ⟨a0_2, e0_2⟩ := u8block cs0 2 216 (fun i_ hi_ hi2_ => by
    have hlt_ : i_ < cs0.size := by omega
    obtain ⟨k_, hk_, h_⟩ := hc0 i_ cs0[i_] (by simp [hlt_])
    have : k_ = 5 := by
      have hall : (List.range' 2 216).all (fun j_ => ([2, 2, 5, 5, 5, 5, 5, 5, 5, 5, 5, 5, 5, 5, 5, 5, 5, 5, 5, 5, 5, 5, 5, 5, 5, 5, 5, 5, 5, 5, 5, 5, 5, 5, 5, 5, 5, 5, 5, 5, 5, 5, 5, 5, 5, 5, 5, 5, 5, 5, 5, 5, 5, 5, 5, 5, 5, 5, 5, 5, 5, 5, 5, 5, 5, 5, 5, 5, 5, 5, 5, 5, 5, 5, 5, 5, 5, 5, 5, 5, 5, 5, 5, 5, 5, 5, 5, 5, 5, 5, 5, 5, 5, 5, 5, 5, 5, 5, 5, 5, 5, 5, 5, 5, 5, 5, 5, 5, 5, 5, 5, 5, 5, 5, 5, 5, 5, 5, 5, 5, 5, 5, 5, 5, 5, 5, 5, 5, 5, 5, 5, 5, 5, 5, 5, 5, 5, 5, 5, 5, 5, 5, 5, 5, 5, 5, 5, 5, 5, 5, 5, 5, 5, 5, 5, 5, 5, 5, 5, 5, 5, 5, 5, 5, 5, 5, 5, 5, 5, 5, 5, 5, 5, 5, 5, 5, 5, 5, 5, 5, 5, 5, 5, 5, 5, 5, 5, 5, 5, 5, 5, 5, 5, 5, 5, 5, 5, 5, 5, 5, 5, 5, 5, 5, 5, 5, 5, 5, 5, 5, 5, 5, 5, 5, 5, 5, 5, 5, 5, 5, 5, 5, 5, 5] : List Nat)[j_ % 224]? == some 5) = true := by decide
      have h2 := eq_of_beq (List.all_eq_true.mp hall i_ (by simp; omega))
      exact Option.some.inj (hk_.symm.trans h2)
    subst this
    obtain ⟨n_, hn_, hw_⟩ := Go.Sx.okWide_int Try.underlying5 h_
    exact ⟨n_, by simp [hlt_, hn_], hw_⟩)
  obtain ⟨a0_3, e0_3⟩ := u8block cs0 218 6 (fun i_ hi_ hi2_ => by
    have hlt_ : i_ < cs0.size := by omega
    obtain ⟨k_, hk_, h_⟩ := hc0 i_ cs0[i_] (by simp [hlt_])
    have : k_ = 5 := by
      have hall : (List.range' 218 6).all (fun j_ => ([2, 2, 5, 5, 5, 5, 5, 5, 5, 5, 5, 5, 5, 5, 5, 5, 5, 5, 5, 5, 5, 5, 5, 5, 5, 5, 5, 5, 5, 5, 5, 5, 5, 5, 5, 5, 5, 5, 5, 5, 5, 5, 5, 5, 5, 5, 5, 5, 5, 5, 5, 5, 5, 5, 5, 5, 5, 5, 5, 5, 5, 5, 5, 5, 5, 5, 5, 5, 5, 5, 5, 5, 5, 5, 5, 5, 5, 5, 5, 5, 5, 5, 5, 5, 5, 5, 5, 5, 5, 5, 5, 5, 5, 5, 5, 5, 5, 5, 5, 5, 5, 5, 5, 5, 5, 5, 5, 5, 5, 5, 5, 5, 5, 5, 5, 5, 5, 5, 5, 5, 5, 5, 5, 5, 5, 5, 5, 5, 5, 5, 5, 5, 5, 5, 5, 5, 5, 5, 5, 5, 5, 5, 5, 5, 5, 5, 5, 5, 5, 5, 5, 5, 5, 5, 5, 5, 5, 5, 5, 5, 5, 5, 5, 5, 5, 5, 5, 5, 5, 5, 5, 5, 5, 5, 5, 5, 5, 5, 5, 5, 5, 5, 5, 5, 5, 5, 5, 5, 5, 5, 5, 5, 5, 5, 5, 5, 5, 5, 5, 5, 5, 5, 5, 5, 5, 5, 5, 5, 5, 5, 5, 5, 5, 5, 5, 5, 5, 5, 5, 5, 5, 5, 5, 5] : List Nat)[j_ % 224]? == some 5) = true := by decide
      have h2 := eq_of_beq (List.all_eq_true.mp hall i_ (by simp; omega))
      exact Option.some.inj (hk_.symm.trans h2)
    subst this
    obtain ⟨n_, hn_, hw_⟩ := Go.Sx.okWide_int Try.underlying5 h_
    exact ⟨n_, by simp [hlt_, hn_], hw_⟩)
  have hall0 : Value.agg cs0 = sval [.one (.int .i64 a0_0), .one (.int .i64 a0_1), .arr 216 (enf u8v a0_2), .arr 6 (enf u8v a0_3)] := by
    unfold sval
    congr 1
    apply Array.ext'
    rw [show cs0.toList = (cs0.toList.drop 0).take 1 ++ ((cs0.toList.drop 1).take 1 ++ ((cs0.toList.drop 2).take 216 ++ ((cs0.toList.drop 218).take 6 ++ ([])))) from ?_]
    · rw [e0_0, e0_1, e0_2, e0_3]
      simp [flat]
    · have hl_ : cs0.toList.length = 224 := by simpa using hn0
      exact (pieces_eq cs0.toList [1, 1, 216, 6] 0 (by rw [hl_]; rfl)).symm
  rw [hall0]
  rw [hall0] at hW' k0
  clear hA0 hval0 hsz0 hsz
  refine (G.laws_FnExactIsAlgebra.calls W a0_0 a0_1 a0_2 a0_3 true (G.plain_FnExactIsAlgebra a0_0 a0_1 a0_2 a0_3 w0_0 w0_1)).mono fun e W' ⟨v_, L_, he, ⟨hv_, hL_⟩, hS_⟩ => ?_
  subst he
  subst hv_
  have bel : Below W.heap.size W W' := hS_.below
  exact ⟨_, rfl, _, _, _, [], _, [], hW', trodAll_mk1 (shut_bool Try.underlying4 _), (trodAll_cons_mk (Below.trod laidOut (by kernel_rfl) (of_decide_eq_true (by kernel_rfl)) k0 bel lt0) trodAll_mk0), rfl, bel.frame _, fun h => by cases h⟩
theorem over : Rows.fnExactIsAlgebraRow.holds Try.pinned (OpenSpec.ofChange Rows.fnExactIsAlgebraSpec) :=
  OpenClaim.holds_of_wide 10 Try.f10 rfl rfl rfl rfl rfl rfl rfl ⟨rfl, rfl, rfl, rfl, rfl⟩ rfl rfl rfl rfl rfl (by kernel_rfl) Try.func10 (by kernel_rfl)
    (of_decide_eq_true (by kernel_rfl)) (by unfold Func.isWrapper; first | (rw [if_pos (by decide +kernel)]; kernel_rfl) | (rw [if_neg (by decide +kernel)]; exact ⟨rfl, rfl⟩))
    (fun os started H enc _ => lifted os started H enc)
theorem proved : Rows.FnExactIsAlgebraSaid := over
#print axioms proved
end Go.Proofs.Ytiiljfpbcanphaa.fnExactIsAlgebra
namespace Go.Proofs.Ytiiljfpbcanphaa
/-- The row, under a short name, for the claim. -/
theorem fnExactIsAlgebra_holds : Rows.FnExactIsAlgebraSaid := fnExactIsAlgebra.proved
end Go.Proofs.Ytiiljfpbcanphaa
