/- FnExactTwistedAlgebra tells true: the program's TwistedAlgebra returns what the reference's returns. -/
import Derived.Test.YtcombgcjgdkbiaaMTwistedAlgebraP1
import Derived.Test.YtcombgcjgdkbiaaRows
import Derived.WalkKit
import Derived.ProofKit
import Derived.OpenShut
import Derived.ShutString
import Derived.ChangeOld
import Derived.Below
import Derived.SizedLaws
namespace Go.Proofs.Ytcombgcjgdkbiaa.fnExactTwistedAlgebra
open Go.ChangeShapes Go.WideShapes Go.ChangeAt Go.RowKit Go.Sx
set_option linter.unusedVariables false
theorem own : ownKnob Try.prog.godebug = none := by kernel_rfl
theorem laidOut : laidOutB Try.prog = true := by kernel_rfl
set_option maxRecDepth 100000 in
set_option maxHeartbeats 4000000 in
theorem lifted (os : Os) (started : os.Started) (H : Type) (enc : TypeId × Value → H) :
    ReturnsInHanded {} Try.checked os 14 .any (Rows.fnExactTwistedAlgebraSpec.pre6 enc Try.prog Try.f14 Rows.fnExactTwistedAlgebraRow.domain false) (Rows.fnExactTwistedAlgebraSpec.post enc Try.prog Try.f14 false true false false) := by
  refine returnsInHanded_of_change_sized (C := Try.checked) own started (by kernel_rfl) Try.func14
    (ChangeSpec.witness6 (enc := enc) (C := Try.checked) false ⟨#[], #[.int .i64 0, (Try.t35.zero.getD (.bool false)), .slice none 0 0], []⟩ 8 (by kernel_rfl) (by kernel_rfl) (by kernel_rfl) (by kernel_rfl)) ?_
  intro W base args ds gs before hval0 hW hcnd hsz0 _
  have hsz : (DataW.weightsEach Try.prog (Try.f14.params.toList ++ Rows.fnExactTwistedAlgebraSpec.plain.varTypes Try.prog) (ds ++ gs)).all (· ≤ reachBytes) = true := hsz0
  have hval : ∀ (j : Nat) t v, Try.f14.params[j]? = some t → args[j]? = some v → Value.okWide Try.prog W .any base t v := hval0
  have hW' := hW
  obtain ⟨p, q, hA0, hV, rfl, hfz, hnd⟩ := hW
  have hA : DataW.TrodAll enc Try.prog W 0 (fun _ => true) true Try.f14.params.toList args.toList ds p := hA0
  rw [Try.params14] at hA hval hsz
  obtain ⟨v0, vs0, d0, ds0, p0, q0, hargs, rfl, rfl, h0, r0⟩ := trodAll_cons hA
  obtain ⟨v1, vs1, d1, ds1, p1, q1, rfl, rfl, rfl, h1, r1⟩ := trodAll_cons r0
  obtain ⟨v2, vs2, d2, ds2, p2, q2, rfl, rfl, rfl, h2, r2⟩ := trodAll_cons r1
  obtain ⟨rfl, rfl, rfl⟩ := trodAll_nil r2
  obtain rfl : args = #[v0, v1, v2] := by cases args; simp_all
  obtain ⟨rfl, rfl⟩ := trodVars_none hV
  have k0 := h0
  have lt0 : ∀ x ∈ p0, x.block < W.heap.size := by obtain ⟨m, hm⟩ := k0; exact DataW.trod_lt m _ _ _ hm
  obtain ⟨a0, rfl, w0⟩ := okWideV_int Try.underlying2 (hval 0 2 v0 rfl rfl)
  have k1 := h1
  have lt1 : ∀ x ∈ p1, x.block < W.heap.size := by obtain ⟨m, hm⟩ := k1; exact DataW.trod_lt m _ _ _ hm
  obtain ⟨cs1, rfl, hn1, hc1⟩ := okWide_agg (P := Try.prog) (t := 35) (ts := Try.prog.cellTypes Try.prog.depth 35 |>.getD []) (by rw [Try.underlying35]) (by kernel_rfl) (hval 1 35 v1 rfl rfl)
  replace hn1 : cs1.size = 37 := hn1.trans (by kernel_rfl)
  have hts1 : (Try.prog.cellTypes Try.prog.depth 35 |>.getD []) = [2, 5, 5, 5, 5, 5, 5, 5, 5, 5, 5, 5, 5, 5, 5, 5, 5, 5, 5, 5, 5, 5, 5, 5, 5, 5, 5, 5, 5, 5, 5, 5, 5, 5, 5, 5, 5] := by kernel_rfl
  rw [hts1] at hc1
  obtain ⟨a1_0, e1_0, w1_0⟩ : ∃ x, (cs1.toList.drop 0).take 1 = flat [.one (.int .i64 x)] ∧ IntKind.i64.has x := i64cell cs1 0 (by omega) fun u hu => Go.Sx.okWide_int Try.underlying2 (by obtain ⟨k_, hk_, h_⟩ := hc1 0 u hu; obtain rfl : 2 = k_ := (by simpa using hk_); exact h_)
  obtain ⟨a1_1, e1_1⟩ := u8block cs1 1 36 (fun i_ hi_ hi2_ => by
    have hlt_ : i_ < cs1.size := by omega
    obtain ⟨k_, hk_, h_⟩ := hc1 i_ cs1[i_] (by simp [hlt_])
    have : k_ = 5 := by
      have hall : (List.range' 1 36).all (fun j_ => ([2, 5, 5, 5, 5, 5, 5, 5, 5, 5, 5, 5, 5, 5, 5, 5, 5, 5, 5, 5, 5, 5, 5, 5, 5, 5, 5, 5, 5, 5, 5, 5, 5, 5, 5, 5, 5] : List Nat)[j_ % 37]? == some 5) = true := by decide
      have h2 := eq_of_beq (List.all_eq_true.mp hall i_ (by simp; omega))
      exact Option.some.inj (hk_.symm.trans h2)
    subst this
    obtain ⟨n_, hn_, hw_⟩ := Go.Sx.okWide_int Try.underlying5 h_
    exact ⟨n_, by simp [hlt_, hn_], hw_⟩)
  have hall1 : Value.agg cs1 = sval [.one (.int .i64 a1_0), .arr 36 (enf u8v a1_1)] := by
    unfold sval
    congr 1
    apply Array.ext'
    rw [show cs1.toList = (cs1.toList.drop 0).take 1 ++ ((cs1.toList.drop 1).take 36 ++ ([])) from ?_]
    · rw [e1_0, e1_1]
      simp [flat]
    · have hl_ : cs1.toList.length = 37 := by simpa using hn1
      exact (pieces_eq cs1.toList [1, 36] 0 (by rw [hl_]; rfl)).symm
  rw [hall1]
  rw [hall1] at hW' k1
  have k2 := h2
  have lt2 : ∀ x ∈ p2, x.block < W.heap.size := by obtain ⟨m, hm⟩ := k2; exact DataW.trod_lt m _ _ _ hm
  obtain ⟨s2, ss2, a2, rfl, rd2, w2, z2, y2⟩ := okWideV_introws Try.underlying53 Try.underlying22 Try.underlying2 (by kernel_rfl) (by kernel_rfl) (hval 2 53 v2 rfl rfl) k2
  clear hA0 hval0 hsz0 hsz
  refine (G.laws_FnExactTwistedAlgebra.calls W a0 a1_0 a1_1 s2 ss2 a2 rd2 true (G.plain_FnExactTwistedAlgebra a0 a1_0 a1_1 a2 w0 w1_0 w2 z2 y2)).mono fun e W' ⟨v_, L_, he, ⟨hv_, hL_⟩, hS_⟩ => ?_
  subst he
  subst hv_
  have bel : Below W.heap.size W W' := hS_.below
  exact ⟨_, rfl, _, _, _, [], _, [], hW', trodAll_mk1 (shut_bool Try.underlying4 _), (trodAll_cons_mk (Below.trod laidOut (by kernel_rfl) (of_decide_eq_true (by kernel_rfl)) k0 bel lt0) (trodAll_cons_mk (Below.trod laidOut (by kernel_rfl) (of_decide_eq_true (by kernel_rfl)) k1 bel lt1) (trodAll_cons_mk (Below.trod laidOut (by kernel_rfl) (of_decide_eq_true (by kernel_rfl)) k2 bel lt2) trodAll_mk0))), rfl, bel.frame _, fun h => by cases h⟩
theorem over : Rows.fnExactTwistedAlgebraRow.holds Try.pinned (OpenSpec.ofChange Rows.fnExactTwistedAlgebraSpec) :=
  OpenClaim.holds_of_wide 14 Try.f14 rfl rfl rfl rfl rfl rfl rfl ⟨rfl, rfl, rfl, rfl, rfl⟩ rfl rfl rfl rfl rfl (by kernel_rfl) Try.func14 (by kernel_rfl)
    (of_decide_eq_true (by kernel_rfl)) (by unfold Func.isWrapper; first | (rw [if_pos (by decide +kernel)]; kernel_rfl) | (rw [if_neg (by decide +kernel)]; exact ⟨rfl, rfl⟩))
    (fun os started H enc _ => lifted os started H enc)
theorem proved : Rows.FnExactTwistedAlgebraSaid := over
#print axioms proved
end Go.Proofs.Ytcombgcjgdkbiaa.fnExactTwistedAlgebra
namespace Go.Proofs.Ytcombgcjgdkbiaa
/-- The row, under a short name, for the claim. -/
theorem fnExactTwistedAlgebra_holds : Rows.FnExactTwistedAlgebraSaid := fnExactTwistedAlgebra.proved
end Go.Proofs.Ytcombgcjgdkbiaa
