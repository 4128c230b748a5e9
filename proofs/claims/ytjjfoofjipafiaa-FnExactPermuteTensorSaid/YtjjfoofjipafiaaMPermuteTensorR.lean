/- The program's PermuteTensor answers what the reference's answers, at every tensor and every two lists. -/
import Derived.Test.YtjjfoofjipafiaaMPermuteTensorP1
import Derived.Test.YtjjfoofjipafiaaRows
import Derived.WalkKit
import Derived.ProofKit
import Derived.OpenShut
import Derived.ShutString
import Derived.ChangeOld
import Derived.Below
import Derived.SizedLaws
namespace Go.Proofs.Ytjjfoofjipafiaa.fnExactPermuteTensor
open Go.ChangeShapes Go.WideShapes Go.ChangeAt Go.RowKit Go.Sx
set_option linter.unusedVariables false
theorem own : ownKnob Try.prog.godebug = none := by kernel_rfl
theorem laidOut : laidOutB Try.prog = true := by kernel_rfl
set_option maxRecDepth 100000 in
set_option maxHeartbeats 4000000 in
theorem lifted (os : Os) (started : os.Started) (H : Type) (enc : TypeId × Value → H) :
    ReturnsInHanded {} Try.checked os 10 .any (Rows.fnExactPermuteTensorSpec.pre6 enc Try.prog Try.f10 Rows.fnExactPermuteTensorRow.domain false) (Rows.fnExactPermuteTensorSpec.post enc Try.prog Try.f10 false true false false) := by
  refine returnsInHanded_of_change_sized (C := Try.checked) own started (by kernel_rfl) Try.func10
    (ChangeSpec.witness6 (enc := enc) (C := Try.checked) false ⟨#[], #[(Try.t32.zero.getD (.bool false)), .slice none 0 0, .slice none 0 0], []⟩ 8 (by kernel_rfl) (by kernel_rfl) (by kernel_rfl) (by kernel_rfl)) ?_
  intro W base args ds gs before hval0 hW hcnd hsz0 _
  have hsz : (DataW.weightsEach Try.prog (Try.f10.params.toList ++ Rows.fnExactPermuteTensorSpec.plain.varTypes Try.prog) (ds ++ gs)).all (· ≤ reachBytes) = true := hsz0
  have hval : ∀ (j : Nat) t v, Try.f10.params[j]? = some t → args[j]? = some v → Value.okWide Try.prog W .any base t v := hval0
  have hW' := hW
  obtain ⟨p, q, hA0, hV, rfl, hfz, hnd⟩ := hW
  have hA : DataW.TrodAll enc Try.prog W 0 (fun _ => true) true Try.f10.params.toList args.toList ds p := hA0
  rw [Try.params10] at hA hval hsz
  obtain ⟨v0, vs0, d0, ds0, p0, q0, hargs, rfl, rfl, h0, r0⟩ := trodAll_cons hA
  obtain ⟨v1, vs1, d1, ds1, p1, q1, rfl, rfl, rfl, h1, r1⟩ := trodAll_cons r0
  obtain ⟨v2, vs2, d2, ds2, p2, q2, rfl, rfl, rfl, h2, r2⟩ := trodAll_cons r1
  obtain ⟨rfl, rfl, rfl⟩ := trodAll_nil r2
  obtain rfl : args = #[v0, v1, v2] := by cases args; simp_all
  obtain ⟨rfl, rfl⟩ := trodVars_none hV
  have k0 := h0
  have lt0 : ∀ x ∈ p0, x.block < W.heap.size := by obtain ⟨m, hm⟩ := k0; exact DataW.trod_lt m _ _ _ hm
  obtain ⟨cs0, rfl, hn0, hc0⟩ := okWide_agg (P := Try.prog) (t := 32) (ts := Try.prog.cellTypes Try.prog.depth 32 |>.getD []) (by rw [Try.underlying32]) (by kernel_rfl) (hval 0 32 v0 rfl rfl)
  replace hn0 : cs0.size = 5 := hn0.trans (by kernel_rfl)
  have hts0 : (Try.prog.cellTypes Try.prog.depth 32 |>.getD []) = [2, 2, 2, 2, 22] := by kernel_rfl
  rw [hts0] at hc0
  obtain ⟨a0_0, e0_0, w0_0⟩ : ∃ x, (cs0.toList.drop 0).take 1 = flat [.one (.int .i64 x)] ∧ IntKind.i64.has x := i64cell cs0 0 (by omega) fun u hu => Go.Sx.okWide_int Try.underlying2 (by obtain ⟨k_, hk_, h_⟩ := hc0 0 u hu; obtain rfl : 2 = k_ := (by simpa using hk_); exact h_)
  obtain ⟨a0_1, e0_1, w0_1⟩ : ∃ x, (cs0.toList.drop 1).take 1 = flat [.one (.int .i64 x)] ∧ IntKind.i64.has x := i64cell cs0 1 (by omega) fun u hu => Go.Sx.okWide_int Try.underlying2 (by obtain ⟨k_, hk_, h_⟩ := hc0 1 u hu; obtain rfl : 2 = k_ := (by simpa using hk_); exact h_)
  obtain ⟨a0_2, e0_2, w0_2⟩ : ∃ x, (cs0.toList.drop 2).take 1 = flat [.one (.int .i64 x)] ∧ IntKind.i64.has x := i64cell cs0 2 (by omega) fun u hu => Go.Sx.okWide_int Try.underlying2 (by obtain ⟨k_, hk_, h_⟩ := hc0 2 u hu; obtain rfl : 2 = k_ := (by simpa using hk_); exact h_)
  obtain ⟨a0_3, e0_3, w0_3⟩ : ∃ x, (cs0.toList.drop 3).take 1 = flat [.one (.int .i64 x)] ∧ IntKind.i64.has x := i64cell cs0 3 (by omega) fun u hu => Go.Sx.okWide_int Try.underlying2 (by obtain ⟨k_, hk_, h_⟩ := hc0 3 u hu; obtain rfl : 2 = k_ := (by simpa using hk_); exact h_)
  obtain ⟨s0_4, a0_4, e0_4, rd0_4, w0_4⟩ := structInts Try.underlying32 k0 4 rfl Try.underlying22 Try.underlying2 (by kernel_rfl) (by kernel_rfl) (o := 4) rfl
  have hall0 : Value.agg cs0 = sval [.one (.int .i64 a0_0), .one (.int .i64 a0_1), .one (.int .i64 a0_2), .one (.int .i64 a0_3), .one (SV.v s0_4)] := by
    unfold sval
    congr 1
    apply Array.ext'
    rw [show cs0.toList = (cs0.toList.drop 0).take 1 ++ ((cs0.toList.drop 1).take 1 ++ ((cs0.toList.drop 2).take 1 ++ ((cs0.toList.drop 3).take 1 ++ ((cs0.toList.drop 4).take 1 ++ ([]))))) from ?_]
    · rw [e0_0, e0_1, e0_2, e0_3, e0_4]
      simp [flat]
    · have hl_ : cs0.toList.length = 5 := by simpa using hn0
      exact (pieces_eq cs0.toList [1, 1, 1, 1, 1] 0 (by rw [hl_]; rfl)).symm
  rw [hall0]
  rw [hall0] at hW' k0
  have k1 := h1
  have lt1 : ∀ x ∈ p1, x.block < W.heap.size := by obtain ⟨m, hm⟩ := k1; exact DataW.trod_lt m _ _ _ hm
  obtain ⟨s1, a1, el1, sp1, rfl, rd1, w1, hd1⟩ := okWideV_ints Try.underlying22 Try.underlying2 (by kernel_rfl) (hval 1 22 v1 rfl rfl) k1
  have z1 : a1.length * 8 ≤ 140737488351232 := by
    rcases hd1 with ⟨_, rfl⟩ | ⟨hd, hl⟩
    · decide
    · have z := sized_slice hsz (j := 1) (t := 22) rfl (congrArg some hd) Try.underlying22
      rw [show Try.prog.bytesOf 2 = 8 by kernel_rfl] at z
      have hb : reachBytes = 140737488351232 := rfl
      omega
  have k2 := h2
  have lt2 : ∀ x ∈ p2, x.block < W.heap.size := by obtain ⟨m, hm⟩ := k2; exact DataW.trod_lt m _ _ _ hm
  obtain ⟨s2, a2, el2, sp2, rfl, rd2, w2, hd2⟩ := okWideV_ints Try.underlying22 Try.underlying2 (by kernel_rfl) (hval 2 22 v2 rfl rfl) k2
  have z2 : a2.length * 8 ≤ 140737488351232 := by
    rcases hd2 with ⟨_, rfl⟩ | ⟨hd, hl⟩
    · decide
    · have z := sized_slice hsz (j := 2) (t := 22) rfl (congrArg some hd) Try.underlying22
      rw [show Try.prog.bytesOf 2 = 8 by kernel_rfl] at z
      have hb : reachBytes = 140737488351232 := rfl
      omega
  clear hA0 hval0 hsz0 hsz
  refine (G.laws_FnExactPermuteTensor.calls W a0_0 a0_1 a0_2 a0_3 s0_4 a0_4 s1 a1 s2 a2 rd0_4 rd1 rd2 true (G.plain_FnExactPermuteTensor a0_0 a0_1 a0_2 a0_3 a0_4 a1 a2 w0_0 w0_1 w0_2 w0_3 w0_4 rd0_4.len_le w1 z1 w2 z2)).mono fun e W' ⟨v_, L_, he, ⟨hv_, hL_⟩, hS_⟩ => ?_
  subst he
  subst hv_
  have bel : Below W.heap.size W W' := hS_.below
  exact ⟨_, rfl, _, _, _, [], _, [], hW', trodAll_mk1 (shut_bool Try.underlying4 _), (trodAll_cons_mk (Below.trod laidOut (by kernel_rfl) (of_decide_eq_true (by kernel_rfl)) k0 bel lt0) (trodAll_cons_mk (Below.trod laidOut (by kernel_rfl) (of_decide_eq_true (by kernel_rfl)) k1 bel lt1) (trodAll_cons_mk (Below.trod laidOut (by kernel_rfl) (of_decide_eq_true (by kernel_rfl)) k2 bel lt2) trodAll_mk0))), rfl, bel.frame _, fun h => by cases h⟩
theorem over : Rows.fnExactPermuteTensorRow.holds Try.pinned (OpenSpec.ofChange Rows.fnExactPermuteTensorSpec) :=
  OpenClaim.holds_of_wide 10 Try.f10 rfl rfl rfl rfl rfl rfl rfl ⟨rfl, rfl, rfl, rfl, rfl⟩ rfl rfl rfl rfl rfl (by kernel_rfl) Try.func10 (by kernel_rfl)
    (of_decide_eq_true (by kernel_rfl)) (by unfold Func.isWrapper; first | (rw [if_pos (by decide +kernel)]; kernel_rfl) | (rw [if_neg (by decide +kernel)]; exact ⟨rfl, rfl⟩))
    (fun os started H enc _ => lifted os started H enc)
theorem proved : Rows.FnExactPermuteTensorSaid := over
#print axioms proved
end Go.Proofs.Ytjjfoofjipafiaa.fnExactPermuteTensor
namespace Go.Proofs.Ytjjfoofjipafiaa
/-- The row, under a short name, for the claim. -/
theorem fnExactPermuteTensor_holds : Rows.FnExactPermuteTensorSaid := fnExactPermuteTensor.proved
end Go.Proofs.Ytjjfoofjipafiaa
