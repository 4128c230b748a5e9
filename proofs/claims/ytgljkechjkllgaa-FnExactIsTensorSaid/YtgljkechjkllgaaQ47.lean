/- impl.IsTensor, as a pure function. -/
import Derived.Test.YtgljkechjkllgaaProg
import Derived.Test.YtgljkechjkllgaaSx9
import Derived.Test.YtgljkechjkllgaaQ72
import Derived.Test.YtgljkechjkllgaaQ87
import Derived.Test.YtgljkechjkllgaaQ88
import Derived.Test.YtgljkechjkllgaaQ89
import Derived.Test.YtgljkechjkllgaaQ90
set_option linter.unusedVariables false
namespace Go.Proofs.Ytgljkechjkllgaa.G
open Go Go.Sx Go.Proofs

def impl_IsTensor.f (t1 : Int) (t2 : Int) (t3 : Int) (t4 : Int) (t5 : List Int) : Option Bool := (G.impl_shapeOk.f t1 t2).bind (fun r_1 => (bif (!r_1) then some true else (G.impl_endsOk.f t3).bind (fun r_2 => some (!r_2))).bind (fun b_2 => (bif b_2 then some true else (G.impl_endsOk.f t4).bind (fun r_3 => some (!r_3))).bind (fun b_3 => (bif b_3 then some false else (G.impl_powerOf.f t2 (w64 (t3 + t4))).bind (fun r_4 => (G.slices_ContainsFunc_int64_int64.f t5 (fun x0_ => G.impl_IsTensor_1.f x0_ t1 t2 t3 t4 t5)).bind (fun r_5 => some (((decide (r_4 ≤ 1296)) && ((t5.length : Int) == r_4)) && (!r_5))))))))

def impl_IsTensor.R (r : Bool) (v : Value) (L : List Asn) : Prop := v = .bool r ∧ L = []

set_option maxRecDepth 100000 in
set_option maxHeartbeats 4000000 in
theorem impl_IsTensor.calls (w : World) (t1 : Int) (t2 : Int) (t3 : Int) (t4 : Int) (s1 : SV) (t5 : List Int) (h1 : Reads Ei (hp w) s1 t5) :
    ∀ r, impl_IsTensor.f t1 t2 t3 t4 t5 = some r → Calls Try.prog 47 #[sval [.one (.int .i64 t1), .one (.int .i64 t2), .one (.int .i64 t3), .one (.int .i64 t4), .one (SV.v s1)]] w (Ret w (impl_IsTensor.R r)) := by

  refine calls_T (n := 48) (Γ := [(0, sval [.one (.int .i64 t1), .one (.int .i64 t2), .one (.int .i64 t3), .one (.int .i64 t4), .one (SV.v s1)])]) (R := impl_IsTensor.R) Try.func47 rfl rfl (Nat.le_of_ble_eq_true rfl) ⟨rfl, trivial⟩ ?_
  unfold impl_IsTensor.f
  refine TC.seq ?_
  refine TC.region ?_
  refine TL.box [.one (.int .i64 t1), .one (.int .i64 t2), .one (.int .i64 t3), .one (.int .i64 t4), .one (SV.v s1)] rfl rfl rfl rfl fun b_1 => ?_
  refine TL.assign rfl rfl (v := .bool false) rfl ?_
  refine TL.done ?_
  refine TC.seq ?_
  refine TC.seq ?_
  refine TC.region ?_
  refine TL.fa Try.underlying61 rfl Try.sizeOf2 rfl 0 rfl rfl rfl rfl ?_
  refine TL.load1 0 (Src.box 0 rfl) Try.isAgg2 rfl rfl rfl rfl rfl ?_
  refine TL.fa Try.underlying61 rfl Try.sizeOf2 rfl 1 rfl rfl rfl rfl ?_
  refine TL.load1 1 (Src.box 0 rfl) Try.isAgg2 rfl rfl rfl rfl rfl ?_
  refine TL.call (R := G.impl_shapeOk.R) Try.call87 rfl rfl rfl (fun w hS => G.impl_shapeOk.calls w t1 t2) ?_
  rintro r_1 _ _ ⟨rfl, rfl⟩
  refine TL.not r_1 rfl rfl rfl ?_
  refine TL.move rfl rfl (v := .bool (!r_1)) rfl ?_
  refine TL.cutJ (σ := Bool) (γ := Unit) (Γ' := fun b_2 _ => [(16, .bool b_2), (0, sval [.one (.int .i64 t1), .one (.int .i64 t2), .one (.int .i64 t3), .one (.int .i64 t4), .one (SV.v s1)]), (1, bp b_1 0), (2, .bool false), (5, bp b_1 0), (6, .int .i64 t1), (7, bp b_1 1), (8, .int .i64 t2), (9, .bool r_1), (10, .bool (!r_1)), (11, .bool (!r_1))]) (L' := fun _ _ => [box b_1 61 [.one (.int .i64 t1), .one (.int .i64 t2), .one (.int .i64 t3), .one (.int .i64 t4), .one (SV.v s1)]]) 5 ?_ ?_
  · refine TL.ifb (t := 11) (b := (!r_1)) rfl (fun c1 => ?_) (fun c2 => ?_)
    · refine TL.skip rfl rfl (by decide) ?_
      refine TL.skip rfl rfl (by decide) ?_
      refine TL.skip rfl rfl (by decide) ?_
      refine TL.skip rfl rfl (by decide) ?_
      refine TL.pick rfl rfl (b := true) rfl (r := .bool true) rfl ?_
      refine TL.done ?_
      exact TC.nrm (true) () ⟨rfl, rfl, rfl, rfl, rfl, rfl, rfl, rfl, rfl, rfl, (by rw [c1]; rfl), trivial⟩ [0] rfl
    · refine TL.fa Try.underlying61 rfl Try.sizeOf2 rfl 2 rfl rfl rfl rfl ?_
      refine TL.load1 2 (Src.box 0 rfl) Try.isAgg2 rfl rfl rfl rfl rfl ?_
      refine TL.call (R := G.impl_endsOk.R) Try.call88 rfl rfl rfl (fun w hS => G.impl_endsOk.calls w t3) ?_
      rintro r_2 _ _ ⟨rfl, rfl⟩
      refine TL.not r_2 rfl rfl rfl ?_
      refine TL.pick rfl rfl (b := false) rfl (r := .bool (!r_2)) rfl ?_
      refine TL.done ?_
      exact TC.nrm ((!r_2)) () ⟨rfl, rfl, rfl, rfl, rfl, rfl, rfl, rfl, rfl, rfl, (by rw [c2]; rfl), trivial⟩ [0] rfl
  · rintro b_2 _
    refine TL.move rfl rfl (v := .bool b_2) rfl ?_
    refine TL.cutJ (σ := Bool) (γ := Unit) (Γ' := fun b_3 _ => [(22, .bool b_3), (0, sval [.one (.int .i64 t1), .one (.int .i64 t2), .one (.int .i64 t3), .one (.int .i64 t4), .one (SV.v s1)]), (1, bp b_1 0), (2, .bool false), (5, bp b_1 0), (6, .int .i64 t1), (7, bp b_1 1), (8, .int .i64 t2), (9, .bool r_1), (10, .bool (!r_1)), (11, .bool (!r_1)), (16, .bool b_2), (17, .bool b_2)]) (L' := fun _ _ => [box b_1 61 [.one (.int .i64 t1), .one (.int .i64 t2), .one (.int .i64 t3), .one (.int .i64 t4), .one (SV.v s1)]]) 5 ?_ ?_
    · refine TL.ifb (t := 17) (b := b_2) rfl (fun c3 => ?_) (fun c4 => ?_)
      · refine TL.skip rfl rfl (by decide) ?_
        refine TL.skip rfl rfl (by decide) ?_
        refine TL.skip rfl rfl (by decide) ?_
        refine TL.skip rfl rfl (by decide) ?_
        refine TL.pick rfl rfl (b := true) rfl (r := .bool true) rfl ?_
        refine TL.done ?_
        exact TC.nrm (true) () ⟨rfl, rfl, rfl, rfl, rfl, rfl, rfl, rfl, rfl, rfl, rfl, rfl, (by rw [c3]; rfl), trivial⟩ [0] rfl
      · refine TL.fa Try.underlying61 rfl Try.sizeOf2 rfl 3 rfl rfl rfl rfl ?_
        refine TL.load1 3 (Src.box 0 rfl) Try.isAgg2 rfl rfl rfl rfl rfl ?_
        refine TL.call (R := G.impl_endsOk.R) Try.call88 rfl rfl rfl (fun w hS => G.impl_endsOk.calls w t4) ?_
        rintro r_3 _ _ ⟨rfl, rfl⟩
        refine TL.not r_3 rfl rfl rfl ?_
        refine TL.pick rfl rfl (b := false) rfl (r := .bool (!r_3)) rfl ?_
        refine TL.done ?_
        exact TC.nrm ((!r_3)) () ⟨rfl, rfl, rfl, rfl, rfl, rfl, rfl, rfl, rfl, rfl, rfl, rfl, (by rw [c4]; rfl), trivial⟩ [0] rfl
    · rintro b_3 _
      refine TL.done ?_
      refine TC.cond (b := b_3) rfl (fun c5 => ?_) (fun c6 => ?_)
      · refine TC.seq ?_
        refine TC.region ?_
        refine TL.assign rfl rfl (v := .bool false) rfl ?_
        refine TL.done ?_
        exact TC.retF (Fin.body (fin1 (.inr rfl) rfl (.tmp rfl) [] rfl ⟨rfl, rfl⟩))
      · refine TC.skip ?_
        refine TC.seq ?_
        refine TC.region ?_
        refine TL.fa Try.underlying61 rfl Try.sizeOf2 rfl 1 rfl rfl rfl rfl ?_
        refine TL.load1 1 (Src.box 0 rfl) Try.isAgg2 rfl rfl rfl rfl rfl ?_
        refine TL.fa Try.underlying61 rfl Try.sizeOf2 rfl 2 rfl rfl rfl rfl ?_
        refine TL.load1 2 (Src.box 0 rfl) Try.isAgg2 rfl rfl rfl rfl rfl ?_
        refine TL.fa Try.underlying61 rfl Try.sizeOf2 rfl 3 rfl rfl rfl rfl ?_
        refine TL.load1 3 (Src.box 0 rfl) Try.isAgg2 rfl rfl rfl rfl rfl ?_
        refine TL.bin .i64 t3 t4 rfl rfl rfl rfl (v := .int .i64 (w64 (t3 + t4))) rfl ?_
        refine TL.call (R := G.impl_powerOf.R) Try.call89 rfl rfl rfl (fun w hS => G.impl_powerOf.calls w t2 (w64 (t3 + t4))) ?_
        rintro r_4 _ _ ⟨rfl, rfl⟩
        refine TL.assign rfl rfl (v := .int .i64 r_4) rfl ?_
        refine TL.done ?_
        refine TC.seq ?_
        refine TC.region ?_
        refine TL.fa Try.underlying61 rfl Try.sizeOf44 rfl 4 rfl rfl rfl rfl ?_
        refine TL.load1 4 (Src.box 0 rfl) Try.isAgg44 rfl rfl rfl rfl rfl ?_
        refine TL.makeFunc rfl rfl (us := []) (vs := [bp b_1 0]) rfl rfl ?_
        refine TL.call (R := G.slices_ContainsFunc_int64_int64.R) Try.call72 rfl rfl rfl (fun w hS => G.slices_ContainsFunc_int64_int64.calls w s1 t5 90 [] [bp b_1 0] (fun x0_ => G.impl_IsTensor_1.f x0_ t1 t2 t3 t4 t5) ((Rd.old h1) w hS) Try.call90 (fun w_ hle_ x0_ r_ hr_ => G.impl_IsTensor_1.calls w_ x0_ b_1 t1 t2 t3 t4 s1 t5 (((Src.box 0 rfl) w hS).mono hle_) (((Rd.old h1) w hS).mono hle_) r_ hr_)) ?_
        rintro r_5 _ _ ⟨rfl, rfl⟩
        refine TL.assign rfl rfl (v := .bool r_5) rfl ?_
        refine TL.done ?_
        refine TC.seq ?_
        refine TC.region ?_
        refine TL.move rfl rfl (v := .int .i64 r_4) rfl ?_
        refine TL.bin .i64 r_4 1296 rfl rfl rfl rfl (v := .bool (decide (r_4 ≤ 1296))) rfl ?_
        refine TL.move rfl rfl (v := .bool (decide (r_4 ≤ 1296))) rfl ?_
        refine TL.cutU 6 [(43, .bool ((decide (r_4 ≤ 1296)) && ((t5.length : Int) == r_4))), (0, sval [.one (.int .i64 t1), .one (.int .i64 t2), .one (.int .i64 t3), .one (.int .i64 t4), .one (SV.v s1)]), (1, bp b_1 0), (2, .bool false), (5, bp b_1 0), (6, .int .i64 t1), (7, bp b_1 1), (8, .int .i64 t2), (9, .bool r_1), (10, .bool (!r_1)), (11, .bool (!r_1)), (16, .bool b_2), (17, .bool b_2), (22, .bool b_3), (23, bp b_1 1), (24, .int .i64 t2), (25, bp b_1 2), (26, .int .i64 t3), (27, bp b_1 3), (28, .int .i64 t4), (29, .int .i64 (w64 (t3 + t4))), (30, .int .i64 r_4), (3, .int .i64 r_4), (31, bp b_1 4), (32, SV.v s1), (33, .func (.func 90) #[] #[bp b_1 0]), (34, .bool r_5), (4, .bool r_5), (35, .int .i64 r_4), (36, .bool (decide (r_4 ≤ 1296))), (37, .bool (decide (r_4 ≤ 1296)))] [box b_1 61 [.one (.int .i64 t1), .one (.int .i64 t2), .one (.int .i64 t3), .one (.int .i64 t4), .one (SV.v s1)]] ?_ ?_
        · refine TL.cases (t := 37) (b := (decide (r_4 ≤ 1296))) rfl (fun c7 => ?_) (fun c8 => ?_)
          · refine TL.fa Try.underlying61 rfl Try.sizeOf44 rfl 4 rfl rfl rfl rfl ?_
            refine TL.load1 4 (Src.box 0 rfl) Try.isAgg44 rfl rfl rfl rfl rfl ?_
            refine TL.len (Rd.old h1) Try.underlying44 rfl rfl rfl ?_
            refine TL.move rfl rfl (v := .int .i64 r_4) rfl ?_
            refine TL.bin .i64 (t5.length : Int) r_4 rfl rfl rfl rfl (v := .bool ((t5.length : Int) == r_4)) rfl ?_
            refine TL.pick rfl rfl (b := true) rfl (r := .bool ((t5.length : Int) == r_4)) rfl ?_
            refine TL.done ?_
            exact TC.nrm () () ⟨(by rw [c7]; rfl), rfl, rfl, rfl, rfl, rfl, rfl, rfl, rfl, rfl, rfl, rfl, rfl, rfl, rfl, rfl, rfl, rfl, rfl, rfl, rfl, rfl, rfl, rfl, rfl, rfl, rfl, rfl, rfl, rfl, (by rw [c7]; rfl), trivial⟩ [0] rfl
          · refine TL.skip rfl rfl (by decide) ?_
            refine TL.skip rfl rfl (by decide) ?_
            refine TL.skip rfl rfl (by decide) ?_
            refine TL.skip rfl rfl (by decide) ?_
            refine TL.skip rfl rfl (by decide) ?_
            refine TL.pick rfl rfl (b := false) rfl (r := .bool false) rfl ?_
            refine TL.done ?_
            exact TC.nrm () () ⟨(by rw [c8]; rfl), rfl, rfl, rfl, rfl, rfl, rfl, rfl, rfl, rfl, rfl, rfl, rfl, rfl, rfl, rfl, rfl, rfl, rfl, rfl, rfl, rfl, rfl, rfl, rfl, rfl, rfl, rfl, rfl, rfl, (by rw [c8]; rfl), trivial⟩ [0] rfl
        · refine TL.move rfl rfl (v := .bool ((decide (r_4 ≤ 1296)) && ((t5.length : Int) == r_4))) rfl ?_
          refine TL.cutU 3 [(47, .bool (((decide (r_4 ≤ 1296)) && ((t5.length : Int) == r_4)) && (!r_5))), (0, sval [.one (.int .i64 t1), .one (.int .i64 t2), .one (.int .i64 t3), .one (.int .i64 t4), .one (SV.v s1)]), (1, bp b_1 0), (2, .bool false), (5, bp b_1 0), (6, .int .i64 t1), (7, bp b_1 1), (8, .int .i64 t2), (9, .bool r_1), (10, .bool (!r_1)), (11, .bool (!r_1)), (16, .bool b_2), (17, .bool b_2), (22, .bool b_3), (23, bp b_1 1), (24, .int .i64 t2), (25, bp b_1 2), (26, .int .i64 t3), (27, bp b_1 3), (28, .int .i64 t4), (29, .int .i64 (w64 (t3 + t4))), (30, .int .i64 r_4), (3, .int .i64 r_4), (31, bp b_1 4), (32, SV.v s1), (33, .func (.func 90) #[] #[bp b_1 0]), (34, .bool r_5), (4, .bool r_5), (35, .int .i64 r_4), (36, .bool (decide (r_4 ≤ 1296))), (37, .bool (decide (r_4 ≤ 1296))), (43, .bool ((decide (r_4 ≤ 1296)) && ((t5.length : Int) == r_4))), (44, .bool ((decide (r_4 ≤ 1296)) && ((t5.length : Int) == r_4)))] [box b_1 61 [.one (.int .i64 t1), .one (.int .i64 t2), .one (.int .i64 t3), .one (.int .i64 t4), .one (SV.v s1)]] ?_ ?_
          · refine TL.cases (t := 44) (b := ((decide (r_4 ≤ 1296)) && ((t5.length : Int) == r_4))) rfl (fun c9 => ?_) (fun c10 => ?_)
            · refine TL.move rfl rfl (v := .bool r_5) rfl ?_
              refine TL.not r_5 rfl rfl rfl ?_
              refine TL.pick rfl rfl (b := true) rfl (r := .bool (!r_5)) rfl ?_
              refine TL.done ?_
              exact TC.nrm () () ⟨(by rw [c9]; rfl), rfl, rfl, rfl, rfl, rfl, rfl, rfl, rfl, rfl, rfl, rfl, rfl, rfl, rfl, rfl, rfl, rfl, rfl, rfl, rfl, rfl, rfl, rfl, rfl, rfl, rfl, rfl, rfl, rfl, rfl, rfl, (by rw [c9]; rfl), trivial⟩ [0] rfl
            · refine TL.skip rfl rfl (by decide) ?_
              refine TL.skip rfl rfl (by decide) ?_
              refine TL.pick rfl rfl (b := false) rfl (r := .bool false) rfl ?_
              refine TL.done ?_
              exact TC.nrm () () ⟨(by rw [c10]; rfl), rfl, rfl, rfl, rfl, rfl, rfl, rfl, rfl, rfl, rfl, rfl, rfl, rfl, rfl, rfl, rfl, rfl, rfl, rfl, rfl, rfl, rfl, rfl, rfl, rfl, rfl, rfl, rfl, rfl, rfl, rfl, (by rw [c10]; rfl), trivial⟩ [0] rfl
          · refine TL.assign rfl rfl (v := .bool (((decide (r_4 ≤ 1296)) && ((t5.length : Int) == r_4)) && (!r_5))) rfl ?_
            refine TL.done ?_
            exact TC.retF (Fin.body (fin1 (.inr rfl) rfl (.tmp rfl) [] rfl ⟨rfl, rfl⟩))

end Go.Proofs.Ytgljkechjkllgaa.G
