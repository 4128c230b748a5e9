/- Functions of the program, as pure functions. -/
import Derived.Test.YtjjfoofjipafiaaMCloseTensor2
import Derived.Test.YtjjfoofjipafiaaProg
/- impl.IsTensor$1, as a pure function. -/
set_option linter.unusedVariables false
namespace Go.Proofs.Ytjjfoofjipafiaa.G
open Go Go.Sx Go.Proofs

def impl_IsTensor_1.f (x1 : Int) (c1 : Int) (c2 : Int) (c3 : Int) (c4 : Int) (c5 : List Int) : Option Bool := (G.impl_in.f x1 0 (w64 (c1 - 1))).bind (fun r_1 => some (!r_1))

def impl_IsTensor_1.R (r : Bool) (v : Value) (L : List Asn) : Prop := v = .bool r ∧ L = []

set_option maxRecDepth 100000 in
set_option maxHeartbeats 4000000 in
theorem impl_IsTensor_1.calls (w : World) (x1 : Int) (b_1 : Nat) (c1 : Int) (c2 : Int) (c3 : Int) (c4 : Int) (s1 : SV) (c5 : List Int) (h2 : At (hp w) b_1 [.one (.int .i64 c1), .one (.int .i64 c2), .one (.int .i64 c3), .one (.int .i64 c4), .one (SV.v s1)]) (h1 : Reads Ei (hp w) s1 c5) :
    ∀ r, impl_IsTensor_1.f x1 c1 c2 c3 c4 c5 = some r → Calls Try.prog 90 #[.int .i64 x1, bp b_1 0] w (Ret w (impl_IsTensor_1.R r)) := by

  refine calls_T (n := 10) (Γ := [(0, .int .i64 x1), (1, bp b_1 0)]) (R := impl_IsTensor_1.R) Try.func90 rfl rfl (Nat.le_of_ble_eq_true rfl) ⟨rfl, rfl, trivial⟩ ?_
  unfold impl_IsTensor_1.f
  refine TC.seq ?_
  refine TC.region ?_
  refine TL.assign rfl rfl (v := .bool false) rfl ?_
  refine TL.done ?_
  refine TC.seq ?_
  refine TC.region ?_
  refine TL.move rfl rfl (v := .int .i64 x1) rfl ?_
  refine TL.fa Try.underlying24 rfl Try.sizeOf2 rfl 0 rfl rfl rfl rfl ?_
  refine TL.load1 0 (Src.at h2) Try.isAgg2 rfl rfl rfl rfl rfl ?_
  refine TL.bin .i64 c1 1 rfl rfl rfl rfl (v := .int .i64 (w64 (c1 - 1))) rfl ?_
  refine TL.call (R := G.impl_in.R) Try.call62 rfl rfl rfl (fun w hS => G.impl_in.calls w x1 0 (w64 (c1 - 1))) ?_
  rintro r_1 _ _ ⟨rfl, rfl⟩
  refine TL.not r_1 rfl rfl rfl ?_
  refine TL.assign rfl rfl (v := .bool (!r_1)) rfl ?_
  refine TL.done ?_
  exact TC.retF (Fin.body (fin1 (.inr rfl) rfl (.tmp rfl) [] rfl ⟨rfl, rfl⟩))

end Go.Proofs.Ytjjfoofjipafiaa.G

/- impl.IsTensor, as a pure function. -/
set_option linter.unusedVariables false
namespace Go.Proofs.Ytjjfoofjipafiaa.G
open Go Go.Sx Go.Proofs

def impl_IsTensor.f (t1 : Int) (t2 : Int) (t3 : Int) (t4 : Int) (t5 : List Int) : Option Bool := (G.impl_shapeOk.f t1 t2).bind (fun r_1 => (bif (!r_1) then some true else (G.impl_endsOk.f t3).bind (fun r_2 => some (!r_2))).bind (fun b_2 => (bif b_2 then some true else (G.impl_endsOk.f t4).bind (fun r_3 => some (!r_3))).bind (fun b_3 => (bif b_3 then some false else (G.impl_powerOf.f t2 (w64 (t3 + t4))).bind (fun r_4 => (G.slices_ContainsFunc_int64_int64.f t5 (fun x0_ => G.impl_IsTensor_1.f x0_ t1 t2 t3 t4 t5)).bind (fun r_5 => some (((decide (r_4 ≤ 1296)) && ((t5.length : Int) == r_4)) && (!r_5))))))))

def impl_IsTensor.R (r : Bool) (v : Value) (L : List Asn) : Prop := v = .bool r ∧ L = []

set_option maxRecDepth 100000 in
set_option maxHeartbeats 4000000 in
theorem impl_IsTensor.calls (w : World) (t1 : Int) (t2 : Int) (t3 : Int) (t4 : Int) (s1 : SV) (t5 : List Int) (h1 : Reads Ei (hp w) s1 t5) :
    ∀ r, impl_IsTensor.f t1 t2 t3 t4 t5 = some r → Calls Try.prog 57 #[sval [.one (.int .i64 t1), .one (.int .i64 t2), .one (.int .i64 t3), .one (.int .i64 t4), .one (SV.v s1)]] w (Ret w (impl_IsTensor.R r)) := by

  refine calls_T (n := 48) (Γ := [(0, sval [.one (.int .i64 t1), .one (.int .i64 t2), .one (.int .i64 t3), .one (.int .i64 t4), .one (SV.v s1)])]) (R := impl_IsTensor.R) Try.func57 rfl rfl (Nat.le_of_ble_eq_true rfl) ⟨rfl, trivial⟩ ?_
  unfold impl_IsTensor.f
  refine TC.seq ?_
  refine TC.region ?_
  refine TL.box [.one (.int .i64 t1), .one (.int .i64 t2), .one (.int .i64 t3), .one (.int .i64 t4), .one (SV.v s1)] rfl rfl rfl rfl fun b_1 => ?_
  refine TL.assign rfl rfl (v := .bool false) rfl ?_
  refine TL.done ?_
  refine TC.seq ?_
  refine TC.seq ?_
  refine TC.region ?_
  refine TL.fa Try.underlying24 rfl Try.sizeOf2 rfl 0 rfl rfl rfl rfl ?_
  refine TL.load1 0 (Src.box 0 rfl) Try.isAgg2 rfl rfl rfl rfl rfl ?_
  refine TL.fa Try.underlying24 rfl Try.sizeOf2 rfl 1 rfl rfl rfl rfl ?_
  refine TL.load1 1 (Src.box 0 rfl) Try.isAgg2 rfl rfl rfl rfl rfl ?_
  refine TL.call (R := G.impl_shapeOk.R) Try.call46 rfl rfl rfl (fun w hS => G.impl_shapeOk.calls w t1 t2) ?_
  rintro r_1 _ _ ⟨rfl, rfl⟩
  refine TL.not r_1 rfl rfl rfl ?_
  refine TL.move rfl rfl (v := .bool (!r_1)) rfl ?_
  refine TL.cutJ (σ := Bool) (γ := Unit) (Γ' := fun b_2 _ => [(16, .bool b_2), (0, sval [.one (.int .i64 t1), .one (.int .i64 t2), .one (.int .i64 t3), .one (.int .i64 t4), .one (SV.v s1)]), (1, bp b_1 0), (2, .bool false), (5, bp b_1 0), (6, .int .i64 t1), (7, bp b_1 1), (8, .int .i64 t2), (9, .bool r_1), (10, .bool (!r_1)), (11, .bool (!r_1))]) (L' := fun _ _ => [box b_1 24 [.one (.int .i64 t1), .one (.int .i64 t2), .one (.int .i64 t3), .one (.int .i64 t4), .one (SV.v s1)]]) 5 ?_ ?_
  · refine TL.ifb (t := 11) (b := (!r_1)) rfl (fun c1 => ?_) (fun c2 => ?_)
    · refine TL.skip rfl rfl (by decide) ?_
      refine TL.skip rfl rfl (by decide) ?_
      refine TL.skip rfl rfl (by decide) ?_
      refine TL.skip rfl rfl (by decide) ?_
      refine TL.pick rfl rfl (b := true) rfl (r := .bool true) rfl ?_
      refine TL.done ?_
      exact TC.nrm (true) () ⟨rfl, rfl, rfl, rfl, rfl, rfl, rfl, rfl, rfl, rfl, (by rw [c1]; rfl), trivial⟩ [0] rfl
    · refine TL.fa Try.underlying24 rfl Try.sizeOf2 rfl 2 rfl rfl rfl rfl ?_
      refine TL.load1 2 (Src.box 0 rfl) Try.isAgg2 rfl rfl rfl rfl rfl ?_
      refine TL.call (R := G.impl_endsOk.R) Try.call51 rfl rfl rfl (fun w hS => G.impl_endsOk.calls w t3) ?_
      rintro r_2 _ _ ⟨rfl, rfl⟩
      refine TL.not r_2 rfl rfl rfl ?_
      refine TL.pick rfl rfl (b := false) rfl (r := .bool (!r_2)) rfl ?_
      refine TL.done ?_
      exact TC.nrm ((!r_2)) () ⟨rfl, rfl, rfl, rfl, rfl, rfl, rfl, rfl, rfl, rfl, (by rw [c2]; rfl), trivial⟩ [0] rfl
  · rintro b_2 _
    refine TL.move rfl rfl (v := .bool b_2) rfl ?_
    refine TL.cutJ (σ := Bool) (γ := Unit) (Γ' := fun b_3 _ => [(22, .bool b_3), (0, sval [.one (.int .i64 t1), .one (.int .i64 t2), .one (.int .i64 t3), .one (.int .i64 t4), .one (SV.v s1)]), (1, bp b_1 0), (2, .bool false), (5, bp b_1 0), (6, .int .i64 t1), (7, bp b_1 1), (8, .int .i64 t2), (9, .bool r_1), (10, .bool (!r_1)), (11, .bool (!r_1)), (16, .bool b_2), (17, .bool b_2)]) (L' := fun _ _ => [box b_1 24 [.one (.int .i64 t1), .one (.int .i64 t2), .one (.int .i64 t3), .one (.int .i64 t4), .one (SV.v s1)]]) 5 ?_ ?_
    · refine TL.ifb (t := 17) (b := b_2) rfl (fun c3 => ?_) (fun c4 => ?_)
      · refine TL.skip rfl rfl (by decide) ?_
        refine TL.skip rfl rfl (by decide) ?_
        refine TL.skip rfl rfl (by decide) ?_
        refine TL.skip rfl rfl (by decide) ?_
        refine TL.pick rfl rfl (b := true) rfl (r := .bool true) rfl ?_
        refine TL.done ?_
        exact TC.nrm (true) () ⟨rfl, rfl, rfl, rfl, rfl, rfl, rfl, rfl, rfl, rfl, rfl, rfl, (by rw [c3]; rfl), trivial⟩ [0] rfl
      · refine TL.fa Try.underlying24 rfl Try.sizeOf2 rfl 3 rfl rfl rfl rfl ?_
        refine TL.load1 3 (Src.box 0 rfl) Try.isAgg2 rfl rfl rfl rfl rfl ?_
        refine TL.call (R := G.impl_endsOk.R) Try.call51 rfl rfl rfl (fun w hS => G.impl_endsOk.calls w t4) ?_
        rintro r_3 _ _ ⟨rfl, rfl⟩
        refine TL.not r_3 rfl rfl rfl ?_
        refine TL.pick rfl rfl (b := false) rfl (r := .bool (!r_3)) rfl ?_
        refine TL.done ?_
        exact TC.nrm ((!r_3)) () ⟨rfl, rfl, rfl, rfl, rfl, rfl, rfl, rfl, rfl, rfl, rfl, rfl, (by rw [c4]; rfl), trivial⟩ [0] rfl
    · rintro b_3 _
      refine TL.done ?_
      refine TC.cond (b := b_3) rfl (fun c5 => ?_) (fun c6 => ?_)
      · refine TC.seq ?_
        refine TC.region ?_
        refine TL.assign rfl rfl (v := .bool false) rfl ?_
        refine TL.done ?_
        exact TC.retF (Fin.body (fin1 (.inr rfl) rfl (.tmp rfl) [] rfl ⟨rfl, rfl⟩))
      · refine TC.skip ?_
        refine TC.seq ?_
        refine TC.region ?_
        refine TL.fa Try.underlying24 rfl Try.sizeOf2 rfl 1 rfl rfl rfl rfl ?_
        refine TL.load1 1 (Src.box 0 rfl) Try.isAgg2 rfl rfl rfl rfl rfl ?_
        refine TL.fa Try.underlying24 rfl Try.sizeOf2 rfl 2 rfl rfl rfl rfl ?_
        refine TL.load1 2 (Src.box 0 rfl) Try.isAgg2 rfl rfl rfl rfl rfl ?_
        refine TL.fa Try.underlying24 rfl Try.sizeOf2 rfl 3 rfl rfl rfl rfl ?_
        refine TL.load1 3 (Src.box 0 rfl) Try.isAgg2 rfl rfl rfl rfl rfl ?_
        refine TL.bin .i64 t3 t4 rfl rfl rfl rfl (v := .int .i64 (w64 (t3 + t4))) rfl ?_
        refine TL.call (R := G.impl_powerOf.R) Try.call67 rfl rfl rfl (fun w hS => G.impl_powerOf.calls w t2 (w64 (t3 + t4))) ?_
        rintro r_4 _ _ ⟨rfl, rfl⟩
        refine TL.assign rfl rfl (v := .int .i64 r_4) rfl ?_
        refine TL.done ?_
        refine TC.seq ?_
        refine TC.region ?_
        refine TL.fa Try.underlying24 rfl Try.sizeOf22 rfl 4 rfl rfl rfl rfl ?_
        refine TL.load1 4 (Src.box 0 rfl) Try.isAgg22 rfl rfl rfl rfl rfl ?_
        refine TL.makeFunc rfl rfl (us := []) (vs := [bp b_1 0]) rfl rfl ?_
        refine TL.call (R := G.slices_ContainsFunc_int64_int64.R) Try.call89 rfl rfl rfl (fun w hS => G.slices_ContainsFunc_int64_int64.calls w s1 t5 90 [] [bp b_1 0] (fun x0_ => G.impl_IsTensor_1.f x0_ t1 t2 t3 t4 t5) ((Rd.old h1) w hS) Try.call90 (fun w_ hle_ x0_ r_ hr_ => G.impl_IsTensor_1.calls w_ x0_ b_1 t1 t2 t3 t4 s1 t5 (((Src.box 0 rfl) w hS).mono hle_) (((Rd.old h1) w hS).mono hle_) r_ hr_)) ?_
        rintro r_5 _ _ ⟨rfl, rfl⟩
        refine TL.assign rfl rfl (v := .bool r_5) rfl ?_
        refine TL.done ?_
        refine TC.seq ?_
        refine TC.region ?_
        refine TL.move rfl rfl (v := .int .i64 r_4) rfl ?_
        refine TL.bin .i64 r_4 1296 rfl rfl rfl rfl (v := .bool (decide (r_4 ≤ 1296))) rfl ?_
        refine TL.move rfl rfl (v := .bool (decide (r_4 ≤ 1296))) rfl ?_
        refine TL.cutU 6 [(43, .bool ((decide (r_4 ≤ 1296)) && ((t5.length : Int) == r_4))), (0, sval [.one (.int .i64 t1), .one (.int .i64 t2), .one (.int .i64 t3), .one (.int .i64 t4), .one (SV.v s1)]), (1, bp b_1 0), (2, .bool false), (5, bp b_1 0), (6, .int .i64 t1), (7, bp b_1 1), (8, .int .i64 t2), (9, .bool r_1), (10, .bool (!r_1)), (11, .bool (!r_1)), (16, .bool b_2), (17, .bool b_2), (22, .bool b_3), (23, bp b_1 1), (24, .int .i64 t2), (25, bp b_1 2), (26, .int .i64 t3), (27, bp b_1 3), (28, .int .i64 t4), (29, .int .i64 (w64 (t3 + t4))), (30, .int .i64 r_4), (3, .int .i64 r_4), (31, bp b_1 4), (32, SV.v s1), (33, .func (.func 90) #[] #[bp b_1 0]), (34, .bool r_5), (4, .bool r_5), (35, .int .i64 r_4), (36, .bool (decide (r_4 ≤ 1296))), (37, .bool (decide (r_4 ≤ 1296)))] [box b_1 24 [.one (.int .i64 t1), .one (.int .i64 t2), .one (.int .i64 t3), .one (.int .i64 t4), .one (SV.v s1)]] ?_ ?_
        · refine TL.cases (t := 37) (b := (decide (r_4 ≤ 1296))) rfl (fun c7 => ?_) (fun c8 => ?_)
          · refine TL.fa Try.underlying24 rfl Try.sizeOf22 rfl 4 rfl rfl rfl rfl ?_
            refine TL.load1 4 (Src.box 0 rfl) Try.isAgg22 rfl rfl rfl rfl rfl ?_
            refine TL.len (Rd.old h1) Try.underlying22 rfl rfl rfl ?_
            refine TL.move rfl rfl (v := .int .i64 r_4) rfl ?_
            refine TL.bin .i64 (t5.length : Int) r_4 rfl rfl rfl rfl (v := .bool ((t5.length : Int) == r_4)) rfl ?_
            refine TL.pick rfl rfl (b := true) rfl (r := .bool ((t5.length : Int) == r_4)) rfl ?_
            refine TL.done ?_
            exact TC.nrm () () ⟨(by rw [c7]; rfl), rfl, rfl, rfl, rfl, rfl, rfl, rfl, rfl, rfl, rfl, rfl, rfl, rfl, rfl, rfl, rfl, rfl, rfl, rfl, rfl, rfl, rfl, rfl, rfl, rfl, rfl, rfl, rfl, rfl, (by rw [c7]; rfl), trivial⟩ [0] rfl
          · refine TL.skip rfl rfl (by decide) ?_
            refine TL.skip rfl rfl (by decide) ?_
            refine TL.skip rfl rfl (by decide) ?_
            refine TL.skip rfl rfl (by decide) ?_
            refine TL.skip rfl rfl (by decide) ?_
            refine TL.pick rfl rfl (b := false) rfl (r := .bool false) rfl ?_
            refine TL.done ?_
            exact TC.nrm () () ⟨(by rw [c8]; rfl), rfl, rfl, rfl, rfl, rfl, rfl, rfl, rfl, rfl, rfl, rfl, rfl, rfl, rfl, rfl, rfl, rfl, rfl, rfl, rfl, rfl, rfl, rfl, rfl, rfl, rfl, rfl, rfl, rfl, (by rw [c8]; rfl), trivial⟩ [0] rfl
        · refine TL.move rfl rfl (v := .bool ((decide (r_4 ≤ 1296)) && ((t5.length : Int) == r_4))) rfl ?_
          refine TL.cutU 3 [(47, .bool (((decide (r_4 ≤ 1296)) && ((t5.length : Int) == r_4)) && (!r_5))), (0, sval [.one (.int .i64 t1), .one (.int .i64 t2), .one (.int .i64 t3), .one (.int .i64 t4), .one (SV.v s1)]), (1, bp b_1 0), (2, .bool false), (5, bp b_1 0), (6, .int .i64 t1), (7, bp b_1 1), (8, .int .i64 t2), (9, .bool r_1), (10, .bool (!r_1)), (11, .bool (!r_1)), (16, .bool b_2), (17, .bool b_2), (22, .bool b_3), (23, bp b_1 1), (24, .int .i64 t2), (25, bp b_1 2), (26, .int .i64 t3), (27, bp b_1 3), (28, .int .i64 t4), (29, .int .i64 (w64 (t3 + t4))), (30, .int .i64 r_4), (3, .int .i64 r_4), (31, bp b_1 4), (32, SV.v s1), (33, .func (.func 90) #[] #[bp b_1 0]), (34, .bool r_5), (4, .bool r_5), (35, .int .i64 r_4), (36, .bool (decide (r_4 ≤ 1296))), (37, .bool (decide (r_4 ≤ 1296))), (43, .bool ((decide (r_4 ≤ 1296)) && ((t5.length : Int) == r_4))), (44, .bool ((decide (r_4 ≤ 1296)) && ((t5.length : Int) == r_4)))] [box b_1 24 [.one (.int .i64 t1), .one (.int .i64 t2), .one (.int .i64 t3), .one (.int .i64 t4), .one (SV.v s1)]] ?_ ?_
          · refine TL.cases (t := 44) (b := ((decide (r_4 ≤ 1296)) && ((t5.length : Int) == r_4))) rfl (fun c9 => ?_) (fun c10 => ?_)
            · refine TL.move rfl rfl (v := .bool r_5) rfl ?_
              refine TL.not r_5 rfl rfl rfl ?_
              refine TL.pick rfl rfl (b := true) rfl (r := .bool (!r_5)) rfl ?_
              refine TL.done ?_
              exact TC.nrm () () ⟨(by rw [c9]; rfl), rfl, rfl, rfl, rfl, rfl, rfl, rfl, rfl, rfl, rfl, rfl, rfl, rfl, rfl, rfl, rfl, rfl, rfl, rfl, rfl, rfl, rfl, rfl, rfl, rfl, rfl, rfl, rfl, rfl, rfl, rfl, (by rw [c9]; rfl), trivial⟩ [0] rfl
            · refine TL.skip rfl rfl (by decide) ?_
              refine TL.skip rfl rfl (by decide) ?_
              refine TL.pick rfl rfl (b := false) rfl (r := .bool false) rfl ?_
              refine TL.done ?_
              exact TC.nrm () () ⟨(by rw [c10]; rfl), rfl, rfl, rfl, rfl, rfl, rfl, rfl, rfl, rfl, rfl, rfl, rfl, rfl, rfl, rfl, rfl, rfl, rfl, rfl, rfl, rfl, rfl, rfl, rfl, rfl, rfl, rfl, rfl, rfl, rfl, rfl, (by rw [c10]; rfl), trivial⟩ [0] rfl
          · refine TL.assign rfl rfl (v := .bool (((decide (r_4 ≤ 1296)) && ((t5.length : Int) == r_4)) && (!r_5))) rfl ?_
            refine TL.done ?_
            exact TC.retF (Fin.body (fin1 (.inr rfl) rfl (.tmp rfl) [] rfl ⟨rfl, rfl⟩))

end Go.Proofs.Ytjjfoofjipafiaa.G

/- impl.place, as a pure function. -/
set_option linter.unusedVariables false
namespace Go.Proofs.Ytjjfoofjipafiaa.G
open Go Go.Sx Go.Proofs

def impl_place.b0 (lists1 : List (List Int)) (x1 : Int) (n_1 : Int) : Int × Int → Option (LB (Int × Int)) := fun p => match p with | (out2, x2) => (bif (decide (x2 < ((gt lists1 x1).length : Int))) then chk x2 ((gt lists1 x1).length) (some (.next ((w64 ((w64 (out2 * n_1)) + (gt (gt lists1 x1) x2))), (w64 (x2 + 1))))) else some (.brk (out2, x2)))

def impl_place.b1 (lists1 : List (List Int)) (n_1 : Int) : Int × Int → Option (LB (Int × Int)) := fun p => match p with | (out1, x1) => (bif (decide (x1 < (lists1.length : Int))) then chk x1 lists1.length ((loop1 (impl_place.b0 lists1 x1 n_1) (out1, 0)).bind (fun p => match p with | (out2, x2) => some (.next (out2, (w64 (x1 + 1)))))) else some (.brk (out1, x1)))

def impl_place.f (n_1 : Int) (lists1 : List (List Int)) : Option Int := (loop1 (impl_place.b1 lists1 n_1) (0, 0)).bind (fun p => match p with | (out1, x1) => some out1)

def impl_place.R (r : Int) (v : Value) (L : List Asn) : Prop := v = .int .i64 r ∧ L = []

set_option maxRecDepth 100000 in
set_option maxHeartbeats 4000000 in
theorem impl_place.calls (w : World) (n_1 : Int) (s1 : SV) (ss1 : List SV) (lists1 : List (List Int)) (h1 : ReadsM Ei (hp w) s1 ss1 lists1) :
    ∀ r, impl_place.f n_1 lists1 = some r → Calls Try.prog 91 #[.int .i64 n_1, SV.v s1] w (Ret w (impl_place.R r)) := by

  refine calls_T (n := 30) (Γ := [(0, .int .i64 n_1), (1, SV.v s1)]) (R := impl_place.R) Try.func91 rfl rfl (Nat.le_of_ble_eq_true rfl) ⟨rfl, rfl, trivial⟩ ?_
  unfold impl_place.f
  refine TC.seq ?_
  refine TC.region ?_
  refine TL.assign rfl rfl (v := .int .i64 0) rfl ?_
  refine TL.done ?_
  refine TC.seq ?_
  refine TC.region ?_
  refine TL.assign rfl rfl (v := .int .i64 0) rfl ?_
  refine TL.done ?_
  refine TC.seq ?_
  refine TC.seq ?_
  refine TC.region ?_
  refine TL.move rfl rfl (v := SV.v s1) rfl ?_
  refine TL.lenM (RdM.old h1) Try.underlying96 rfl rfl rfl ?_
  refine TL.move rfl rfl (v := .int .i64 0) rfl ?_
  refine TL.done ?_
  refine TC.loop1 (σ := Int × Int) (γ := Unit) (Γ' := (fun p q => match p, q with | (out1, x1), _ => [(0, .int .i64 n_1), (5, .int .i64 out1), (10, SV.v s1), (11, .int .i64 (lists1.length : Int)), (12, .int .i64 x1)])) (L' := (fun p q => match p, q with | (out1, x1), _ => [])) (Γb := (fun p q => match p, q with | (out1, x1), _ => [(0, .int .i64 n_1), (5, .int .i64 out1), (10, SV.v s1), (11, .int .i64 (lists1.length : Int)), (12, .int .i64 x1)])) (Lb := (fun p q => match p, q with | (out1, x1), _ => [])) ((0, 0)) (()) ⟨rfl, rfl, rfl, rfl, rfl, trivial⟩ [] rfl ?_ ?_
  · rintro ⟨out1, x1⟩ _
    refine TC.seq ?_
    refine TC.region ?_
    refine TL.bin .i64 x1 (lists1.length : Int) rfl rfl rfl rfl (v := .bool (decide (x1 < (lists1.length : Int)))) rfl ?_
    refine TL.done ?_
    refine TC.seq ?_
    refine TC.cond (b := (decide (x1 < (lists1.length : Int)))) rfl (fun c1 => ?_) (fun c2 => ?_)
    · refine TC.skip ?_
      refine TC.seq ?_
      refine TC.block (NoEx.loop1 rfl) ?_
      refine TC.seq ?_
      refine TC.region ?_
      refine TL.chk fun h2 => ?_
      refine TL.ixsM x1 x1.toNat (RdM.old h1) h2 Try.underlying96 Try.sizeOf22 rfl rfl rfl rfl (by omega) ?_
      refine TL.loadM2 (RdM.old h1) Try.isAgg22 x1 h2 (by omega) rfl rfl rfl ?_
      refine TL.assign rfl rfl (v := SV.v (gt ss1 x1)) rfl ?_
      refine TL.done ?_
      refine TC.seq ?_
      refine TC.region ?_
      refine TL.move rfl rfl (v := SV.v (gt ss1 x1)) rfl ?_
      refine TL.len (RdM.inn (RdM.old h1) h2) Try.underlying22 rfl rfl rfl ?_
      refine TL.move rfl rfl (v := .int .i64 0) rfl ?_
      refine TL.done ?_
      refine TC.loop1 (σ := Int × Int) (γ := Unit) (Γ' := (fun p q => match p, q with | (out2, x2), _ => [(0, .int .i64 n_1), (5, .int .i64 out2), (10, SV.v s1), (11, .int .i64 (lists1.length : Int)), (12, .int .i64 x1), (16, SV.v (gt ss1 x1)), (17, .int .i64 ((gt lists1 x1).length : Int)), (18, .int .i64 x2)])) (L' := (fun p q => match p, q with | (out2, x2), _ => [])) (Γb := (fun p q => match p, q with | (out2, x2), _ => [(0, .int .i64 n_1), (5, .int .i64 out2), (10, SV.v s1), (11, .int .i64 (lists1.length : Int)), (12, .int .i64 x1), (16, SV.v (gt ss1 x1)), (17, .int .i64 ((gt lists1 x1).length : Int)), (18, .int .i64 x2)])) (Lb := (fun p q => match p, q with | (out2, x2), _ => [])) ((out1, 0)) (()) ⟨rfl, rfl, rfl, rfl, rfl, rfl, rfl, rfl, trivial⟩ [] rfl ?_ ?_
      · rintro ⟨out2, x2⟩ _
        refine TC.seq ?_
        refine TC.region ?_
        refine TL.bin .i64 x2 ((gt lists1 x1).length : Int) rfl rfl rfl rfl (v := .bool (decide (x2 < ((gt lists1 x1).length : Int)))) rfl ?_
        refine TL.done ?_
        refine TC.seq ?_
        refine TC.cond (b := (decide (x2 < ((gt lists1 x1).length : Int)))) rfl (fun c3 => ?_) (fun c4 => ?_)
        · refine TC.skip ?_
          refine TC.seq ?_
          refine TC.block (NoEx.loop1 rfl) ?_
          refine TC.seq ?_
          refine TC.region ?_
          refine TL.chk fun h3 => ?_
          refine TL.ixs x2 x2.toNat (RdM.inn (RdM.old h1) h2) h3 Try.underlying22 Try.sizeOf2 rfl rfl rfl rfl (by omega) ?_
          refine TL.loadE (RdM.inn (RdM.old h1) h2) Try.isAgg2 x2.toNat 0 (gt_spec h3) (v := .int .i64 (gt (gt lists1 x1) x2)) rfl (by simp only [show Ei.sz = 1 from rfl]; omega) rfl rfl rfl ?_
          refine TL.assign rfl rfl (v := .int .i64 (gt (gt lists1 x1) x2)) rfl ?_
          refine TL.done ?_
          refine TC.region ?_
          refine TL.move rfl rfl (v := .int .i64 out2) rfl ?_
          refine TL.move rfl rfl (v := .int .i64 n_1) rfl ?_
          refine TL.bin .i64 out2 n_1 rfl rfl rfl rfl (v := .int .i64 (w64 (out2 * n_1))) rfl ?_
          refine TL.move rfl rfl (v := .int .i64 (gt (gt lists1 x1) x2)) rfl ?_
          refine TL.bin .i64 (w64 (out2 * n_1)) (gt (gt lists1 x1) x2) rfl rfl rfl rfl (v := .int .i64 (w64 ((w64 (out2 * n_1)) + (gt (gt lists1 x1) x2)))) rfl ?_
          refine TL.assign rfl rfl (v := .int .i64 (w64 ((w64 (out2 * n_1)) + (gt (gt lists1 x1) x2)))) rfl ?_
          refine TL.done ?_
          refine TC.region ?_
          refine TL.bin .i64 x2 1 rfl rfl rfl rfl (v := .int .i64 (w64 (x2 + 1))) rfl ?_
          refine TL.move rfl rfl (v := .int .i64 (w64 (x2 + 1))) rfl ?_
          refine TL.done ?_
          exact TC.next1 (((w64 ((w64 (out2 * n_1)) + (gt (gt lists1 x1) x2))), (w64 (x2 + 1)))) (()) ⟨rfl, rfl, rfl, rfl, rfl, rfl, rfl, rfl, trivial⟩ [] rfl
        · exact TC.brk1 ((out2, x2)) (()) ⟨rfl, rfl, rfl, rfl, rfl, rfl, rfl, rfl, trivial⟩ [] rfl
      · rintro ⟨out2, x2⟩ _
        refine TC.region ?_
        refine TL.bin .i64 x1 1 rfl rfl rfl rfl (v := .int .i64 (w64 (x1 + 1))) rfl ?_
        refine TL.move rfl rfl (v := .int .i64 (w64 (x1 + 1))) rfl ?_
        refine TL.done ?_
        exact TC.next1 ((out2, (w64 (x1 + 1)))) (()) ⟨rfl, rfl, rfl, rfl, rfl, trivial⟩ [] rfl
    · exact TC.brk1 ((out1, x1)) (()) ⟨rfl, rfl, rfl, rfl, rfl, trivial⟩ [] rfl
  · rintro ⟨out1, x1⟩ _
    refine TC.seq ?_
    refine TC.region ?_
    refine TL.move rfl rfl (v := .int .i64 out1) rfl ?_
    refine TL.assign rfl rfl (v := .int .i64 out1) rfl ?_
    refine TL.done ?_
    exact TC.retF (Fin.body (fin1 (.inr rfl) rfl (.tmp rfl) [] rfl ⟨rfl, rfl⟩))

end Go.Proofs.Ytjjfoofjipafiaa.G

/- impl.Tensor).at, as a pure function. -/
set_option linter.unusedVariables false
namespace Go.Proofs.Ytjjfoofjipafiaa.G
open Go Go.Sx Go.Proofs

def impl_Tensor_at.f (t1 : Int) (t2 : Int) (t3 : Int) (t4 : Int) (t5 : List Int) (lists1 : List (List Int)) : Option Int := (G.impl_place.f t2 lists1).bind (fun r_1 => chk r_1 t5.length (some (gt t5 r_1)))

def impl_Tensor_at.R (r : Int) (v : Value) (L : List Asn) : Prop := v = .int .i64 r ∧ L = []

set_option maxRecDepth 100000 in
set_option maxHeartbeats 4000000 in
theorem impl_Tensor_at.calls (w : World) (b_1 : Nat) (t1 : Int) (t2 : Int) (t3 : Int) (t4 : Int) (s1 : SV) (t5 : List Int) (s2 : SV) (ss1 : List SV) (lists1 : List (List Int)) (h2 : At (hp w) b_1 [.one (.int .i64 t1), .one (.int .i64 t2), .one (.int .i64 t3), .one (.int .i64 t4), .one (SV.v s1)]) (h1 : Reads Ei (hp w) s1 t5) (h3 : ReadsM Ei (hp w) s2 ss1 lists1) :
    ∀ r, impl_Tensor_at.f t1 t2 t3 t4 t5 lists1 = some r → Calls Try.prog 59 #[bp b_1 0, SV.v s2] w (Ret w (impl_Tensor_at.R r)) := by

  refine calls_T (n := 17) (Γ := [(0, bp b_1 0), (1, SV.v s2)]) (R := impl_Tensor_at.R) Try.func59 rfl rfl (Nat.le_of_ble_eq_true rfl) ⟨rfl, rfl, trivial⟩ ?_
  unfold impl_Tensor_at.f
  refine TC.seq ?_
  refine TC.region ?_
  refine TL.assign rfl rfl (v := .int .i64 0) rfl ?_
  refine TL.done ?_
  refine TC.seq ?_
  refine TC.wk (Γ' := [(0, bp b_1 0), (1, SV.v s2)]) ⟨rfl, rfl, trivial⟩ ?_
  refine TC.bindE fun r_1 hr1 => ?_
  refine TC.chk fun h4 => ?_
  refine TC.draw [bp b_1 0, bp b_1 0, bp b_1 4, SV.v s1, bp b_1 0, bp b_1 0, bp b_1 1, .int .i64 t2, SV.v s2, .int .i64 r_1, ep s1 r_1.toNat, .int .i64 (gt t5 r_1), .int .i64 (gt t5 r_1)] 13 [] (by kernel_rfl) rfl rfl rfl rfl ?_ ?_
  · refine ⟨?_, ?_, ?_, ?_, ?_, ?_, ?_, ?_, ?_, ?_, ?_, ?_, ?_, trivial⟩
    · refine TL.move rfl rfl (v := bp b_1 0) rfl ?_
      refine TL.done ?_
      exact TC.nrm () () ⟨rfl, trivial⟩ [] rfl
    · refine TL.nilCheck rfl rfl rfl ?_
      refine TL.done ?_
      exact TC.nrm () () ⟨rfl, trivial⟩ [] rfl
    · refine TL.fa Try.underlying24 rfl Try.sizeOf22 rfl 4 rfl rfl rfl rfl ?_
      refine TL.done ?_
      exact TC.nrm () () ⟨rfl, trivial⟩ [] rfl
    · refine TL.load1 4 (Src.at h2) Try.isAgg22 rfl rfl rfl rfl rfl ?_
      refine TL.done ?_
      exact TC.nrm () () ⟨rfl, trivial⟩ [] rfl
    · refine TL.move rfl rfl (v := bp b_1 0) rfl ?_
      refine TL.done ?_
      exact TC.nrm () () ⟨rfl, trivial⟩ [] rfl
    · refine TL.nilCheck rfl rfl rfl ?_
      refine TL.done ?_
      exact TC.nrm () () ⟨rfl, trivial⟩ [] rfl
    · refine TL.fa Try.underlying24 rfl Try.sizeOf2 rfl 1 rfl rfl rfl rfl ?_
      refine TL.done ?_
      exact TC.nrm () () ⟨rfl, trivial⟩ [] rfl
    · refine TL.load1 1 (Src.at h2) Try.isAgg2 rfl rfl rfl rfl rfl ?_
      refine TL.done ?_
      exact TC.nrm () () ⟨rfl, trivial⟩ [] rfl
    · refine TL.move rfl rfl (v := SV.v s2) rfl ?_
      refine TL.done ?_
      exact TC.nrm () () ⟨rfl, trivial⟩ [] rfl
    · refine TL.callH (R := G.impl_place.R) hr1 Try.call91 rfl rfl rfl (fun w hS => G.impl_place.calls w t2 s2 ss1 lists1 ((RdM.old h3) w hS)) ?_
      rintro _ _ ⟨rfl, rfl⟩
      refine TL.done ?_
      exact TC.nrm () () ⟨rfl, trivial⟩ [] rfl
    · refine TL.ixs r_1 r_1.toNat (Rd.old h1) h4 Try.underlying22 Try.sizeOf2 rfl rfl rfl rfl (by omega) ?_
      refine TL.done ?_
      exact TC.nrm () () ⟨rfl, trivial⟩ [] rfl
    · refine TL.loadE (Rd.old h1) Try.isAgg2 r_1.toNat 0 (gt_spec h4) (v := .int .i64 (gt t5 r_1)) rfl (by simp only [show Ei.sz = 1 from rfl]; omega) rfl rfl rfl ?_
      refine TL.done ?_
      exact TC.nrm () () ⟨rfl, trivial⟩ [] rfl
    · refine TL.assign rfl rfl (v := .int .i64 (gt t5 r_1)) rfl ?_
      refine TL.done ?_
      exact TC.nrm () () ⟨rfl, trivial⟩ [] rfl
  · exact TC.retF (Fin.body (fin1 (.inr rfl) rfl (.tmp rfl) [] rfl ⟨rfl, rfl⟩))

end Go.Proofs.Ytjjfoofjipafiaa.G

/- impl.CloseTensor$1, as a pure function. -/
set_option linter.unusedVariables false
namespace Go.Proofs.Ytjjfoofjipafiaa.G
open Go Go.Sx Go.Proofs

def impl_CloseTensor_1.b0 (c2 : Int) (c1 : Int) (c3 : Int) (c4 : Int) (c5 : List Int) (i1 : List Int) (j1 : List Int) : Int × Int → Option (LB (Int × Int)) := fun p => match p with | (sum1, x1) => (bif (decide (x1 < c2)) then (G.impl_Tensor_at.f c1 c2 c3 c4 c5 ([i1, ([x1] : List Int), j1, ([x1] : List Int)] : List (List Int))).bind (fun r_1 => some (.next ((w64 (sum1 + r_1)), (w64 (x1 + 1))))) else some (.brk (sum1, x1)))

def impl_CloseTensor_1.f (i1 : List Int) (j1 : List Int) (c1 : Int) (c2 : Int) (c3 : Int) (c4 : Int) (c5 : List Int) : Option Int := (loop1 (impl_CloseTensor_1.b0 c2 c1 c3 c4 c5 i1 j1) (0, 0)).bind (fun p => match p with | (sum1, x1) => some sum1)

def impl_CloseTensor_1.R (r : Int) (v : Value) (L : List Asn) : Prop := v = .int .i64 r ∧ L = []

set_option maxRecDepth 100000 in
set_option maxHeartbeats 4000000 in
theorem impl_CloseTensor_1.calls (w : World) (s1 : SV) (i1 : List Int) (s2 : SV) (j1 : List Int) (b_1 : Nat) (c1 : Int) (c2 : Int) (c3 : Int) (c4 : Int) (s3 : SV) (c5 : List Int) (h1 : Reads Ei (hp w) s1 i1) (h2 : Reads Ei (hp w) s2 j1) (h4 : At (hp w) b_1 [.one (.int .i64 c1), .one (.int .i64 c2), .one (.int .i64 c3), .one (.int .i64 c4), .one (SV.v s3)]) (h3 : Reads Ei (hp w) s3 c5) :
    ∀ r, impl_CloseTensor_1.f i1 j1 c1 c2 c3 c4 c5 = some r → Calls Try.prog 58 #[SV.v s1, SV.v s2, bp b_1 0] w (Ret w (impl_CloseTensor_1.R r)) := by

  refine calls_T (n := 25) (Γ := [(0, SV.v s1), (1, SV.v s2), (2, bp b_1 0)]) (R := impl_CloseTensor_1.R) Try.func58 rfl rfl (Nat.le_of_ble_eq_true rfl) ⟨rfl, rfl, rfl, trivial⟩ ?_
  unfold impl_CloseTensor_1.f
  refine TC.seq ?_
  refine TC.region ?_
  refine TL.assign rfl rfl (v := .int .i64 0) rfl ?_
  refine TL.done ?_
  refine TC.seq ?_
  refine TC.region ?_
  refine TL.assign rfl rfl (v := .int .i64 0) rfl ?_
  refine TL.done ?_
  refine TC.seq ?_
  refine TC.seq ?_
  refine TC.region ?_
  refine TL.fa Try.underlying24 rfl Try.sizeOf2 rfl 1 rfl rfl rfl rfl ?_
  refine TL.load1 1 (Src.at h4) Try.isAgg2 rfl rfl rfl rfl rfl ?_
  refine TL.move rfl rfl (v := .int .i64 0) rfl ?_
  refine TL.done ?_
  refine TC.loop1 (σ := Int × Int) (γ := Unit) (Γ' := (fun p q => match p, q with | (sum1, x1), _ => [(0, SV.v s1), (1, SV.v s2), (2, bp b_1 0), (6, .int .i64 sum1), (9, .int .i64 c2), (10, .int .i64 x1)])) (L' := (fun p q => match p, q with | (sum1, x1), _ => [])) (Γb := (fun p q => match p, q with | (sum1, x1), _ => [(0, SV.v s1), (1, SV.v s2), (2, bp b_1 0), (6, .int .i64 sum1), (9, .int .i64 c2), (10, .int .i64 x1)])) (Lb := (fun p q => match p, q with | (sum1, x1), _ => [])) ((0, 0)) (()) ⟨rfl, rfl, rfl, rfl, rfl, rfl, trivial⟩ [] rfl ?_ ?_
  · rintro ⟨sum1, x1⟩ _
    refine TC.seq ?_
    refine TC.region ?_
    refine TL.bin .i64 x1 c2 rfl rfl rfl rfl (v := .bool (decide (x1 < c2))) rfl ?_
    refine TL.done ?_
    refine TC.seq ?_
    refine TC.cond (b := (decide (x1 < c2))) rfl (fun c6 => ?_) (fun c7 => ?_)
    · refine TC.skip ?_
      refine TC.seq ?_
      refine TC.block (NoEx.loop1 rfl) ?_
      refine TC.seq ?_
      refine TC.region ?_
      refine TL.move rfl rfl (v := .int .i64 x1) rfl ?_
      refine TL.assign rfl rfl (v := .int .i64 x1) rfl ?_
      refine TL.done ?_
      refine TC.region ?_
      refine TL.move rfl rfl (v := .int .i64 sum1) rfl ?_
      refine TL.move rfl rfl (v := SV.v s1) rfl ?_
      refine TL.move rfl rfl (v := .int .i64 x1) rfl ?_
      refine TL.blit Ei ([x1] : List Int) Try.underlying22 Try.sizeOf2 Try.zeroValue2 rfl rfl rfl [(0, .int .i64 x1)] rfl ⟨rfl, rfl, trivial⟩ rfl rfl fun s4 => ?_
      refine TL.move rfl rfl (v := SV.v s2) rfl ?_
      refine TL.move rfl rfl (v := .int .i64 x1) rfl ?_
      refine TL.blit Ei ([x1] : List Int) Try.underlying22 Try.sizeOf2 Try.zeroValue2 rfl rfl rfl [(0, .int .i64 x1)] rfl ⟨rfl, rfl, trivial⟩ rfl rfl fun s5 => ?_
      refine TL.blit Ev ([s1, s4, s2, s5] : List SV) Try.underlying96 Try.sizeOf22 Try.zeroValue22 rfl rfl rfl [(0, SV.v s1), (1, SV.v s4), (2, SV.v s2), (3, SV.v s5)] rfl ⟨rfl, rfl, rfl, rfl, rfl, rfl, rfl, rfl, trivial⟩ rfl rfl fun s6 => ?_
      refine TL.call (R := G.impl_Tensor_at.R) Try.call59 rfl rfl rfl (fun w hS => G.impl_Tensor_at.calls w b_1 c1 c2 c3 c4 s3 c5 s6 ([s1, s4, s2, s5] : List SV) ([i1, ([x1] : List Int), j1, ([x1] : List Int)] : List (List Int)) ((Src.at h4) w hS) ((Rd.old h3) w hS) ((RdM.view (Rd.row 0 rfl) (RdL.cons (Rd.old h1) (RdL.cons (Rd.row 2 rfl) (RdL.cons (Rd.old h2) (RdL.cons (Rd.row 1 rfl) RdL.nil))))) w hS)) ?_
      rintro r_1 _ _ ⟨rfl, rfl⟩
      refine TL.bin .i64 sum1 r_1 rfl rfl rfl rfl (v := .int .i64 (w64 (sum1 + r_1))) rfl ?_
      refine TL.assign rfl rfl (v := .int .i64 (w64 (sum1 + r_1))) rfl ?_
      refine TL.done ?_
      refine TC.region ?_
      refine TL.bin .i64 x1 1 rfl rfl rfl rfl (v := .int .i64 (w64 (x1 + 1))) rfl ?_
      refine TL.move rfl rfl (v := .int .i64 (w64 (x1 + 1))) rfl ?_
      refine TL.done ?_
      exact TC.next1 (((w64 (sum1 + r_1)), (w64 (x1 + 1)))) (()) ⟨rfl, rfl, rfl, rfl, rfl, rfl, trivial⟩ [] rfl
    · exact TC.brk1 ((sum1, x1)) (()) ⟨rfl, rfl, rfl, rfl, rfl, rfl, trivial⟩ [] rfl
  · rintro ⟨sum1, x1⟩ _
    refine TC.seq ?_
    refine TC.region ?_
    refine TL.move rfl rfl (v := .int .i64 sum1) rfl ?_
    refine TL.assign rfl rfl (v := .int .i64 sum1) rfl ?_
    refine TL.done ?_
    exact TC.retF (Fin.body (fin1 (.inr rfl) rfl (.tmp rfl) [] rfl ⟨rfl, rfl⟩))

end Go.Proofs.Ytjjfoofjipafiaa.G

/- impl.CloseTensor, as a pure function. -/
set_option linter.unusedVariables false
namespace Go.Proofs.Ytjjfoofjipafiaa.G
open Go Go.Sx Go.Proofs

def impl_CloseTensor.f (t1 : Int) (t2 : Int) (t3 : Int) (t4 : Int) (t5 : List Int) : Option (Int × Int × Int × Int × (List Int) × Int) := (G.impl_IsTensor.f t1 t2 t3 t4 t5).bind (fun r_1 => (bif (!r_1) then some (0, 0, 0, 0, ([] : List Int), 1) else (bif ((t3 == 0) || (t4 == 0)) then some (0, 0, 0, 0, ([] : List Int), 2) else (G.impl_tensor.f t1 t2 (w64 (t3 - 1)) (w64 (t4 - 1)) (fun x0_ x1_ => G.impl_CloseTensor_1.f x0_ x1_ t1 t2 t3 t4 t5)).bind (fun p => match p with | (r_2, r_3, r_4, r_5, r_6, r_7) => some (r_2, r_3, r_4, r_5, r_6, r_7)))))

def impl_CloseTensor.R (r : Int × Int × Int × Int × (List Int) × Int) (v : Value) (L : List Asn) : Prop := ∃ (s0 : SV), v = .tuple #[sval [.one (.int .i64 r.1), .one (.int .i64 r.2.1), .one (.int .i64 r.2.2.1), .one (.int .i64 r.2.2.2.1), .one (SV.v s0)], .int .i64 r.2.2.2.2.2] ∧ L = [row Ei 2 s0 r.2.2.2.2.1]

set_option maxRecDepth 100000 in
set_option maxHeartbeats 4000000 in
theorem impl_CloseTensor.calls (w : World) (t1 : Int) (t2 : Int) (t3 : Int) (t4 : Int) (s1 : SV) (t5 : List Int) (h1 : Reads Ei (hp w) s1 t5) :
    ∀ r, impl_CloseTensor.f t1 t2 t3 t4 t5 = some r → Calls Try.prog 22 #[sval [.one (.int .i64 t1), .one (.int .i64 t2), .one (.int .i64 t3), .one (.int .i64 t4), .one (SV.v s1)]] w (Ret w (impl_CloseTensor.R r)) := by

  refine calls_T (n := 33) (Γ := [(0, sval [.one (.int .i64 t1), .one (.int .i64 t2), .one (.int .i64 t3), .one (.int .i64 t4), .one (SV.v s1)])]) (R := impl_CloseTensor.R) Try.func22 rfl rfl (Nat.le_of_ble_eq_true rfl) ⟨rfl, trivial⟩ ?_
  unfold impl_CloseTensor.f
  refine TC.seq ?_
  refine TC.region ?_
  refine TL.box [.one (.int .i64 t1), .one (.int .i64 t2), .one (.int .i64 t3), .one (.int .i64 t4), .one (SV.v s1)] rfl rfl rfl rfl fun b_1 => ?_
  refine TL.alloc [.one (.int .i64 0), .one (.int .i64 0), .one (.int .i64 0), .one (.int .i64 0), .one (SV.v ⟨none, 0, 0⟩)] rfl rfl Try.zeroValue24 rfl fun b_2 => ?_
  refine TL.assign rfl rfl (v := .int .i64 0) rfl ?_
  refine TL.done ?_
  refine TC.seq ?_
  refine TC.block NoEx.body ?_
  refine TC.seq ?_
  refine TC.region ?_
  refine TL.loadM 0 5 (Src.box 1 rfl) Try.isAgg24 Try.sizeOf24 (mid := [.one (.int .i64 t1), .one (.int .i64 t2), .one (.int .i64 t3), .one (.int .i64 t4), .one (SV.v s1)]) rfl rfl rfl rfl rfl rfl ?_
  refine TL.call (R := G.impl_IsTensor.R) Try.call57 rfl rfl rfl (fun w hS => G.impl_IsTensor.calls w t1 t2 t3 t4 s1 t5 ((Rd.old h1) w hS)) ?_
  rintro r_1 _ _ ⟨rfl, rfl⟩
  refine TL.not r_1 rfl rfl rfl ?_
  refine TL.assign rfl rfl (v := .bool (!r_1)) rfl ?_
  refine TL.done ?_
  refine TC.cond (b := (!r_1)) rfl (fun c1 => ?_) (fun c2 => ?_)
  · refine TC.seq ?_
    refine TC.region ?_
    refine TL.buildS (segs0 := [.one (.int .i64 0), .one (.int .i64 0), .one (.int .i64 0), .one (.int .i64 0), .one (SV.v ⟨none, 0, 0⟩)]) (segs := [.one (.int .i64 0), .one (.int .i64 0), .one (.int .i64 0), .one (.int .i64 0), .one (SV.v ⟨none, 0, 0⟩)]) [1, 1, 1, 1, 1] Try.underlying24 ⟨Try.sizeOf2, Try.sizeOf2, Try.sizeOf2, Try.sizeOf2, Try.sizeOf22, trivial⟩ Try.zeroValue24 rfl [] rfl (fun pl hpl => by subst hpl; exact rfl) rfl rfl ?_
    refine TL.stM (news := [.one (.int .i64 0), .one (.int .i64 0), .one (.int .i64 0), .one (.int .i64 0), .one (SV.v ⟨none, 0, 0⟩)]) 0 0 5 rfl Try.sizeOf24 (ones_one rfl (ones_one rfl (ones_one rfl (ones_one rfl (ones_one rfl ones_nil))))) rfl rfl rfl rfl rfl rfl ?_
    refine TL.assign rfl rfl (v := .int .i64 1) rfl ?_
    refine TL.done ?_
    refine TC.nilrow Ei 2 ?_
    exact TC.retF (Fin.body (fin2 (.inr rfl) rfl (.cellN rfl (Src.box 1 rfl) Try.isAgg24 Try.sizeOf24 rfl) (.tmp rfl) [0] rfl ⟨⟨none, 0, 0⟩, rfl, rfl⟩))
  · refine TC.seq ?_
    refine TC.region ?_
    refine TL.fa Try.underlying24 rfl Try.sizeOf2 rfl 2 rfl rfl rfl rfl ?_
    refine TL.load1 2 (Src.box 1 rfl) Try.isAgg2 rfl rfl rfl rfl rfl ?_
    refine TL.bin .i64 t3 0 rfl rfl rfl rfl (v := .bool (t3 == 0)) rfl ?_
    refine TL.move rfl rfl (v := .bool (t3 == 0)) rfl ?_
    refine TL.cutU 4 [(17, .bool ((t3 == 0) || (t4 == 0))), (0, sval [.one (.int .i64 t1), .one (.int .i64 t2), .one (.int .i64 t3), .one (.int .i64 t4), .one (SV.v s1)]), (1, bp b_1 0), (2, bp b_2 0), (3, .int .i64 0), (5, sval [.one (.int .i64 t1), .one (.int .i64 t2), .one (.int .i64 t3), .one (.int .i64 t4), .one (SV.v s1)]), (6, .bool r_1), (7, .bool (!r_1)), (4, .bool (!r_1)), (10, bp b_1 2), (11, .int .i64 t3), (12, .bool (t3 == 0)), (13, .bool (t3 == 0))] [box b_2 24 [.one (.int .i64 0), .one (.int .i64 0), .one (.int .i64 0), .one (.int .i64 0), .one (SV.v ⟨none, 0, 0⟩)], box b_1 24 [.one (.int .i64 t1), .one (.int .i64 t2), .one (.int .i64 t3), .one (.int .i64 t4), .one (SV.v s1)]] ?_ ?_
    · refine TL.cases (t := 13) (b := (t3 == 0)) rfl (fun c3 => ?_) (fun c4 => ?_)
      · refine TL.skip rfl rfl (by decide) ?_
        refine TL.skip rfl rfl (by decide) ?_
        refine TL.skip rfl rfl (by decide) ?_
        refine TL.pick rfl rfl (b := true) rfl (r := .bool true) rfl ?_
        refine TL.done ?_
        exact TC.nrm () () ⟨(by rw [c3]; rfl), rfl, rfl, rfl, rfl, rfl, rfl, rfl, rfl, rfl, rfl, rfl, (by rw [c3]; rfl), trivial⟩ [0, 0] rfl
      · refine TL.fa Try.underlying24 rfl Try.sizeOf2 rfl 3 rfl rfl rfl rfl ?_
        refine TL.load1 3 (Src.box 1 rfl) Try.isAgg2 rfl rfl rfl rfl rfl ?_
        refine TL.bin .i64 t4 0 rfl rfl rfl rfl (v := .bool (t4 == 0)) rfl ?_
        refine TL.pick rfl rfl (b := false) rfl (r := .bool (t4 == 0)) rfl ?_
        refine TL.done ?_
        exact TC.nrm () () ⟨(by rw [c4]; rfl), rfl, rfl, rfl, rfl, rfl, rfl, rfl, rfl, rfl, rfl, rfl, (by rw [c4]; rfl), trivial⟩ [0, 0] rfl
    · refine TL.assign rfl rfl (v := .bool ((t3 == 0) || (t4 == 0))) rfl ?_
      refine TL.done ?_
      refine TC.cond (b := ((t3 == 0) || (t4 == 0))) rfl (fun c5 => ?_) (fun c6 => ?_)
      · refine TC.seq ?_
        refine TC.region ?_
        refine TL.buildS (segs0 := [.one (.int .i64 0), .one (.int .i64 0), .one (.int .i64 0), .one (.int .i64 0), .one (SV.v ⟨none, 0, 0⟩)]) (segs := [.one (.int .i64 0), .one (.int .i64 0), .one (.int .i64 0), .one (.int .i64 0), .one (SV.v ⟨none, 0, 0⟩)]) [1, 1, 1, 1, 1] Try.underlying24 ⟨Try.sizeOf2, Try.sizeOf2, Try.sizeOf2, Try.sizeOf2, Try.sizeOf22, trivial⟩ Try.zeroValue24 rfl [] rfl (fun pl hpl => by subst hpl; exact rfl) rfl rfl ?_
        refine TL.stM (news := [.one (.int .i64 0), .one (.int .i64 0), .one (.int .i64 0), .one (.int .i64 0), .one (SV.v ⟨none, 0, 0⟩)]) 0 0 5 rfl Try.sizeOf24 (ones_one rfl (ones_one rfl (ones_one rfl (ones_one rfl (ones_one rfl ones_nil))))) rfl rfl rfl rfl rfl rfl ?_
        refine TL.assign rfl rfl (v := .int .i64 2) rfl ?_
        refine TL.done ?_
        refine TC.nilrow Ei 2 ?_
        exact TC.retF (Fin.body (fin2 (.inr rfl) rfl (.cellN rfl (Src.box 1 rfl) Try.isAgg24 Try.sizeOf24 rfl) (.tmp rfl) [0] rfl ⟨⟨none, 0, 0⟩, rfl, rfl⟩))
      · refine TC.skip ?_
        refine TC.seq ?_
        refine TC.region ?_
        refine TL.fa Try.underlying24 rfl Try.sizeOf2 rfl 0 rfl rfl rfl rfl ?_
        refine TL.load1 0 (Src.box 1 rfl) Try.isAgg2 rfl rfl rfl rfl rfl ?_
        refine TL.fa Try.underlying24 rfl Try.sizeOf2 rfl 1 rfl rfl rfl rfl ?_
        refine TL.load1 1 (Src.box 1 rfl) Try.isAgg2 rfl rfl rfl rfl rfl ?_
        refine TL.fa Try.underlying24 rfl Try.sizeOf2 rfl 2 rfl rfl rfl rfl ?_
        refine TL.load1 2 (Src.box 1 rfl) Try.isAgg2 rfl rfl rfl rfl rfl ?_
        refine TL.bin .i64 t3 1 rfl rfl rfl rfl (v := .int .i64 (w64 (t3 - 1))) rfl ?_
        refine TL.fa Try.underlying24 rfl Try.sizeOf2 rfl 3 rfl rfl rfl rfl ?_
        refine TL.load1 3 (Src.box 1 rfl) Try.isAgg2 rfl rfl rfl rfl rfl ?_
        refine TL.bin .i64 t4 1 rfl rfl rfl rfl (v := .int .i64 (w64 (t4 - 1))) rfl ?_
        refine TL.makeFunc rfl rfl (us := []) (vs := [bp b_1 0]) rfl rfl ?_
        refine TL.call (R := G.impl_tensor.R) Try.call47 rfl rfl rfl (fun w hS => G.impl_tensor.calls w t1 t2 (w64 (t3 - 1)) (w64 (t4 - 1)) 58 [] [bp b_1 0] (fun x0_ x1_ => G.impl_CloseTensor_1.f x0_ x1_ t1 t2 t3 t4 t5) Try.call58 (fun w_ hle_ s1_ x0_ s2_ x1_ h0_ h1_ r_ hr_ => G.impl_CloseTensor_1.calls w_ s1_ x0_ s2_ x1_ b_1 t1 t2 t3 t4 s1 t5 h0_ h1_ (((Src.box 1 rfl) w hS).mono hle_) (((Rd.old h1) w hS).mono hle_) r_ hr_)) ?_
        rintro ⟨r_2, r_3, r_4, r_5, r_6, r_7⟩ _ _ ⟨s2, rfl, rfl⟩
        refine TL.extract rfl rfl rfl (v := sval [.one (.int .i64 r_2), .one (.int .i64 r_3), .one (.int .i64 r_4), .one (.int .i64 r_5), .one (SV.v s2)]) rfl ?_
        refine TL.extract rfl rfl rfl (v := .int .i64 r_7) rfl ?_
        refine TL.stM (news := [.one (.int .i64 r_2), .one (.int .i64 r_3), .one (.int .i64 r_4), .one (.int .i64 r_5), .one (SV.v s2)]) 1 0 5 rfl Try.sizeOf24 (ones_one rfl (ones_one rfl (ones_one rfl (ones_one rfl (ones_one rfl ones_nil))))) rfl rfl rfl rfl rfl rfl ?_
        refine TL.assign rfl rfl (v := .int .i64 r_7) rfl ?_
        refine TL.done ?_
        exact TC.retF (Fin.body (fin2 (.inr rfl) rfl (.cellN rfl (Src.box 1 rfl) Try.isAgg24 Try.sizeOf24 rfl) (.tmp rfl) [0] rfl ⟨s2, rfl, rfl⟩))

end Go.Proofs.Ytjjfoofjipafiaa.G

/- laws.FnExactCloseTensor, as a pure function. -/
set_option linter.unusedVariables false
namespace Go.Proofs.Ytjjfoofjipafiaa.G
open Go Go.Sx Go.Proofs

def laws_FnExactCloseTensor.f (x1 : Int) (x2 : Int) (x3 : Int) (x4 : Int) (x5 : List Int) : Option Bool := (G.laws_szTensor.f x1 x2 x3 x4 x5 1048576).bind (fun r_1 => (bif (decide (r_1 < 0)) then some true else (G.laws_toTensor.f x1 x2 x3 x4 x5).bind (fun p => match p with | (r_2, r_3, r_4, r_5, r_6) => (G.spec_CloseTensor.f r_2 r_3 r_4 r_5 r_6).bind (fun p => match p with | (r_7, r_8, r_9, r_10, r_11, r_12) => (G.laws_toTensor.f x1 x2 x3 x4 x5).bind (fun p => match p with | (r_13, r_14, r_15, r_16, r_17) => (G.impl_CloseTensor.f r_13 r_14 r_15 r_16 r_17).bind (fun p => match p with | (r_18, r_19, r_20, r_21, r_22, r_23) => (G.laws_eqTensor.f r_18 r_19 r_20 r_21 r_22 r_7 r_8 r_9 r_10 r_11).bind (fun r_24 => (bif ((!r_24) || (r_23 != r_12)) then some false else (G.laws_toTensor.f x1 x2 x3 x4 x5).bind (fun p => match p with | (r_25, r_26, r_27, r_28, r_29) => (G.laws_eqTensor.f r_13 r_14 r_15 r_16 r_17 r_25 r_26 r_27 r_28 r_29).bind (fun r_30 => (bif (!r_30) then some false else (G.laws_markTensor.f r_13 r_14 r_15 r_16 r_17 1).bind (fun p => match p with | (r_31, l1) => (bif (decide (r_31 < 0)) then some true else (G.laws_eqTensor.f r_18 r_19 r_20 r_21 r_22 r_7 r_8 r_9 r_10 r_11).bind (fun r_32 => some (!r_32))).bind (fun b_5 => (bif (b_5 || (r_23 != r_12)) then some false else (G.laws_markTensor.f r_18 r_19 r_20 r_21 r_22 1).bind (fun p => match p with | (r_33, l2) => (G.laws_heldTensor.f r_18 r_19 r_20 r_21 l2 1).bind (fun r_34 => (bif (decide (r_34 < 0)) then some false else (bif (r_34 != r_33) then some false else (G.laws_toTensor.f x1 x2 x3 x4 x5).bind (fun p => match p with | (r_35, r_36, r_37, r_38, r_39) => (G.impl_CloseTensor.f r_35 r_36 r_37 r_38 r_39).bind (fun p => match p with | (r_40, r_41, r_42, r_43, r_44, r_45) => (G.laws_eqTensor.f r_40 r_41 r_42 r_43 r_44 r_7 r_8 r_9 r_10 r_11).bind (fun r_46 => (bif ((!r_46) || (r_45 != r_12)) then some false else (G.laws_heldTensor.f r_18 r_19 r_20 r_21 l2 1).bind (fun r_47 => (bif (decide (r_47 < 0)) then some false else (bif (r_47 != r_33) then some false else some true)))))))))))))))))))))))))

def laws_FnExactCloseTensor.R (r : Bool) (v : Value) (L : List Asn) : Prop := v = .bool r ∧ L = []

set_option maxRecDepth 100000 in
set_option maxHeartbeats 4000000 in
theorem laws_FnExactCloseTensor.calls (w : World) (x1 : Int) (x2 : Int) (x3 : Int) (x4 : Int) (s1 : SV) (x5 : List Int) (h1 : Reads Ei (hp w) s1 x5) :
    ∀ r, laws_FnExactCloseTensor.f x1 x2 x3 x4 x5 = some r → Calls Try.prog 5 #[sval [.one (.int .i64 x1), .one (.int .i64 x2), .one (.int .i64 x3), .one (.int .i64 x4), .one (SV.v s1)]] w (Ret w (laws_FnExactCloseTensor.R r)) := by

  refine calls_T (n := 96) (Γ := [(0, sval [.one (.int .i64 x1), .one (.int .i64 x2), .one (.int .i64 x3), .one (.int .i64 x4), .one (SV.v s1)])]) (R := laws_FnExactCloseTensor.R) Try.func5 rfl rfl (Nat.le_of_ble_eq_true rfl) ⟨rfl, trivial⟩ ?_
  unfold laws_FnExactCloseTensor.f
  refine TC.seq ?_
  refine TC.region ?_
  refine TL.box [.one (.int .i64 x1), .one (.int .i64 x2), .one (.int .i64 x3), .one (.int .i64 x4), .one (SV.v s1)] rfl rfl rfl rfl fun b_1 => ?_
  refine TL.assign rfl rfl (v := .bool false) rfl ?_
  refine TL.done ?_
  refine TC.seq ?_
  refine TC.region ?_
  refine TL.assign rfl rfl (v := .int .i64 1048576) rfl ?_
  refine TL.done ?_
  refine TC.seq ?_
  refine TC.region ?_
  refine TL.loadM 0 5 (Src.box 0 rfl) Try.isAgg32 Try.sizeOf32 (mid := [.one (.int .i64 x1), .one (.int .i64 x2), .one (.int .i64 x3), .one (.int .i64 x4), .one (SV.v s1)]) rfl rfl rfl rfl rfl rfl ?_
  refine TL.move rfl rfl (v := .int .i64 1048576) rfl ?_
  refine TL.call (R := G.laws_szTensor.R) Try.call19 rfl rfl rfl (fun w hS => G.laws_szTensor.calls w x1 x2 x3 x4 s1 x5 1048576 ((Rd.old h1) w hS)) ?_
  rintro r_1 _ _ ⟨rfl, rfl⟩
  refine TL.assign rfl rfl (v := .int .i64 r_1) rfl ?_
  refine TL.done ?_
  refine TC.seq ?_
  refine TC.seq ?_
  refine TC.region ?_
  refine TL.move rfl rfl (v := .int .i64 r_1) rfl ?_
  refine TL.bin .i64 r_1 0 rfl rfl rfl rfl (v := .bool (decide (r_1 < 0))) rfl ?_
  refine TL.done ?_
  refine TC.cond (b := (decide (r_1 < 0))) rfl (fun c1 => ?_) (fun c2 => ?_)
  · refine TC.seq ?_
    refine TC.region ?_
    refine TL.assign rfl rfl (v := .bool true) rfl ?_
    refine TL.done ?_
    exact TC.retF (Fin.body (fin1 (.inr rfl) rfl (.tmp rfl) [] rfl ⟨rfl, rfl⟩))
  · refine TC.skip ?_
    refine TC.seq ?_
    refine TC.region ?_
    refine TL.loadM 0 5 (Src.box 0 rfl) Try.isAgg32 Try.sizeOf32 (mid := [.one (.int .i64 x1), .one (.int .i64 x2), .one (.int .i64 x3), .one (.int .i64 x4), .one (SV.v s1)]) rfl rfl rfl rfl rfl rfl ?_
    refine TL.call (R := G.laws_toTensor.R) Try.call21 rfl rfl rfl (fun w hS => G.laws_toTensor.calls w x1 x2 x3 x4 s1 x5 ((Rd.old h1) w hS)) ?_
    rintro ⟨r_2, r_3, r_4, r_5, r_6⟩ _ _ ⟨s2, rfl, rfl⟩
    refine TL.call (R := G.spec_CloseTensor.R) Try.call20 rfl rfl rfl (fun w hS => G.spec_CloseTensor.calls w r_2 r_3 r_4 r_5 s2 r_6 ((Rd.row 0 rfl) w hS)) ?_
    rintro ⟨r_7, r_8, r_9, r_10, r_11, r_12⟩ _ _ ⟨s3, rfl, rfl⟩
    refine TL.move rfl rfl (v := .tuple #[sval [.one (.int .i64 r_7), .one (.int .i64 r_8), .one (.int .i64 r_9), .one (.int .i64 r_10), .one (SV.v s3)], .int .i64 r_12]) rfl ?_
    refine TL.extract rfl rfl rfl (v := sval [.one (.int .i64 r_7), .one (.int .i64 r_8), .one (.int .i64 r_9), .one (.int .i64 r_10), .one (SV.v s3)]) rfl ?_
    refine TL.extract rfl rfl rfl (v := .int .i64 r_12) rfl ?_
    refine TL.alloc [.one (.int .i64 0), .one (.int .i64 0), .one (.int .i64 0), .one (.int .i64 0), .one (SV.v ⟨none, 0, 0⟩)] rfl rfl Try.zeroValue24 rfl fun b_2 => ?_
    refine TL.stM (news := [.one (.int .i64 r_7), .one (.int .i64 r_8), .one (.int .i64 r_9), .one (.int .i64 r_10), .one (SV.v s3)]) 0 0 5 rfl Try.sizeOf24 (ones_one rfl (ones_one rfl (ones_one rfl (ones_one rfl (ones_one rfl ones_nil))))) rfl rfl rfl rfl rfl rfl ?_
    refine TL.assign rfl rfl (v := .int .i64 r_12) rfl ?_
    refine TL.done ?_
    refine TC.seq ?_
    refine TC.region ?_
    refine TL.loadM 0 5 (Src.box 3 rfl) Try.isAgg32 Try.sizeOf32 (mid := [.one (.int .i64 x1), .one (.int .i64 x2), .one (.int .i64 x3), .one (.int .i64 x4), .one (SV.v s1)]) rfl rfl rfl rfl rfl rfl ?_
    refine TL.call (R := G.laws_toTensor.R) Try.call21 rfl rfl rfl (fun w hS => G.laws_toTensor.calls w x1 x2 x3 x4 s1 x5 ((Rd.old h1) w hS)) ?_
    rintro ⟨r_13, r_14, r_15, r_16, r_17⟩ _ _ ⟨s4, rfl, rfl⟩
    refine TL.alloc [.one (.int .i64 0), .one (.int .i64 0), .one (.int .i64 0), .one (.int .i64 0), .one (SV.v ⟨none, 0, 0⟩)] rfl rfl Try.zeroValue24 rfl fun b_3 => ?_
    refine TL.stM (news := [.one (.int .i64 r_13), .one (.int .i64 r_14), .one (.int .i64 r_15), .one (.int .i64 r_16), .one (SV.v s4)]) 0 0 5 rfl Try.sizeOf24 (ones_one rfl (ones_one rfl (ones_one rfl (ones_one rfl (ones_one rfl ones_nil))))) rfl rfl rfl rfl rfl rfl ?_
    refine TL.done ?_
    refine TC.seq ?_
    refine TC.region ?_
    refine TL.loadM 0 5 (Src.box 0 rfl) Try.isAgg24 Try.sizeOf24 (mid := [.one (.int .i64 r_13), .one (.int .i64 r_14), .one (.int .i64 r_15), .one (.int .i64 r_16), .one (SV.v s4)]) rfl rfl rfl rfl rfl rfl ?_
    refine TL.call (R := G.impl_CloseTensor.R) Try.call22 rfl rfl rfl (fun w hS => G.impl_CloseTensor.calls w r_13 r_14 r_15 r_16 s4 r_17 ((Rd.row 1 rfl) w hS)) ?_
    rintro ⟨r_18, r_19, r_20, r_21, r_22, r_23⟩ _ _ ⟨s5, rfl, rfl⟩
    refine TL.move rfl rfl (v := .tuple #[sval [.one (.int .i64 r_18), .one (.int .i64 r_19), .one (.int .i64 r_20), .one (.int .i64 r_21), .one (SV.v s5)], .int .i64 r_23]) rfl ?_
    refine TL.extract rfl rfl rfl (v := sval [.one (.int .i64 r_18), .one (.int .i64 r_19), .one (.int .i64 r_20), .one (.int .i64 r_21), .one (SV.v s5)]) rfl ?_
    refine TL.extract rfl rfl rfl (v := .int .i64 r_23) rfl ?_
    refine TL.alloc [.one (.int .i64 0), .one (.int .i64 0), .one (.int .i64 0), .one (.int .i64 0), .one (SV.v ⟨none, 0, 0⟩)] rfl rfl Try.zeroValue24 rfl fun b_4 => ?_
    refine TL.stM (news := [.one (.int .i64 r_18), .one (.int .i64 r_19), .one (.int .i64 r_20), .one (.int .i64 r_21), .one (SV.v s5)]) 0 0 5 rfl Try.sizeOf24 (ones_one rfl (ones_one rfl (ones_one rfl (ones_one rfl (ones_one rfl ones_nil))))) rfl rfl rfl rfl rfl rfl ?_
    refine TL.assign rfl rfl (v := .int .i64 r_23) rfl ?_
    refine TL.done ?_
    refine TC.seq ?_
    refine TC.seq ?_
    refine TC.region ?_
    refine TL.loadM 0 5 (Src.box 0 rfl) Try.isAgg24 Try.sizeOf24 (mid := [.one (.int .i64 r_18), .one (.int .i64 r_19), .one (.int .i64 r_20), .one (.int .i64 r_21), .one (SV.v s5)]) rfl rfl rfl rfl rfl rfl ?_
    refine TL.loadM 0 5 (Src.box 4 rfl) Try.isAgg24 Try.sizeOf24 (mid := [.one (.int .i64 r_7), .one (.int .i64 r_8), .one (.int .i64 r_9), .one (.int .i64 r_10), .one (SV.v s3)]) rfl rfl rfl rfl rfl rfl ?_
    refine TL.call (R := G.laws_eqTensor.R) Try.call14 rfl rfl rfl (fun w hS => G.laws_eqTensor.calls w r_18 r_19 r_20 r_21 s5 r_22 r_7 r_8 r_9 r_10 s3 r_11 ((Rd.row 1 rfl) w hS) ((Rd.row 5 rfl) w hS)) ?_
    rintro r_24 _ _ ⟨rfl, rfl⟩
    refine TL.not r_24 rfl rfl rfl ?_
    refine TL.move rfl rfl (v := .bool (!r_24)) rfl ?_
    refine TL.cutU 4 [(40, .bool ((!r_24) || (r_23 != r_12))), (0, sval [.one (.int .i64 x1), .one (.int .i64 x2), .one (.int .i64 x3), .one (.int .i64 x4), .one (SV.v s1)]), (1, bp b_1 0), (2, .bool false), (3, .int .i64 r_1), (14, sval [.one (.int .i64 x1), .one (.int .i64 x2), .one (.int .i64 x3), .one (.int .i64 x4), .one (SV.v s1)]), (15, .int .i64 1048576), (16, .int .i64 r_1), (17, .int .i64 r_1), (18, .bool (decide (r_1 < 0))), (20, sval [.one (.int .i64 x1), .one (.int .i64 x2), .one (.int .i64 x3), .one (.int .i64 x4), .one (SV.v s1)]), (21, sval [.one (.int .i64 r_2), .one (.int .i64 r_3), .one (.int .i64 r_4), .one (.int .i64 r_5), .one (SV.v s2)]), (22, .tuple #[sval [.one (.int .i64 r_7), .one (.int .i64 r_8), .one (.int .i64 r_9), .one (.int .i64 r_10), .one (SV.v s3)], .int .i64 r_12]), (19, .tuple #[sval [.one (.int .i64 r_7), .one (.int .i64 r_8), .one (.int .i64 r_9), .one (.int .i64 r_10), .one (SV.v s3)], .int .i64 r_12]), (23, sval [.one (.int .i64 r_7), .one (.int .i64 r_8), .one (.int .i64 r_9), .one (.int .i64 r_10), .one (SV.v s3)]), (24, .int .i64 r_12), (4, bp b_2 0), (5, .int .i64 r_12), (25, sval [.one (.int .i64 x1), .one (.int .i64 x2), .one (.int .i64 x3), .one (.int .i64 x4), .one (SV.v s1)]), (26, sval [.one (.int .i64 r_13), .one (.int .i64 r_14), .one (.int .i64 r_15), .one (.int .i64 r_16), .one (SV.v s4)]), (6, bp b_3 0), (28, sval [.one (.int .i64 r_13), .one (.int .i64 r_14), .one (.int .i64 r_15), .one (.int .i64 r_16), .one (SV.v s4)]), (29, .tuple #[sval [.one (.int .i64 r_18), .one (.int .i64 r_19), .one (.int .i64 r_20), .one (.int .i64 r_21), .one (SV.v s5)], .int .i64 r_23]), (27, .tuple #[sval [.one (.int .i64 r_18), .one (.int .i64 r_19), .one (.int .i64 r_20), .one (.int .i64 r_21), .one (SV.v s5)], .int .i64 r_23]), (30, sval [.one (.int .i64 r_18), .one (.int .i64 r_19), .one (.int .i64 r_20), .one (.int .i64 r_21), .one (SV.v s5)]), (31, .int .i64 r_23), (7, bp b_4 0), (8, .int .i64 r_23), (32, sval [.one (.int .i64 r_18), .one (.int .i64 r_19), .one (.int .i64 r_20), .one (.int .i64 r_21), .one (SV.v s5)]), (33, sval [.one (.int .i64 r_7), .one (.int .i64 r_8), .one (.int .i64 r_9), .one (.int .i64 r_10), .one (SV.v s3)]), (34, .bool r_24), (35, .bool (!r_24)), (36, .bool (!r_24))] [box b_4 24 [.one (.int .i64 r_18), .one (.int .i64 r_19), .one (.int .i64 r_20), .one (.int .i64 r_21), .one (SV.v s5)], row Ei 2 s5 r_22, box b_3 24 [.one (.int .i64 r_13), .one (.int .i64 r_14), .one (.int .i64 r_15), .one (.int .i64 r_16), .one (SV.v s4)], row Ei 2 s4 r_17, box b_2 24 [.one (.int .i64 r_7), .one (.int .i64 r_8), .one (.int .i64 r_9), .one (.int .i64 r_10), .one (SV.v s3)], row Ei 2 s3 r_11, row Ei 2 s2 r_6, box b_1 32 [.one (.int .i64 x1), .one (.int .i64 x2), .one (.int .i64 x3), .one (.int .i64 x4), .one (SV.v s1)]] ?_ ?_
    · refine TL.cases (t := 36) (b := (!r_24)) rfl (fun c3 => ?_) (fun c4 => ?_)
      · refine TL.skip rfl rfl (by decide) ?_
        refine TL.skip rfl rfl (by decide) ?_
        refine TL.skip rfl rfl (by decide) ?_
        refine TL.pick rfl rfl (b := true) rfl (r := .bool true) rfl ?_
        refine TL.done ?_
        exact TC.nrm () () ⟨(by rw [c3]; rfl), rfl, rfl, rfl, rfl, rfl, rfl, rfl, rfl, rfl, rfl, rfl, rfl, rfl, rfl, rfl, rfl, rfl, rfl, rfl, rfl, rfl, rfl, rfl, rfl, rfl, rfl, rfl, rfl, rfl, rfl, rfl, (by rw [c3]; rfl), trivial⟩ [0, 0, 0, 0, 0, 0, 0, 0] rfl
      · refine TL.move rfl rfl (v := .int .i64 r_23) rfl ?_
        refine TL.move rfl rfl (v := .int .i64 r_12) rfl ?_
        refine TL.bin .i64 r_23 r_12 rfl rfl rfl rfl (v := .bool (r_23 != r_12)) rfl ?_
        refine TL.pick rfl rfl (b := false) rfl (r := .bool (r_23 != r_12)) rfl ?_
        refine TL.done ?_
        exact TC.nrm () () ⟨(by rw [c4]; rfl), rfl, rfl, rfl, rfl, rfl, rfl, rfl, rfl, rfl, rfl, rfl, rfl, rfl, rfl, rfl, rfl, rfl, rfl, rfl, rfl, rfl, rfl, rfl, rfl, rfl, rfl, rfl, rfl, rfl, rfl, rfl, (by rw [c4]; rfl), trivial⟩ [0, 0, 0, 0, 0, 0, 0, 0] rfl
    · refine TL.done ?_
      refine TC.cond (b := ((!r_24) || (r_23 != r_12))) rfl (fun c5 => ?_) (fun c6 => ?_)
      · refine TC.seq ?_
        refine TC.region ?_
        refine TL.assign rfl rfl (v := .bool false) rfl ?_
        refine TL.done ?_
        exact TC.retF (Fin.body (fin1 (.inr rfl) rfl (.tmp rfl) [] rfl ⟨rfl, rfl⟩))
      · refine TC.skip ?_
        refine TC.seq ?_
        refine TC.seq ?_
        refine TC.wk (Γ' := [(0, sval [.one (.int .i64 x1), .one (.int .i64 x2), .one (.int .i64 x3), .one (.int .i64 x4), .one (SV.v s1)]), (1, bp b_1 0), (2, .bool false), (3, .int .i64 r_1), (14, sval [.one (.int .i64 x1), .one (.int .i64 x2), .one (.int .i64 x3), .one (.int .i64 x4), .one (SV.v s1)]), (15, .int .i64 1048576), (16, .int .i64 r_1), (17, .int .i64 r_1), (18, .bool (decide (r_1 < 0))), (20, sval [.one (.int .i64 x1), .one (.int .i64 x2), .one (.int .i64 x3), .one (.int .i64 x4), .one (SV.v s1)]), (21, sval [.one (.int .i64 r_2), .one (.int .i64 r_3), .one (.int .i64 r_4), .one (.int .i64 r_5), .one (SV.v s2)]), (22, .tuple #[sval [.one (.int .i64 r_7), .one (.int .i64 r_8), .one (.int .i64 r_9), .one (.int .i64 r_10), .one (SV.v s3)], .int .i64 r_12]), (19, .tuple #[sval [.one (.int .i64 r_7), .one (.int .i64 r_8), .one (.int .i64 r_9), .one (.int .i64 r_10), .one (SV.v s3)], .int .i64 r_12]), (23, sval [.one (.int .i64 r_7), .one (.int .i64 r_8), .one (.int .i64 r_9), .one (.int .i64 r_10), .one (SV.v s3)]), (24, .int .i64 r_12), (4, bp b_2 0), (5, .int .i64 r_12), (25, sval [.one (.int .i64 x1), .one (.int .i64 x2), .one (.int .i64 x3), .one (.int .i64 x4), .one (SV.v s1)]), (26, sval [.one (.int .i64 r_13), .one (.int .i64 r_14), .one (.int .i64 r_15), .one (.int .i64 r_16), .one (SV.v s4)]), (6, bp b_3 0), (28, sval [.one (.int .i64 r_13), .one (.int .i64 r_14), .one (.int .i64 r_15), .one (.int .i64 r_16), .one (SV.v s4)]), (29, .tuple #[sval [.one (.int .i64 r_18), .one (.int .i64 r_19), .one (.int .i64 r_20), .one (.int .i64 r_21), .one (SV.v s5)], .int .i64 r_23]), (27, .tuple #[sval [.one (.int .i64 r_18), .one (.int .i64 r_19), .one (.int .i64 r_20), .one (.int .i64 r_21), .one (SV.v s5)], .int .i64 r_23]), (30, sval [.one (.int .i64 r_18), .one (.int .i64 r_19), .one (.int .i64 r_20), .one (.int .i64 r_21), .one (SV.v s5)]), (31, .int .i64 r_23), (7, bp b_4 0), (8, .int .i64 r_23), (32, sval [.one (.int .i64 r_18), .one (.int .i64 r_19), .one (.int .i64 r_20), .one (.int .i64 r_21), .one (SV.v s5)]), (33, sval [.one (.int .i64 r_7), .one (.int .i64 r_8), .one (.int .i64 r_9), .one (.int .i64 r_10), .one (SV.v s3)]), (34, .bool r_24), (35, .bool (!r_24)), (36, .bool (!r_24)), (40, .bool ((!r_24) || (r_23 != r_12)))]) ⟨rfl, rfl, rfl, rfl, rfl, rfl, rfl, rfl, rfl, rfl, rfl, rfl, rfl, rfl, rfl, rfl, rfl, rfl, rfl, rfl, rfl, rfl, rfl, rfl, rfl, rfl, rfl, rfl, rfl, rfl, rfl, rfl, rfl, trivial⟩ ?_
        refine TC.bindE ?_
        rintro ⟨r_25, r_26, r_27, r_28, r_29⟩ hr1
        refine TC.bindE ?_
        rintro r_30 hr2
        refine TC.drawG [(0, sval [.one (.int .i64 x1), .one (.int .i64 x2), .one (.int .i64 x3), .one (.int .i64 x4), .one (SV.v s1)]), (1, bp b_1 0), (2, .bool false), (3, .int .i64 r_1), (14, sval [.one (.int .i64 x1), .one (.int .i64 x2), .one (.int .i64 x3), .one (.int .i64 x4), .one (SV.v s1)]), (15, .int .i64 1048576), (16, .int .i64 r_1), (17, .int .i64 r_1), (18, .bool (decide (r_1 < 0))), (20, sval [.one (.int .i64 x1), .one (.int .i64 x2), .one (.int .i64 x3), .one (.int .i64 x4), .one (SV.v s1)]), (21, sval [.one (.int .i64 r_2), .one (.int .i64 r_3), .one (.int .i64 r_4), .one (.int .i64 r_5), .one (SV.v s2)]), (22, .tuple #[sval [.one (.int .i64 r_7), .one (.int .i64 r_8), .one (.int .i64 r_9), .one (.int .i64 r_10), .one (SV.v s3)], .int .i64 r_12]), (19, .tuple #[sval [.one (.int .i64 r_7), .one (.int .i64 r_8), .one (.int .i64 r_9), .one (.int .i64 r_10), .one (SV.v s3)], .int .i64 r_12]), (23, sval [.one (.int .i64 r_7), .one (.int .i64 r_8), .one (.int .i64 r_9), .one (.int .i64 r_10), .one (SV.v s3)]), (24, .int .i64 r_12), (4, bp b_2 0), (5, .int .i64 r_12), (25, sval [.one (.int .i64 x1), .one (.int .i64 x2), .one (.int .i64 x3), .one (.int .i64 x4), .one (SV.v s1)]), (26, sval [.one (.int .i64 r_13), .one (.int .i64 r_14), .one (.int .i64 r_15), .one (.int .i64 r_16), .one (SV.v s4)]), (6, bp b_3 0), (28, sval [.one (.int .i64 r_13), .one (.int .i64 r_14), .one (.int .i64 r_15), .one (.int .i64 r_16), .one (SV.v s4)]), (29, .tuple #[sval [.one (.int .i64 r_18), .one (.int .i64 r_19), .one (.int .i64 r_20), .one (.int .i64 r_21), .one (SV.v s5)], .int .i64 r_23]), (27, .tuple #[sval [.one (.int .i64 r_18), .one (.int .i64 r_19), .one (.int .i64 r_20), .one (.int .i64 r_21), .one (SV.v s5)], .int .i64 r_23]), (30, sval [.one (.int .i64 r_18), .one (.int .i64 r_19), .one (.int .i64 r_20), .one (.int .i64 r_21), .one (SV.v s5)]), (31, .int .i64 r_23), (7, bp b_4 0), (8, .int .i64 r_23), (32, sval [.one (.int .i64 r_18), .one (.int .i64 r_19), .one (.int .i64 r_20), .one (.int .i64 r_21), .one (SV.v s5)]), (33, sval [.one (.int .i64 r_7), .one (.int .i64 r_8), .one (.int .i64 r_9), .one (.int .i64 r_10), .one (SV.v s3)]), (34, .bool r_24), (35, .bool (!r_24)), (36, .bool (!r_24)), (40, .bool ((!r_24) || (r_23 != r_12)))] [] ⟨rfl, rfl, rfl, rfl, rfl, rfl, rfl, rfl, rfl, rfl, rfl, rfl, rfl, rfl, rfl, rfl, rfl, rfl, rfl, rfl, rfl, rfl, rfl, rfl, rfl, rfl, rfl, rfl, rfl, rfl, rfl, rfl, rfl, trivial⟩ trivial (fun l_ g1 => [box b_4 24 [.one (.int .i64 r_18), .one (.int .i64 r_19), .one (.int .i64 r_20), .one (.int .i64 r_21), .one (SV.v s5)], row Ei 2 s5 r_22, box b_3 24 [.one (.int .i64 r_13), .one (.int .i64 r_14), .one (.int .i64 r_15), .one (.int .i64 r_16), .one (SV.v s4)], row Ei 2 s4 r_17, box b_2 24 [.one (.int .i64 r_7), .one (.int .i64 r_8), .one (.int .i64 r_9), .one (.int .i64 r_10), .one (SV.v s3)], row Ei 2 s3 r_11, row Ei 2 s2 r_6, box b_1 32 [.one (.int .i64 x1), .one (.int .i64 x2), .one (.int .i64 x3), .one (.int .i64 x4), .one (SV.v s1)], (bif nb l_ 2 then row Ei 2 (gs (g1 16)) r_29 else emp)]) (fun g1 => [sval [.one (.int .i64 r_13), .one (.int .i64 r_14), .one (.int .i64 r_15), .one (.int .i64 r_16), .one (SV.v s4)], sval [.one (.int .i64 x1), .one (.int .i64 x2), .one (.int .i64 x3), .one (.int .i64 x4), .one (SV.v s1)], sval [.one (.int .i64 r_25), .one (.int .i64 r_26), .one (.int .i64 r_27), .one (.int .i64 r_28), .one (SV.v (gs (g1 16)))], .bool r_30, .bool (!r_30)]) [[], [], [1], [0, 1, 2], [0, 1, 2, 3]] [[some false, none, none, some false, some false], [none, some false, some false, some false, some false], [none, some true, some false, some false, some false], [some true, some true, some true, some false, some false], [some true, some true, some true, some true, some false]] (by kernel_rfl) (fun _ => rfl) rfl rfl rfl rfl rfl (fun _ _ => ⟨⟨⟨⟨⟨trivial, rfl⟩, rfl⟩, rfl⟩, rfl⟩, rfl⟩) 1 [1, 1, 1, 1, 1, 1, 1, 1, 0] (fun _ => rfl) ?_ ?_
        · refine ⟨rfl, ?_, rfl, ?_, rfl, ?_, rfl, ?_, rfl, ?_, trivial⟩
          · intro b1_ b2_ g1
            refine TL.asL [box b_4 24 [.one (.int .i64 r_18), .one (.int .i64 r_19), .one (.int .i64 r_20), .one (.int .i64 r_21), .one (SV.v s5)], row Ei 2 s5 r_22, box b_3 24 [.one (.int .i64 r_13), .one (.int .i64 r_14), .one (.int .i64 r_15), .one (.int .i64 r_16), .one (SV.v s4)], row Ei 2 s4 r_17, box b_2 24 [.one (.int .i64 r_7), .one (.int .i64 r_8), .one (.int .i64 r_9), .one (.int .i64 r_10), .one (SV.v s3)], row Ei 2 s3 r_11, row Ei 2 s2 r_6, box b_1 32 [.one (.int .i64 x1), .one (.int .i64 x2), .one (.int .i64 x3), .one (.int .i64 x4), .one (SV.v s1)], (bif b2_ then row Ei 2 (gs (g1 16)) r_29 else emp)] rfl ?_
            refine TL.loadM 0 5 (Src.box 2 rfl) Try.isAgg24 Try.sizeOf24 (mid := [.one (.int .i64 r_13), .one (.int .i64 r_14), .one (.int .i64 r_15), .one (.int .i64 r_16), .one (SV.v s4)]) rfl rfl rfl rfl rfl rfl ?_
            refine TL.done ?_
            exact TC.nrm () [] ⟨rfl, trivial⟩ [0, 0, 0, 0, 0, 0, 0, 0, 0] rfl
          · intro b0_ g1
            refine TL.asL [box b_4 24 [.one (.int .i64 r_18), .one (.int .i64 r_19), .one (.int .i64 r_20), .one (.int .i64 r_21), .one (SV.v s5)], row Ei 2 s5 r_22, box b_3 24 [.one (.int .i64 r_13), .one (.int .i64 r_14), .one (.int .i64 r_15), .one (.int .i64 r_16), .one (SV.v s4)], row Ei 2 s4 r_17, box b_2 24 [.one (.int .i64 r_7), .one (.int .i64 r_8), .one (.int .i64 r_9), .one (.int .i64 r_10), .one (SV.v s3)], row Ei 2 s3 r_11, row Ei 2 s2 r_6, box b_1 32 [.one (.int .i64 x1), .one (.int .i64 x2), .one (.int .i64 x3), .one (.int .i64 x4), .one (SV.v s1)], emp] rfl ?_
            refine TL.loadM 0 5 (Src.box 7 rfl) Try.isAgg32 Try.sizeOf32 (mid := [.one (.int .i64 x1), .one (.int .i64 x2), .one (.int .i64 x3), .one (.int .i64 x4), .one (SV.v s1)]) rfl rfl rfl rfl rfl rfl ?_
            refine TL.done ?_
            exact TC.nrm () [] ⟨rfl, trivial⟩ [0, 0, 0, 0, 0, 0, 0, 0, 0] rfl
          · intro b0_ g1
            refine TL.asL [box b_4 24 [.one (.int .i64 r_18), .one (.int .i64 r_19), .one (.int .i64 r_20), .one (.int .i64 r_21), .one (SV.v s5)], row Ei 2 s5 r_22, box b_3 24 [.one (.int .i64 r_13), .one (.int .i64 r_14), .one (.int .i64 r_15), .one (.int .i64 r_16), .one (SV.v s4)], row Ei 2 s4 r_17, box b_2 24 [.one (.int .i64 r_7), .one (.int .i64 r_8), .one (.int .i64 r_9), .one (.int .i64 r_10), .one (SV.v s3)], row Ei 2 s3 r_11, row Ei 2 s2 r_6, box b_1 32 [.one (.int .i64 x1), .one (.int .i64 x2), .one (.int .i64 x3), .one (.int .i64 x4), .one (SV.v s1)], emp] rfl ?_
            refine TL.callH (R := G.laws_toTensor.R) hr1 Try.call21 rfl rfl rfl (fun w hS => G.laws_toTensor.calls w x1 x2 x3 x4 s1 x5 ((Rd.old h1) w hS)) ?_
            rintro _ _ ⟨s6, rfl, rfl⟩
            refine TL.done ?_
            exact TC.nrm () [[s6]] ⟨rfl, trivial⟩ [1, 1, 1, 1, 1, 1, 1, 1, 0] rfl
          · intro g1
            refine TL.asL [box b_4 24 [.one (.int .i64 r_18), .one (.int .i64 r_19), .one (.int .i64 r_20), .one (.int .i64 r_21), .one (SV.v s5)], row Ei 2 s5 r_22, box b_3 24 [.one (.int .i64 r_13), .one (.int .i64 r_14), .one (.int .i64 r_15), .one (.int .i64 r_16), .one (SV.v s4)], row Ei 2 s4 r_17, box b_2 24 [.one (.int .i64 r_7), .one (.int .i64 r_8), .one (.int .i64 r_9), .one (.int .i64 r_10), .one (SV.v s3)], row Ei 2 s3 r_11, row Ei 2 s2 r_6, box b_1 32 [.one (.int .i64 x1), .one (.int .i64 x2), .one (.int .i64 x3), .one (.int .i64 x4), .one (SV.v s1)], row Ei 2 (gs (g1 16)) r_29] rfl ?_
            refine TL.callH (R := G.laws_eqTensor.R) hr2 Try.call14 rfl rfl rfl (fun w hS => G.laws_eqTensor.calls w r_13 r_14 r_15 r_16 s4 r_17 r_25 r_26 r_27 r_28 (gs (g1 16)) r_29 ((Rd.row 3 rfl) w hS) ((Rd.row 8 rfl) w hS)) ?_
            rintro _ _ ⟨rfl, rfl⟩
            refine TL.done ?_
            exact TC.nrm () [] ⟨rfl, trivial⟩ [0, 0, 0, 0, 0, 0, 0, 0, 0] rfl
          · intro g1
            refine TL.not r_30 rfl rfl rfl ?_
            refine TL.done ?_
            exact TC.nrm () [] ⟨rfl, trivial⟩ [0, 0, 0, 0, 0, 0, 0, 0, 0] rfl
        · intro g1
          refine TC.asL [box b_4 24 [.one (.int .i64 r_18), .one (.int .i64 r_19), .one (.int .i64 r_20), .one (.int .i64 r_21), .one (SV.v s5)], row Ei 2 s5 r_22, box b_3 24 [.one (.int .i64 r_13), .one (.int .i64 r_14), .one (.int .i64 r_15), .one (.int .i64 r_16), .one (SV.v s4)], row Ei 2 s4 r_17, box b_2 24 [.one (.int .i64 r_7), .one (.int .i64 r_8), .one (.int .i64 r_9), .one (.int .i64 r_10), .one (SV.v s3)], row Ei 2 s3 r_11, row Ei 2 s2 r_6, box b_1 32 [.one (.int .i64 x1), .one (.int .i64 x2), .one (.int .i64 x3), .one (.int .i64 x4), .one (SV.v s1)], row Ei 2 (gs (g1 16)) r_29] rfl ?_
          refine TC.cond (b := (!r_30)) rfl (fun c7 => ?_) (fun c8 => ?_)
          · refine TC.seq ?_
            refine TC.region ?_
            refine TL.assign rfl rfl (v := .bool false) rfl ?_
            refine TL.done ?_
            exact TC.retF (Fin.body (fin1 (.inr rfl) rfl (.tmp rfl) [] rfl ⟨rfl, rfl⟩))
          · refine TC.skip ?_
            refine TC.seq ?_
            refine TC.region ?_
            refine TL.assign rfl rfl (v := .int .i64 1) rfl ?_
            refine TL.done ?_
            refine TC.seq ?_
            refine TC.region ?_
            refine TL.loadM 0 5 (Src.box 2 rfl) Try.isAgg24 Try.sizeOf24 (mid := [.one (.int .i64 r_13), .one (.int .i64 r_14), .one (.int .i64 r_15), .one (.int .i64 r_16), .one (SV.v s4)]) rfl rfl rfl rfl rfl rfl ?_
            refine TL.move rfl rfl (v := .int .i64 1) rfl ?_
            refine TL.callX (R := G.laws_markTensor.R s4) [3, 0, 0, 0, 0, 0, 0, 0, 0] [row Ei 2 s4 r_17] [box b_4 24 [.one (.int .i64 r_18), .one (.int .i64 r_19), .one (.int .i64 r_20), .one (.int .i64 r_21), .one (SV.v s5)], row Ei 2 s5 r_22, box b_3 24 [.one (.int .i64 r_13), .one (.int .i64 r_14), .one (.int .i64 r_15), .one (.int .i64 r_16), .one (SV.v s4)], box b_2 24 [.one (.int .i64 r_7), .one (.int .i64 r_8), .one (.int .i64 r_9), .one (.int .i64 r_10), .one (SV.v s3)], row Ei 2 s3 r_11, row Ei 2 s2 r_6, box b_1 32 [.one (.int .i64 x1), .one (.int .i64 x2), .one (.int .i64 x3), .one (.int .i64 x4), .one (SV.v s1)], row Ei 2 (gs (g1 16)) r_29] rfl Try.call15 rfl rfl rfl (fun w I_ hle hB hS => G.laws_markTensor.calls _ I_ w r_13 r_14 r_15 r_16 s4 r_17 1 hS) ?_
            rintro ⟨r_31, l1⟩ _ _ ⟨rfl, rfl⟩
            refine TL.assign rfl rfl (v := .int .i64 r_31) rfl ?_
            refine TL.done ?_
            refine TC.seq ?_
            refine TC.seq ?_
            refine TC.region ?_
            refine TL.move rfl rfl (v := .int .i64 r_31) rfl ?_
            refine TL.bin .i64 r_31 0 rfl rfl rfl rfl (v := .bool (decide (r_31 < 0))) rfl ?_
            refine TL.move rfl rfl (v := .bool (decide (r_31 < 0))) rfl ?_
            refine TL.cutJ (σ := Bool) (γ := Unit) (Γ' := fun b_5 _ => [(56, .bool b_5), (0, sval [.one (.int .i64 x1), .one (.int .i64 x2), .one (.int .i64 x3), .one (.int .i64 x4), .one (SV.v s1)]), (1, bp b_1 0), (2, .bool false), (3, .int .i64 r_1), (14, sval [.one (.int .i64 x1), .one (.int .i64 x2), .one (.int .i64 x3), .one (.int .i64 x4), .one (SV.v s1)]), (15, .int .i64 1048576), (16, .int .i64 r_1), (17, .int .i64 r_1), (18, .bool (decide (r_1 < 0))), (20, sval [.one (.int .i64 x1), .one (.int .i64 x2), .one (.int .i64 x3), .one (.int .i64 x4), .one (SV.v s1)]), (21, sval [.one (.int .i64 r_2), .one (.int .i64 r_3), .one (.int .i64 r_4), .one (.int .i64 r_5), .one (SV.v s2)]), (22, .tuple #[sval [.one (.int .i64 r_7), .one (.int .i64 r_8), .one (.int .i64 r_9), .one (.int .i64 r_10), .one (SV.v s3)], .int .i64 r_12]), (19, .tuple #[sval [.one (.int .i64 r_7), .one (.int .i64 r_8), .one (.int .i64 r_9), .one (.int .i64 r_10), .one (SV.v s3)], .int .i64 r_12]), (23, sval [.one (.int .i64 r_7), .one (.int .i64 r_8), .one (.int .i64 r_9), .one (.int .i64 r_10), .one (SV.v s3)]), (24, .int .i64 r_12), (4, bp b_2 0), (5, .int .i64 r_12), (25, sval [.one (.int .i64 x1), .one (.int .i64 x2), .one (.int .i64 x3), .one (.int .i64 x4), .one (SV.v s1)]), (26, sval [.one (.int .i64 r_13), .one (.int .i64 r_14), .one (.int .i64 r_15), .one (.int .i64 r_16), .one (SV.v s4)]), (6, bp b_3 0), (28, sval [.one (.int .i64 r_13), .one (.int .i64 r_14), .one (.int .i64 r_15), .one (.int .i64 r_16), .one (SV.v s4)]), (29, .tuple #[sval [.one (.int .i64 r_18), .one (.int .i64 r_19), .one (.int .i64 r_20), .one (.int .i64 r_21), .one (SV.v s5)], .int .i64 r_23]), (27, .tuple #[sval [.one (.int .i64 r_18), .one (.int .i64 r_19), .one (.int .i64 r_20), .one (.int .i64 r_21), .one (SV.v s5)], .int .i64 r_23]), (30, sval [.one (.int .i64 r_18), .one (.int .i64 r_19), .one (.int .i64 r_20), .one (.int .i64 r_21), .one (SV.v s5)]), (31, .int .i64 r_23), (7, bp b_4 0), (8, .int .i64 r_23), (32, sval [.one (.int .i64 r_18), .one (.int .i64 r_19), .one (.int .i64 r_20), .one (.int .i64 r_21), .one (SV.v s5)]), (33, sval [.one (.int .i64 r_7), .one (.int .i64 r_8), .one (.int .i64 r_9), .one (.int .i64 r_10), .one (SV.v s3)]), (34, .bool r_24), (35, .bool (!r_24)), (36, .bool (!r_24)), (40, .bool ((!r_24) || (r_23 != r_12))), (41, sval [.one (.int .i64 r_13), .one (.int .i64 r_14), .one (.int .i64 r_15), .one (.int .i64 r_16), .one (SV.v s4)]), (42, sval [.one (.int .i64 x1), .one (.int .i64 x2), .one (.int .i64 x3), .one (.int .i64 x4), .one (SV.v s1)]), (43, sval [.one (.int .i64 r_25), .one (.int .i64 r_26), .one (.int .i64 r_27), .one (.int .i64 r_28), .one (SV.v (gs (g1 16)))]), (44, .bool r_30), (45, .bool (!r_30)), (9, .int .i64 r_31), (46, sval [.one (.int .i64 r_13), .one (.int .i64 r_14), .one (.int .i64 r_15), .one (.int .i64 r_16), .one (SV.v s4)]), (47, .int .i64 1), (48, .int .i64 r_31), (49, .int .i64 r_31), (50, .bool (decide (r_31 < 0))), (51, .bool (decide (r_31 < 0)))]) (L' := fun _ _ => [row Ei 2 s4 l1, box b_4 24 [.one (.int .i64 r_18), .one (.int .i64 r_19), .one (.int .i64 r_20), .one (.int .i64 r_21), .one (SV.v s5)], row Ei 2 s5 r_22, box b_3 24 [.one (.int .i64 r_13), .one (.int .i64 r_14), .one (.int .i64 r_15), .one (.int .i64 r_16), .one (SV.v s4)], box b_2 24 [.one (.int .i64 r_7), .one (.int .i64 r_8), .one (.int .i64 r_9), .one (.int .i64 r_10), .one (SV.v s3)], row Ei 2 s3 r_11, row Ei 2 s2 r_6, box b_1 32 [.one (.int .i64 x1), .one (.int .i64 x2), .one (.int .i64 x3), .one (.int .i64 x4), .one (SV.v s1)], row Ei 2 (gs (g1 16)) r_29]) 5 ?_ ?_
            · refine TL.ifb (t := 51) (b := (decide (r_31 < 0))) rfl (fun c9 => ?_) (fun c10 => ?_)
              · refine TL.skip rfl rfl (by decide) ?_
                refine TL.skip rfl rfl (by decide) ?_
                refine TL.skip rfl rfl (by decide) ?_
                refine TL.skip rfl rfl (by decide) ?_
                refine TL.pick rfl rfl (b := true) rfl (r := .bool true) rfl ?_
                refine TL.done ?_
                exact TC.nrm (true) () ⟨rfl, rfl, rfl, rfl, rfl, rfl, rfl, rfl, rfl, rfl, rfl, rfl, rfl, rfl, rfl, rfl, rfl, rfl, rfl, rfl, rfl, rfl, rfl, rfl, rfl, rfl, rfl, rfl, rfl, rfl, rfl, rfl, rfl, rfl, rfl, rfl, rfl, rfl, rfl, rfl, rfl, rfl, rfl, rfl, rfl, (by rw [c9]; rfl), trivial⟩ [0, 0, 0, 0, 0, 0, 0, 0, 0] rfl
              · refine TL.loadM 0 5 (Src.box 1 rfl) Try.isAgg24 Try.sizeOf24 (mid := [.one (.int .i64 r_18), .one (.int .i64 r_19), .one (.int .i64 r_20), .one (.int .i64 r_21), .one (SV.v s5)]) rfl rfl rfl rfl rfl rfl ?_
                refine TL.loadM 0 5 (Src.box 4 rfl) Try.isAgg24 Try.sizeOf24 (mid := [.one (.int .i64 r_7), .one (.int .i64 r_8), .one (.int .i64 r_9), .one (.int .i64 r_10), .one (SV.v s3)]) rfl rfl rfl rfl rfl rfl ?_
                refine TL.call (R := G.laws_eqTensor.R) Try.call14 rfl rfl rfl (fun w hS => G.laws_eqTensor.calls w r_18 r_19 r_20 r_21 s5 r_22 r_7 r_8 r_9 r_10 s3 r_11 ((Rd.row 2 rfl) w hS) ((Rd.row 5 rfl) w hS)) ?_
                rintro r_32 _ _ ⟨rfl, rfl⟩
                refine TL.not r_32 rfl rfl rfl ?_
                refine TL.pick rfl rfl (b := false) rfl (r := .bool (!r_32)) rfl ?_
                refine TL.done ?_
                exact TC.nrm ((!r_32)) () ⟨rfl, rfl, rfl, rfl, rfl, rfl, rfl, rfl, rfl, rfl, rfl, rfl, rfl, rfl, rfl, rfl, rfl, rfl, rfl, rfl, rfl, rfl, rfl, rfl, rfl, rfl, rfl, rfl, rfl, rfl, rfl, rfl, rfl, rfl, rfl, rfl, rfl, rfl, rfl, rfl, rfl, rfl, rfl, rfl, rfl, (by rw [c10]; rfl), trivial⟩ [0, 0, 0, 0, 0, 0, 0, 0, 0] rfl
            · rintro b_5 _
              refine TL.move rfl rfl (v := .bool b_5) rfl ?_
              refine TL.cutU 4 [(61, .bool (b_5 || (r_23 != r_12))), (0, sval [.one (.int .i64 x1), .one (.int .i64 x2), .one (.int .i64 x3), .one (.int .i64 x4), .one (SV.v s1)]), (1, bp b_1 0), (2, .bool false), (3, .int .i64 r_1), (14, sval [.one (.int .i64 x1), .one (.int .i64 x2), .one (.int .i64 x3), .one (.int .i64 x4), .one (SV.v s1)]), (15, .int .i64 1048576), (16, .int .i64 r_1), (17, .int .i64 r_1), (18, .bool (decide (r_1 < 0))), (20, sval [.one (.int .i64 x1), .one (.int .i64 x2), .one (.int .i64 x3), .one (.int .i64 x4), .one (SV.v s1)]), (21, sval [.one (.int .i64 r_2), .one (.int .i64 r_3), .one (.int .i64 r_4), .one (.int .i64 r_5), .one (SV.v s2)]), (22, .tuple #[sval [.one (.int .i64 r_7), .one (.int .i64 r_8), .one (.int .i64 r_9), .one (.int .i64 r_10), .one (SV.v s3)], .int .i64 r_12]), (19, .tuple #[sval [.one (.int .i64 r_7), .one (.int .i64 r_8), .one (.int .i64 r_9), .one (.int .i64 r_10), .one (SV.v s3)], .int .i64 r_12]), (23, sval [.one (.int .i64 r_7), .one (.int .i64 r_8), .one (.int .i64 r_9), .one (.int .i64 r_10), .one (SV.v s3)]), (24, .int .i64 r_12), (4, bp b_2 0), (5, .int .i64 r_12), (25, sval [.one (.int .i64 x1), .one (.int .i64 x2), .one (.int .i64 x3), .one (.int .i64 x4), .one (SV.v s1)]), (26, sval [.one (.int .i64 r_13), .one (.int .i64 r_14), .one (.int .i64 r_15), .one (.int .i64 r_16), .one (SV.v s4)]), (6, bp b_3 0), (28, sval [.one (.int .i64 r_13), .one (.int .i64 r_14), .one (.int .i64 r_15), .one (.int .i64 r_16), .one (SV.v s4)]), (29, .tuple #[sval [.one (.int .i64 r_18), .one (.int .i64 r_19), .one (.int .i64 r_20), .one (.int .i64 r_21), .one (SV.v s5)], .int .i64 r_23]), (27, .tuple #[sval [.one (.int .i64 r_18), .one (.int .i64 r_19), .one (.int .i64 r_20), .one (.int .i64 r_21), .one (SV.v s5)], .int .i64 r_23]), (30, sval [.one (.int .i64 r_18), .one (.int .i64 r_19), .one (.int .i64 r_20), .one (.int .i64 r_21), .one (SV.v s5)]), (31, .int .i64 r_23), (7, bp b_4 0), (8, .int .i64 r_23), (32, sval [.one (.int .i64 r_18), .one (.int .i64 r_19), .one (.int .i64 r_20), .one (.int .i64 r_21), .one (SV.v s5)]), (33, sval [.one (.int .i64 r_7), .one (.int .i64 r_8), .one (.int .i64 r_9), .one (.int .i64 r_10), .one (SV.v s3)]), (34, .bool r_24), (35, .bool (!r_24)), (36, .bool (!r_24)), (40, .bool ((!r_24) || (r_23 != r_12))), (41, sval [.one (.int .i64 r_13), .one (.int .i64 r_14), .one (.int .i64 r_15), .one (.int .i64 r_16), .one (SV.v s4)]), (42, sval [.one (.int .i64 x1), .one (.int .i64 x2), .one (.int .i64 x3), .one (.int .i64 x4), .one (SV.v s1)]), (43, sval [.one (.int .i64 r_25), .one (.int .i64 r_26), .one (.int .i64 r_27), .one (.int .i64 r_28), .one (SV.v (gs (g1 16)))]), (44, .bool r_30), (45, .bool (!r_30)), (9, .int .i64 r_31), (46, sval [.one (.int .i64 r_13), .one (.int .i64 r_14), .one (.int .i64 r_15), .one (.int .i64 r_16), .one (SV.v s4)]), (47, .int .i64 1), (48, .int .i64 r_31), (49, .int .i64 r_31), (50, .bool (decide (r_31 < 0))), (51, .bool (decide (r_31 < 0))), (56, .bool b_5), (57, .bool b_5)] [row Ei 2 s4 l1, box b_4 24 [.one (.int .i64 r_18), .one (.int .i64 r_19), .one (.int .i64 r_20), .one (.int .i64 r_21), .one (SV.v s5)], row Ei 2 s5 r_22, box b_3 24 [.one (.int .i64 r_13), .one (.int .i64 r_14), .one (.int .i64 r_15), .one (.int .i64 r_16), .one (SV.v s4)], box b_2 24 [.one (.int .i64 r_7), .one (.int .i64 r_8), .one (.int .i64 r_9), .one (.int .i64 r_10), .one (SV.v s3)], row Ei 2 s3 r_11, row Ei 2 s2 r_6, box b_1 32 [.one (.int .i64 x1), .one (.int .i64 x2), .one (.int .i64 x3), .one (.int .i64 x4), .one (SV.v s1)], row Ei 2 (gs (g1 16)) r_29] ?_ ?_
              · refine TL.cases (t := 57) (b := b_5) rfl (fun c11 => ?_) (fun c12 => ?_)
                · refine TL.skip rfl rfl (by decide) ?_
                  refine TL.skip rfl rfl (by decide) ?_
                  refine TL.skip rfl rfl (by decide) ?_
                  refine TL.pick rfl rfl (b := true) rfl (r := .bool true) rfl ?_
                  refine TL.done ?_
                  exact TC.nrm () () ⟨(by rw [c11]; rfl), rfl, rfl, rfl, rfl, rfl, rfl, rfl, rfl, rfl, rfl, rfl, rfl, rfl, rfl, rfl, rfl, rfl, rfl, rfl, rfl, rfl, rfl, rfl, rfl, rfl, rfl, rfl, rfl, rfl, rfl, rfl, rfl, rfl, rfl, rfl, rfl, rfl, rfl, rfl, rfl, rfl, rfl, rfl, rfl, rfl, rfl, (by rw [c11]; rfl), trivial⟩ [0, 0, 0, 0, 0, 0, 0, 0, 0] rfl
                · refine TL.move rfl rfl (v := .int .i64 r_23) rfl ?_
                  refine TL.move rfl rfl (v := .int .i64 r_12) rfl ?_
                  refine TL.bin .i64 r_23 r_12 rfl rfl rfl rfl (v := .bool (r_23 != r_12)) rfl ?_
                  refine TL.pick rfl rfl (b := false) rfl (r := .bool (r_23 != r_12)) rfl ?_
                  refine TL.done ?_
                  exact TC.nrm () () ⟨(by rw [c12]; rfl), rfl, rfl, rfl, rfl, rfl, rfl, rfl, rfl, rfl, rfl, rfl, rfl, rfl, rfl, rfl, rfl, rfl, rfl, rfl, rfl, rfl, rfl, rfl, rfl, rfl, rfl, rfl, rfl, rfl, rfl, rfl, rfl, rfl, rfl, rfl, rfl, rfl, rfl, rfl, rfl, rfl, rfl, rfl, rfl, rfl, rfl, (by rw [c12]; rfl), trivial⟩ [0, 0, 0, 0, 0, 0, 0, 0, 0] rfl
              · refine TL.done ?_
                refine TC.cond (b := (b_5 || (r_23 != r_12))) rfl (fun c13 => ?_) (fun c14 => ?_)
                · refine TC.seq ?_
                  refine TC.region ?_
                  refine TL.assign rfl rfl (v := .bool false) rfl ?_
                  refine TL.done ?_
                  exact TC.retF (Fin.body (fin1 (.inr rfl) rfl (.tmp rfl) [] rfl ⟨rfl, rfl⟩))
                · refine TC.skip ?_
                  refine TC.seq ?_
                  refine TC.region ?_
                  refine TL.assign rfl rfl (v := .int .i64 1) rfl ?_
                  refine TL.done ?_
                  refine TC.seq ?_
                  refine TC.region ?_
                  refine TL.loadM 0 5 (Src.box 1 rfl) Try.isAgg24 Try.sizeOf24 (mid := [.one (.int .i64 r_18), .one (.int .i64 r_19), .one (.int .i64 r_20), .one (.int .i64 r_21), .one (SV.v s5)]) rfl rfl rfl rfl rfl rfl ?_
                  refine TL.move rfl rfl (v := .int .i64 1) rfl ?_
                  refine TL.callX (R := G.laws_markTensor.R s5) [2, 0, 0, 0, 0, 0, 0, 0, 0] [row Ei 2 s5 r_22] [row Ei 2 s4 l1, box b_4 24 [.one (.int .i64 r_18), .one (.int .i64 r_19), .one (.int .i64 r_20), .one (.int .i64 r_21), .one (SV.v s5)], box b_3 24 [.one (.int .i64 r_13), .one (.int .i64 r_14), .one (.int .i64 r_15), .one (.int .i64 r_16), .one (SV.v s4)], box b_2 24 [.one (.int .i64 r_7), .one (.int .i64 r_8), .one (.int .i64 r_9), .one (.int .i64 r_10), .one (SV.v s3)], row Ei 2 s3 r_11, row Ei 2 s2 r_6, box b_1 32 [.one (.int .i64 x1), .one (.int .i64 x2), .one (.int .i64 x3), .one (.int .i64 x4), .one (SV.v s1)], row Ei 2 (gs (g1 16)) r_29] rfl Try.call15 rfl rfl rfl (fun w I_ hle hB hS => G.laws_markTensor.calls _ I_ w r_18 r_19 r_20 r_21 s5 r_22 1 hS) ?_
                  rintro ⟨r_33, l2⟩ _ _ ⟨rfl, rfl⟩
                  refine TL.assign rfl rfl (v := .int .i64 r_33) rfl ?_
                  refine TL.done ?_
                  refine TC.seq ?_
                  refine TC.region ?_
                  refine TL.assign rfl rfl (v := .int .i64 1) rfl ?_
                  refine TL.done ?_
                  refine TC.seq ?_
                  refine TC.region ?_
                  refine TL.loadM 0 5 (Src.box 2 rfl) Try.isAgg24 Try.sizeOf24 (mid := [.one (.int .i64 r_18), .one (.int .i64 r_19), .one (.int .i64 r_20), .one (.int .i64 r_21), .one (SV.v s5)]) rfl rfl rfl rfl rfl rfl ?_
                  refine TL.move rfl rfl (v := .int .i64 1) rfl ?_
                  refine TL.call (R := G.laws_heldTensor.R) Try.call16 rfl rfl rfl (fun w hS => G.laws_heldTensor.calls w r_18 r_19 r_20 r_21 s5 l2 1 ((Rd.row 0 rfl) w hS)) ?_
                  rintro r_34 _ _ ⟨rfl, rfl⟩
                  refine TL.assign rfl rfl (v := .int .i64 r_34) rfl ?_
                  refine TL.done ?_
                  refine TC.seq ?_
                  refine TC.seq ?_
                  refine TC.region ?_
                  refine TL.move rfl rfl (v := .int .i64 r_34) rfl ?_
                  refine TL.bin .i64 r_34 0 rfl rfl rfl rfl (v := .bool (decide (r_34 < 0))) rfl ?_
                  refine TL.done ?_
                  refine TC.cond (b := (decide (r_34 < 0))) rfl (fun c15 => ?_) (fun c16 => ?_)
                  · refine TC.seq ?_
                    refine TC.region ?_
                    refine TL.assign rfl rfl (v := .bool false) rfl ?_
                    refine TL.done ?_
                    exact TC.retF (Fin.body (fin1 (.inr rfl) rfl (.tmp rfl) [] rfl ⟨rfl, rfl⟩))
                  · refine TC.skip ?_
                    refine TC.seq ?_
                    refine TC.seq ?_
                    refine TC.region ?_
                    refine TL.move rfl rfl (v := .int .i64 r_34) rfl ?_
                    refine TL.move rfl rfl (v := .int .i64 r_33) rfl ?_
                    refine TL.bin .i64 r_34 r_33 rfl rfl rfl rfl (v := .bool (r_34 != r_33)) rfl ?_
                    refine TL.done ?_
                    refine TC.cond (b := (r_34 != r_33)) rfl (fun c17 => ?_) (fun c18 => ?_)
                    · refine TC.seq ?_
                      refine TC.region ?_
                      refine TL.assign rfl rfl (v := .bool false) rfl ?_
                      refine TL.done ?_
                      exact TC.retF (Fin.body (fin1 (.inr rfl) rfl (.tmp rfl) [] rfl ⟨rfl, rfl⟩))
                    · refine TC.skip ?_
                      refine TC.seq ?_
                      refine TC.region ?_
                      refine TL.loadM 0 5 (Src.box 7 rfl) Try.isAgg32 Try.sizeOf32 (mid := [.one (.int .i64 x1), .one (.int .i64 x2), .one (.int .i64 x3), .one (.int .i64 x4), .one (SV.v s1)]) rfl rfl rfl rfl rfl rfl ?_
                      refine TL.call (R := G.laws_toTensor.R) Try.call21 rfl rfl rfl (fun w hS => G.laws_toTensor.calls w x1 x2 x3 x4 s1 x5 ((Rd.old h1) w hS)) ?_
                      rintro ⟨r_35, r_36, r_37, r_38, r_39⟩ _ _ ⟨s7, rfl, rfl⟩
                      refine TL.call (R := G.impl_CloseTensor.R) Try.call22 rfl rfl rfl (fun w hS => G.impl_CloseTensor.calls w r_35 r_36 r_37 r_38 s7 r_39 ((Rd.row 0 rfl) w hS)) ?_
                      rintro ⟨r_40, r_41, r_42, r_43, r_44, r_45⟩ _ _ ⟨s8, rfl, rfl⟩
                      refine TL.move rfl rfl (v := .tuple #[sval [.one (.int .i64 r_40), .one (.int .i64 r_41), .one (.int .i64 r_42), .one (.int .i64 r_43), .one (SV.v s8)], .int .i64 r_45]) rfl ?_
                      refine TL.extract rfl rfl rfl (v := sval [.one (.int .i64 r_40), .one (.int .i64 r_41), .one (.int .i64 r_42), .one (.int .i64 r_43), .one (SV.v s8)]) rfl ?_
                      refine TL.extract rfl rfl rfl (v := .int .i64 r_45) rfl ?_
                      refine TL.alloc [.one (.int .i64 0), .one (.int .i64 0), .one (.int .i64 0), .one (.int .i64 0), .one (SV.v ⟨none, 0, 0⟩)] rfl rfl Try.zeroValue24 rfl fun b_6 => ?_
                      refine TL.stM (news := [.one (.int .i64 r_40), .one (.int .i64 r_41), .one (.int .i64 r_42), .one (.int .i64 r_43), .one (SV.v s8)]) 0 0 5 rfl Try.sizeOf24 (ones_one rfl (ones_one rfl (ones_one rfl (ones_one rfl (ones_one rfl ones_nil))))) rfl rfl rfl rfl rfl rfl ?_
                      refine TL.assign rfl rfl (v := .int .i64 r_45) rfl ?_
                      refine TL.done ?_
                      refine TC.seq ?_
                      refine TC.seq ?_
                      refine TC.region ?_
                      refine TL.loadM 0 5 (Src.box 0 rfl) Try.isAgg24 Try.sizeOf24 (mid := [.one (.int .i64 r_40), .one (.int .i64 r_41), .one (.int .i64 r_42), .one (.int .i64 r_43), .one (SV.v s8)]) rfl rfl rfl rfl rfl rfl ?_
                      refine TL.loadM 0 5 (Src.box 7 rfl) Try.isAgg24 Try.sizeOf24 (mid := [.one (.int .i64 r_7), .one (.int .i64 r_8), .one (.int .i64 r_9), .one (.int .i64 r_10), .one (SV.v s3)]) rfl rfl rfl rfl rfl rfl ?_
                      refine TL.call (R := G.laws_eqTensor.R) Try.call14 rfl rfl rfl (fun w hS => G.laws_eqTensor.calls w r_40 r_41 r_42 r_43 s8 r_44 r_7 r_8 r_9 r_10 s3 r_11 ((Rd.row 1 rfl) w hS) ((Rd.row 8 rfl) w hS)) ?_
                      rintro r_46 _ _ ⟨rfl, rfl⟩
                      refine TL.not r_46 rfl rfl rfl ?_
                      refine TL.move rfl rfl (v := .bool (!r_46)) rfl ?_
                      refine TL.cutU 4 [(87, .bool ((!r_46) || (r_45 != r_12))), (0, sval [.one (.int .i64 x1), .one (.int .i64 x2), .one (.int .i64 x3), .one (.int .i64 x4), .one (SV.v s1)]), (1, bp b_1 0), (2, .bool false), (3, .int .i64 r_1), (14, sval [.one (.int .i64 x1), .one (.int .i64 x2), .one (.int .i64 x3), .one (.int .i64 x4), .one (SV.v s1)]), (15, .int .i64 1048576), (16, .int .i64 r_1), (17, .int .i64 r_1), (18, .bool (decide (r_1 < 0))), (20, sval [.one (.int .i64 x1), .one (.int .i64 x2), .one (.int .i64 x3), .one (.int .i64 x4), .one (SV.v s1)]), (21, sval [.one (.int .i64 r_2), .one (.int .i64 r_3), .one (.int .i64 r_4), .one (.int .i64 r_5), .one (SV.v s2)]), (22, .tuple #[sval [.one (.int .i64 r_7), .one (.int .i64 r_8), .one (.int .i64 r_9), .one (.int .i64 r_10), .one (SV.v s3)], .int .i64 r_12]), (19, .tuple #[sval [.one (.int .i64 r_7), .one (.int .i64 r_8), .one (.int .i64 r_9), .one (.int .i64 r_10), .one (SV.v s3)], .int .i64 r_12]), (23, sval [.one (.int .i64 r_7), .one (.int .i64 r_8), .one (.int .i64 r_9), .one (.int .i64 r_10), .one (SV.v s3)]), (24, .int .i64 r_12), (4, bp b_2 0), (5, .int .i64 r_12), (25, sval [.one (.int .i64 x1), .one (.int .i64 x2), .one (.int .i64 x3), .one (.int .i64 x4), .one (SV.v s1)]), (26, sval [.one (.int .i64 r_13), .one (.int .i64 r_14), .one (.int .i64 r_15), .one (.int .i64 r_16), .one (SV.v s4)]), (6, bp b_3 0), (28, sval [.one (.int .i64 r_13), .one (.int .i64 r_14), .one (.int .i64 r_15), .one (.int .i64 r_16), .one (SV.v s4)]), (29, .tuple #[sval [.one (.int .i64 r_18), .one (.int .i64 r_19), .one (.int .i64 r_20), .one (.int .i64 r_21), .one (SV.v s5)], .int .i64 r_23]), (27, .tuple #[sval [.one (.int .i64 r_18), .one (.int .i64 r_19), .one (.int .i64 r_20), .one (.int .i64 r_21), .one (SV.v s5)], .int .i64 r_23]), (30, sval [.one (.int .i64 r_18), .one (.int .i64 r_19), .one (.int .i64 r_20), .one (.int .i64 r_21), .one (SV.v s5)]), (31, .int .i64 r_23), (7, bp b_4 0), (8, .int .i64 r_23), (32, sval [.one (.int .i64 r_18), .one (.int .i64 r_19), .one (.int .i64 r_20), .one (.int .i64 r_21), .one (SV.v s5)]), (33, sval [.one (.int .i64 r_7), .one (.int .i64 r_8), .one (.int .i64 r_9), .one (.int .i64 r_10), .one (SV.v s3)]), (34, .bool r_24), (35, .bool (!r_24)), (36, .bool (!r_24)), (40, .bool ((!r_24) || (r_23 != r_12))), (41, sval [.one (.int .i64 r_13), .one (.int .i64 r_14), .one (.int .i64 r_15), .one (.int .i64 r_16), .one (SV.v s4)]), (42, sval [.one (.int .i64 x1), .one (.int .i64 x2), .one (.int .i64 x3), .one (.int .i64 x4), .one (SV.v s1)]), (43, sval [.one (.int .i64 r_25), .one (.int .i64 r_26), .one (.int .i64 r_27), .one (.int .i64 r_28), .one (SV.v (gs (g1 16)))]), (44, .bool r_30), (45, .bool (!r_30)), (9, .int .i64 r_31), (46, sval [.one (.int .i64 r_13), .one (.int .i64 r_14), .one (.int .i64 r_15), .one (.int .i64 r_16), .one (SV.v s4)]), (47, .int .i64 1), (48, .int .i64 r_31), (49, .int .i64 r_31), (50, .bool (decide (r_31 < 0))), (51, .bool (decide (r_31 < 0))), (56, .bool b_5), (57, .bool b_5), (61, .bool (b_5 || (r_23 != r_12))), (10, .int .i64 r_33), (62, sval [.one (.int .i64 r_18), .one (.int .i64 r_19), .one (.int .i64 r_20), .one (.int .i64 r_21), .one (SV.v s5)]), (63, .int .i64 1), (64, .int .i64 r_33), (11, .int .i64 r_34), (65, sval [.one (.int .i64 r_18), .one (.int .i64 r_19), .one (.int .i64 r_20), .one (.int .i64 r_21), .one (SV.v s5)]), (66, .int .i64 1), (67, .int .i64 r_34), (68, .int .i64 r_34), (69, .bool (decide (r_34 < 0))), (70, .int .i64 r_34), (71, .int .i64 r_33), (72, .bool (r_34 != r_33)), (74, sval [.one (.int .i64 x1), .one (.int .i64 x2), .one (.int .i64 x3), .one (.int .i64 x4), .one (SV.v s1)]), (75, sval [.one (.int .i64 r_35), .one (.int .i64 r_36), .one (.int .i64 r_37), .one (.int .i64 r_38), .one (SV.v s7)]), (76, .tuple #[sval [.one (.int .i64 r_40), .one (.int .i64 r_41), .one (.int .i64 r_42), .one (.int .i64 r_43), .one (SV.v s8)], .int .i64 r_45]), (73, .tuple #[sval [.one (.int .i64 r_40), .one (.int .i64 r_41), .one (.int .i64 r_42), .one (.int .i64 r_43), .one (SV.v s8)], .int .i64 r_45]), (77, sval [.one (.int .i64 r_40), .one (.int .i64 r_41), .one (.int .i64 r_42), .one (.int .i64 r_43), .one (SV.v s8)]), (78, .int .i64 r_45), (12, bp b_6 0), (13, .int .i64 r_45), (79, sval [.one (.int .i64 r_40), .one (.int .i64 r_41), .one (.int .i64 r_42), .one (.int .i64 r_43), .one (SV.v s8)]), (80, sval [.one (.int .i64 r_7), .one (.int .i64 r_8), .one (.int .i64 r_9), .one (.int .i64 r_10), .one (SV.v s3)]), (81, .bool r_46), (82, .bool (!r_46)), (83, .bool (!r_46))] [box b_6 24 [.one (.int .i64 r_40), .one (.int .i64 r_41), .one (.int .i64 r_42), .one (.int .i64 r_43), .one (SV.v s8)], row Ei 2 s8 r_44, row Ei 2 s7 r_39, row Ei 2 s5 l2, row Ei 2 s4 l1, box b_4 24 [.one (.int .i64 r_18), .one (.int .i64 r_19), .one (.int .i64 r_20), .one (.int .i64 r_21), .one (SV.v s5)], box b_3 24 [.one (.int .i64 r_13), .one (.int .i64 r_14), .one (.int .i64 r_15), .one (.int .i64 r_16), .one (SV.v s4)], box b_2 24 [.one (.int .i64 r_7), .one (.int .i64 r_8), .one (.int .i64 r_9), .one (.int .i64 r_10), .one (SV.v s3)], row Ei 2 s3 r_11, row Ei 2 s2 r_6, box b_1 32 [.one (.int .i64 x1), .one (.int .i64 x2), .one (.int .i64 x3), .one (.int .i64 x4), .one (SV.v s1)], row Ei 2 (gs (g1 16)) r_29] ?_ ?_
                      · refine TL.cases (t := 83) (b := (!r_46)) rfl (fun c19 => ?_) (fun c20 => ?_)
                        · refine TL.skip rfl rfl (by decide) ?_
                          refine TL.skip rfl rfl (by decide) ?_
                          refine TL.skip rfl rfl (by decide) ?_
                          refine TL.pick rfl rfl (b := true) rfl (r := .bool true) rfl ?_
                          refine TL.done ?_
                          exact TC.nrm () () ⟨(by rw [c19]; rfl), rfl, rfl, rfl, rfl, rfl, rfl, rfl, rfl, rfl, rfl, rfl, rfl, rfl, rfl, rfl, rfl, rfl, rfl, rfl, rfl, rfl, rfl, rfl, rfl, rfl, rfl, rfl, rfl, rfl, rfl, rfl, rfl, rfl, rfl, rfl, rfl, rfl, rfl, rfl, rfl, rfl, rfl, rfl, rfl, rfl, rfl, rfl, rfl, rfl, rfl, rfl, rfl, rfl, rfl, rfl, rfl, rfl, rfl, rfl, rfl, rfl, rfl, rfl, rfl, rfl, rfl, rfl, rfl, rfl, rfl, rfl, rfl, rfl, (by rw [c19]; rfl), trivial⟩ [0, 0, 0, 0, 0, 0, 0, 0, 0, 0, 0, 0] rfl
                        · refine TL.move rfl rfl (v := .int .i64 r_45) rfl ?_
                          refine TL.move rfl rfl (v := .int .i64 r_12) rfl ?_
                          refine TL.bin .i64 r_45 r_12 rfl rfl rfl rfl (v := .bool (r_45 != r_12)) rfl ?_
                          refine TL.pick rfl rfl (b := false) rfl (r := .bool (r_45 != r_12)) rfl ?_
                          refine TL.done ?_
                          exact TC.nrm () () ⟨(by rw [c20]; rfl), rfl, rfl, rfl, rfl, rfl, rfl, rfl, rfl, rfl, rfl, rfl, rfl, rfl, rfl, rfl, rfl, rfl, rfl, rfl, rfl, rfl, rfl, rfl, rfl, rfl, rfl, rfl, rfl, rfl, rfl, rfl, rfl, rfl, rfl, rfl, rfl, rfl, rfl, rfl, rfl, rfl, rfl, rfl, rfl, rfl, rfl, rfl, rfl, rfl, rfl, rfl, rfl, rfl, rfl, rfl, rfl, rfl, rfl, rfl, rfl, rfl, rfl, rfl, rfl, rfl, rfl, rfl, rfl, rfl, rfl, rfl, rfl, rfl, (by rw [c20]; rfl), trivial⟩ [0, 0, 0, 0, 0, 0, 0, 0, 0, 0, 0, 0] rfl
                      · refine TL.done ?_
                        refine TC.cond (b := ((!r_46) || (r_45 != r_12))) rfl (fun c21 => ?_) (fun c22 => ?_)
                        · refine TC.seq ?_
                          refine TC.region ?_
                          refine TL.assign rfl rfl (v := .bool false) rfl ?_
                          refine TL.done ?_
                          exact TC.retF (Fin.body (fin1 (.inr rfl) rfl (.tmp rfl) [] rfl ⟨rfl, rfl⟩))
                        · refine TC.skip ?_
                          refine TC.seq ?_
                          refine TC.region ?_
                          refine TL.assign rfl rfl (v := .int .i64 1) rfl ?_
                          refine TL.done ?_
                          refine TC.seq ?_
                          refine TC.region ?_
                          refine TL.loadM 0 5 (Src.box 5 rfl) Try.isAgg24 Try.sizeOf24 (mid := [.one (.int .i64 r_18), .one (.int .i64 r_19), .one (.int .i64 r_20), .one (.int .i64 r_21), .one (SV.v s5)]) rfl rfl rfl rfl rfl rfl ?_
                          refine TL.move rfl rfl (v := .int .i64 1) rfl ?_
                          refine TL.call (R := G.laws_heldTensor.R) Try.call16 rfl rfl rfl (fun w hS => G.laws_heldTensor.calls w r_18 r_19 r_20 r_21 s5 l2 1 ((Rd.row 3 rfl) w hS)) ?_
                          rintro r_47 _ _ ⟨rfl, rfl⟩
                          refine TL.assign rfl rfl (v := .int .i64 r_47) rfl ?_
                          refine TL.done ?_
                          refine TC.seq ?_
                          refine TC.seq ?_
                          refine TC.region ?_
                          refine TL.move rfl rfl (v := .int .i64 r_47) rfl ?_
                          refine TL.bin .i64 r_47 0 rfl rfl rfl rfl (v := .bool (decide (r_47 < 0))) rfl ?_
                          refine TL.done ?_
                          refine TC.cond (b := (decide (r_47 < 0))) rfl (fun c23 => ?_) (fun c24 => ?_)
                          · refine TC.seq ?_
                            refine TC.region ?_
                            refine TL.assign rfl rfl (v := .bool false) rfl ?_
                            refine TL.done ?_
                            exact TC.retF (Fin.body (fin1 (.inr rfl) rfl (.tmp rfl) [] rfl ⟨rfl, rfl⟩))
                          · refine TC.skip ?_
                            refine TC.seq ?_
                            refine TC.seq ?_
                            refine TC.region ?_
                            refine TL.move rfl rfl (v := .int .i64 r_47) rfl ?_
                            refine TL.move rfl rfl (v := .int .i64 r_33) rfl ?_
                            refine TL.bin .i64 r_47 r_33 rfl rfl rfl rfl (v := .bool (r_47 != r_33)) rfl ?_
                            refine TL.done ?_
                            refine TC.cond (b := (r_47 != r_33)) rfl (fun c25 => ?_) (fun c26 => ?_)
                            · refine TC.seq ?_
                              refine TC.region ?_
                              refine TL.assign rfl rfl (v := .bool false) rfl ?_
                              refine TL.done ?_
                              exact TC.retF (Fin.body (fin1 (.inr rfl) rfl (.tmp rfl) [] rfl ⟨rfl, rfl⟩))
                            · refine TC.skip ?_
                              refine TC.seq ?_
                              refine TC.region ?_
                              refine TL.assign rfl rfl (v := .bool true) rfl ?_
                              refine TL.done ?_
                              exact TC.retF (Fin.body (fin1 (.inr rfl) rfl (.tmp rfl) [] rfl ⟨rfl, rfl⟩))

end Go.Proofs.Ytjjfoofjipafiaa.G

/- spec.l01Mod, as a pure function. -/
set_option linter.unusedVariables false
namespace Go.Proofs.Ytjjfoofjipafiaa.G
open Go Go.Sx Go.Proofs

def spec_l01Mod.f (p1 : Int) (x1 : Int) : Option Int := nz p1 (some (Int.tmod (w64 ((Int.tmod x1 p1) + p1)) p1))

def spec_l01Mod.R (r : Int) (v : Value) (L : List Asn) : Prop := v = .int .i64 r ∧ L = []

set_option maxRecDepth 100000 in
set_option maxHeartbeats 4000000 in
theorem spec_l01Mod.calls (w : World) (p1 : Int) (x1 : Int) :
    ∀ r, spec_l01Mod.f p1 x1 = some r → Calls Try.prog 146 #[.int .i64 p1, .int .i64 x1] w (Ret w (spec_l01Mod.R r)) := by

  refine calls_T (n := 12) (Γ := [(0, .int .i64 p1), (1, .int .i64 x1)]) (R := spec_l01Mod.R) Try.func146 rfl rfl (Nat.le_of_ble_eq_true rfl) ⟨rfl, rfl, trivial⟩ ?_
  unfold spec_l01Mod.f
  refine TC.seq ?_
  refine TC.region ?_
  refine TL.assign rfl rfl (v := .int .i64 0) rfl ?_
  refine TL.done ?_
  refine TC.seq ?_
  refine TC.region ?_
  refine TL.move rfl rfl (v := .int .i64 x1) rfl ?_
  refine TL.move rfl rfl (v := .int .i64 p1) rfl ?_
  refine TL.nz fun z1 => ?_
  refine TL.rem .i64 x1 p1 z1 rfl rfl rfl rfl ?_
  refine TL.move rfl rfl (v := .int .i64 p1) rfl ?_
  refine TL.bin .i64 (Int.tmod x1 p1) p1 rfl rfl rfl rfl (v := .int .i64 (w64 ((Int.tmod x1 p1) + p1))) rfl ?_
  refine TL.move rfl rfl (v := .int .i64 p1) rfl ?_
  refine TL.rem .i64 (w64 ((Int.tmod x1 p1) + p1)) p1 z1 rfl rfl rfl rfl ?_
  refine TL.assign rfl rfl (v := .int .i64 (Int.tmod (w64 ((Int.tmod x1 p1) + p1)) p1)) rfl ?_
  refine TL.done ?_
  exact TC.retF (Fin.body (fin1 (.inr rfl) rfl (.tmp rfl) [] rfl ⟨rfl, rfl⟩))

end Go.Proofs.Ytjjfoofjipafiaa.G

/- spec.l03Sizes, as a pure function. -/
set_option linter.unusedVariables false
namespace Go.Proofs.Ytjjfoofjipafiaa.G
open Go Go.Sx Go.Proofs

def spec_l03Sizes.f (p1 : Int) (n_1 : Int) (in_1 : Int) (out1 : Int) : Option Int := (G.spec_l01Prime.f p1).bind (fun r_1 => (bif (!r_1) then some true else (G.spec_l01In.f n_1 1 6).bind (fun r_2 => some (!r_2))).bind (fun b_1 => (bif b_1 then some 2 else (bif ((decide (in_1 > 8)) || (decide (out1 > 8))) then some true else (G.spec_l03Power.f n_1 (w64 (in_1 + out1))).bind (fun r_3 => some (decide (r_3 > 1296)))).bind (fun b_2 => (bif b_2 then some 3 else some 0)))))

def spec_l03Sizes.R (r : Int) (v : Value) (L : List Asn) : Prop := v = .int .i64 r ∧ L = []

set_option maxRecDepth 100000 in
set_option maxHeartbeats 4000000 in
theorem spec_l03Sizes.calls (w : World) (p1 : Int) (n_1 : Int) (in_1 : Int) (out1 : Int) :
    ∀ r, spec_l03Sizes.f p1 n_1 in_1 out1 = some r → Calls Try.prog 44 #[.int .i64 p1, .int .i64 n_1, .int .i64 in_1, .int .i64 out1] w (Ret w (spec_l03Sizes.R r)) := by

  refine calls_T (n := 33) (Γ := [(0, .int .i64 p1), (1, .int .i64 n_1), (2, .int .i64 in_1), (3, .int .i64 out1)]) (R := spec_l03Sizes.R) Try.func44 rfl rfl (Nat.le_of_ble_eq_true rfl) ⟨rfl, rfl, rfl, rfl, trivial⟩ ?_
  unfold spec_l03Sizes.f
  refine TC.seq ?_
  refine TC.region ?_
  refine TL.assign rfl rfl (v := .int .i64 0) rfl ?_
  refine TL.done ?_
  refine TC.seq ?_
  refine TC.block NoEx.body ?_
  refine TC.seq ?_
  refine TC.region ?_
  refine TL.move rfl rfl (v := .int .i64 p1) rfl ?_
  refine TL.call (R := G.spec_l01Prime.R) Try.call82 rfl rfl rfl (fun w hS => G.spec_l01Prime.calls w p1) ?_
  rintro r_1 _ _ ⟨rfl, rfl⟩
  refine TL.not r_1 rfl rfl rfl ?_
  refine TL.move rfl rfl (v := .bool (!r_1)) rfl ?_
  refine TL.cutJ (σ := Bool) (γ := Unit) (Γ' := fun b_1 _ => [(17, .bool b_1), (0, .int .i64 p1), (1, .int .i64 n_1), (2, .int .i64 in_1), (3, .int .i64 out1), (8, .int .i64 0), (10, .int .i64 p1), (11, .bool r_1), (12, .bool (!r_1)), (13, .bool (!r_1))]) (L' := fun _ _ => []) 4 ?_ ?_
  · refine TL.ifb (t := 13) (b := (!r_1)) rfl (fun c1 => ?_) (fun c2 => ?_)
    · refine TL.skip rfl rfl (by decide) ?_
      refine TL.skip rfl rfl (by decide) ?_
      refine TL.skip rfl rfl (by decide) ?_
      refine TL.pick rfl rfl (b := true) rfl (r := .bool true) rfl ?_
      refine TL.done ?_
      exact TC.nrm (true) () ⟨rfl, rfl, rfl, rfl, rfl, rfl, rfl, rfl, rfl, (by rw [c1]; rfl), trivial⟩ [] rfl
    · refine TL.move rfl rfl (v := .int .i64 n_1) rfl ?_
      refine TL.call (R := G.spec_l01In.R) Try.call49 rfl rfl rfl (fun w hS => G.spec_l01In.calls w n_1 1 6) ?_
      rintro r_2 _ _ ⟨rfl, rfl⟩
      refine TL.not r_2 rfl rfl rfl ?_
      refine TL.pick rfl rfl (b := false) rfl (r := .bool (!r_2)) rfl ?_
      refine TL.done ?_
      exact TC.nrm ((!r_2)) () ⟨rfl, rfl, rfl, rfl, rfl, rfl, rfl, rfl, rfl, (by rw [c2]; rfl), trivial⟩ [] rfl
  · rintro b_1 _
    refine TL.assign rfl rfl (v := .bool b_1) rfl ?_
    refine TL.done ?_
    refine TC.cond (b := b_1) rfl (fun c3 => ?_) (fun c4 => ?_)
    · refine TC.seq ?_
      refine TC.region ?_
      refine TL.assign rfl rfl (v := .int .i64 2) rfl ?_
      refine TL.done ?_
      exact TC.retF (Fin.body (fin1 (.inr rfl) rfl (.tmp rfl) [] rfl ⟨rfl, rfl⟩))
    · refine TC.seq ?_
      refine TC.region ?_
      refine TL.move rfl rfl (v := .int .i64 in_1) rfl ?_
      refine TL.bin .i64 in_1 8 rfl rfl rfl rfl (v := .bool (decide (in_1 > 8))) rfl ?_
      refine TL.move rfl rfl (v := .bool (decide (in_1 > 8))) rfl ?_
      refine TL.cutU 3 [(24, .bool ((decide (in_1 > 8)) || (decide (out1 > 8)))), (0, .int .i64 p1), (1, .int .i64 n_1), (2, .int .i64 in_1), (3, .int .i64 out1), (8, .int .i64 0), (10, .int .i64 p1), (11, .bool r_1), (12, .bool (!r_1)), (13, .bool (!r_1)), (17, .bool b_1), (9, .bool b_1), (19, .int .i64 in_1), (20, .bool (decide (in_1 > 8))), (21, .bool (decide (in_1 > 8)))] [] ?_ ?_
      · refine TL.cases (t := 21) (b := (decide (in_1 > 8))) rfl (fun c5 => ?_) (fun c6 => ?_)
        · refine TL.skip rfl rfl (by decide) ?_
          refine TL.skip rfl rfl (by decide) ?_
          refine TL.pick rfl rfl (b := true) rfl (r := .bool true) rfl ?_
          refine TL.done ?_
          exact TC.nrm () () ⟨(by rw [c5]; rfl), rfl, rfl, rfl, rfl, rfl, rfl, rfl, rfl, rfl, rfl, rfl, rfl, rfl, (by rw [c5]; rfl), trivial⟩ [] rfl
        · refine TL.move rfl rfl (v := .int .i64 out1) rfl ?_
          refine TL.bin .i64 out1 8 rfl rfl rfl rfl (v := .bool (decide (out1 > 8))) rfl ?_
          refine TL.pick rfl rfl (b := false) rfl (r := .bool (decide (out1 > 8))) rfl ?_
          refine TL.done ?_
          exact TC.nrm () () ⟨(by rw [c6]; rfl), rfl, rfl, rfl, rfl, rfl, rfl, rfl, rfl, rfl, rfl, rfl, rfl, rfl, (by rw [c6]; rfl), trivial⟩ [] rfl
      · refine TL.move rfl rfl (v := .bool ((decide (in_1 > 8)) || (decide (out1 > 8)))) rfl ?_
        refine TL.cutJ (σ := Bool) (γ := Unit) (Γ' := fun b_2 _ => [(32, .bool b_2), (0, .int .i64 p1), (1, .int .i64 n_1), (2, .int .i64 in_1), (3, .int .i64 out1), (8, .int .i64 0), (10, .int .i64 p1), (11, .bool r_1), (12, .bool (!r_1)), (13, .bool (!r_1)), (17, .bool b_1), (9, .bool b_1), (19, .int .i64 in_1), (20, .bool (decide (in_1 > 8))), (21, .bool (decide (in_1 > 8))), (24, .bool ((decide (in_1 > 8)) || (decide (out1 > 8)))), (25, .bool ((decide (in_1 > 8)) || (decide (out1 > 8))))]) (L' := fun _ _ => []) 7 ?_ ?_
        · refine TL.ifb (t := 25) (b := ((decide (in_1 > 8)) || (decide (out1 > 8)))) rfl (fun c7 => ?_) (fun c8 => ?_)
          · refine TL.skip rfl rfl (by decide) ?_
            refine TL.skip rfl rfl (by decide) ?_
            refine TL.skip rfl rfl (by decide) ?_
            refine TL.skip rfl rfl (by decide) ?_
            refine TL.skip rfl rfl (by decide) ?_
            refine TL.skip rfl rfl (by decide) ?_
            refine TL.pick rfl rfl (b := true) rfl (r := .bool true) rfl ?_
            refine TL.done ?_
            exact TC.nrm (true) () ⟨rfl, rfl, rfl, rfl, rfl, rfl, rfl, rfl, rfl, rfl, rfl, rfl, rfl, rfl, rfl, rfl, (by rw [c7]; rfl), trivial⟩ [] rfl
          · refine TL.move rfl rfl (v := .int .i64 n_1) rfl ?_
            refine TL.move rfl rfl (v := .int .i64 in_1) rfl ?_
            refine TL.move rfl rfl (v := .int .i64 out1) rfl ?_
            refine TL.bin .i64 in_1 out1 rfl rfl rfl rfl (v := .int .i64 (w64 (in_1 + out1))) rfl ?_
            refine TL.call (R := G.spec_l03Power.R) Try.call56 rfl rfl rfl (fun w hS => G.spec_l03Power.calls w n_1 (w64 (in_1 + out1))) ?_
            rintro r_3 _ _ ⟨rfl, rfl⟩
            refine TL.bin .i64 r_3 1296 rfl rfl rfl rfl (v := .bool (decide (r_3 > 1296))) rfl ?_
            refine TL.pick rfl rfl (b := false) rfl (r := .bool (decide (r_3 > 1296))) rfl ?_
            refine TL.done ?_
            exact TC.nrm ((decide (r_3 > 1296))) () ⟨rfl, rfl, rfl, rfl, rfl, rfl, rfl, rfl, rfl, rfl, rfl, rfl, rfl, rfl, rfl, rfl, (by rw [c8]; rfl), trivial⟩ [] rfl
        · rintro b_2 _
          refine TL.assign rfl rfl (v := .bool b_2) rfl ?_
          refine TL.done ?_
          refine TC.cond (b := b_2) rfl (fun c9 => ?_) (fun c10 => ?_)
          · refine TC.seq ?_
            refine TC.region ?_
            refine TL.assign rfl rfl (v := .int .i64 3) rfl ?_
            refine TL.done ?_
            exact TC.retF (Fin.body (fin1 (.inr rfl) rfl (.tmp rfl) [] rfl ⟨rfl, rfl⟩))
          · refine TC.skip ?_
            refine TC.seq ?_
            refine TC.region ?_
            refine TL.assign rfl rfl (v := .int .i64 0) rfl ?_
            refine TL.done ?_
            exact TC.retF (Fin.body (fin1 (.inr rfl) rfl (.tmp rfl) [] rfl ⟨rfl, rfl⟩))

end Go.Proofs.Ytjjfoofjipafiaa.G
