/- Functions of the program, as pure functions. -/
import Derived.Test.YtjjfoofjipafiaaMValueAt2
import Derived.Test.YtjjfoofjipafiaaProg
/- impl.IsTensor, as a pure function. -/
set_option linter.unusedVariables false
namespace Go.Proofs.Ytjjfoofjipafiaa.G
open Go Go.Sx Go.Proofs

def impl_IsTensor.f (t1 : Int) (t2 : Int) (t3 : Int) (t4 : Int) (t5 : List Int) : Option Bool := (G.impl_shapeOk.f t1 t2).bind (fun r_1 => (bif (!r_1) then some true else (G.impl_endsOk.f t3).bind (fun r_2 => some (!r_2))).bind (fun b_2 => (bif b_2 then some true else (G.impl_endsOk.f t4).bind (fun r_3 => some (!r_3))).bind (fun b_3 => (bif b_3 then some false else (G.impl_powerOf.f t2 (w64 (t3 + t4))).bind (fun r_4 => (G.slices_ContainsFunc_int64_int64.f t5 (fun x0_ => G.impl_IsTensor_1.f x0_ t1 t2 t3 t4 t5)).bind (fun r_5 => some (((decide (r_4 ≤ 1296)) && ((t5.length : Int) == r_4)) && (!r_5))))))))

def impl_IsTensor.R (r : Bool) (v : Value) (L : List Asn) : Prop := v = .bool r ∧ L = []

set_option maxRecDepth 100000 in
set_option maxHeartbeats 4000000 in
theorem impl_IsTensor.calls (w : World) (t1 : Int) (t2 : Int) (t3 : Int) (t4 : Int) (s1 : SV) (t5 : List Int) (h1 : Reads Ei (hp w) s1 t5) :
    ∀ r, impl_IsTensor.f t1 t2 t3 t4 t5 = some r → Calls Try.prog 57 #[sval [.one (.int .i64 t1), .one (.int .i64 t2), .one (.int .i64 t3), .one (.int .i64 t4), .one (SV.v s1)]] w (Ret w (impl_IsTensor.R r)) := by

  refine calls_T (n := 48) (Γ := [(0, sval [.one (.int .i64 t1), .one (.int .i64 t2), .one (.int .i64 t3), .one (.int .i64 t4), .one (SV.v s1)])]) (R := impl_IsTensor.R) Try.func57 rfl rfl (Nat.le_of_ble_eq_true rfl) ⟨rfl, trivial⟩ ?_
  unfold impl_IsTensor.f
  refine TC.seq ?_
  refine TC.region ?_
  refine TL.box [.one (.int .i64 t1), .one (.int .i64 t2), .one (.int .i64 t3), .one (.int .i64 t4), .one (SV.v s1)] rfl rfl rfl rfl fun b_1 => ?_
  refine TL.assign rfl rfl (v := .bool false) rfl ?_
  refine TL.done ?_
  refine TC.seq ?_
  refine TC.seq ?_
  refine TC.region ?_
  refine TL.fa Try.underlying24 rfl Try.sizeOf2 rfl 0 rfl rfl rfl rfl ?_
  refine TL.load1 0 (Src.box 0 rfl) Try.isAgg2 rfl rfl rfl rfl rfl ?_
  refine TL.fa Try.underlying24 rfl Try.sizeOf2 rfl 1 rfl rfl rfl rfl ?_
  refine TL.load1 1 (Src.box 0 rfl) Try.isAgg2 rfl rfl rfl rfl rfl ?_
  refine TL.call (R := G.impl_shapeOk.R) Try.call46 rfl rfl rfl (fun w hS => G.impl_shapeOk.calls w t1 t2) ?_
  rintro r_1 _ _ ⟨rfl, rfl⟩
  refine TL.not r_1 rfl rfl rfl ?_
  refine TL.move rfl rfl (v := .bool (!r_1)) rfl ?_
  refine TL.cutJ (σ := Bool) (γ := Unit) (Γ' := fun b_2 _ => [(16, .bool b_2), (0, sval [.one (.int .i64 t1), .one (.int .i64 t2), .one (.int .i64 t3), .one (.int .i64 t4), .one (SV.v s1)]), (1, bp b_1 0), (2, .bool false), (5, bp b_1 0), (6, .int .i64 t1), (7, bp b_1 1), (8, .int .i64 t2), (9, .bool r_1), (10, .bool (!r_1)), (11, .bool (!r_1))]) (L' := fun _ _ => [box b_1 24 [.one (.int .i64 t1), .one (.int .i64 t2), .one (.int .i64 t3), .one (.int .i64 t4), .one (SV.v s1)]]) 5 ?_ ?_
  · refine TL.ifb (t := 11) (b := (!r_1)) rfl (fun c1 => ?_) (fun c2 => ?_)
    · refine TL.skip rfl rfl (by decide) ?_
      refine TL.skip rfl rfl (by decide) ?_
      refine TL.skip rfl rfl (by decide) ?_
      refine TL.skip rfl rfl (by decide) ?_
      refine TL.pick rfl rfl (b := true) rfl (r := .bool true) rfl ?_
      refine TL.done ?_
      exact TC.nrm (true) () ⟨rfl, rfl, rfl, rfl, rfl, rfl, rfl, rfl, rfl, rfl, (by rw [c1]; rfl), trivial⟩ [0] (by kernel_rfl)
    · refine TL.fa Try.underlying24 rfl Try.sizeOf2 rfl 2 rfl rfl rfl rfl ?_
      refine TL.load1 2 (Src.box 0 rfl) Try.isAgg2 rfl rfl rfl rfl rfl ?_
      refine TL.call (R := G.impl_endsOk.R) Try.call51 rfl rfl rfl (fun w hS => G.impl_endsOk.calls w t3) ?_
      rintro r_2 _ _ ⟨rfl, rfl⟩
      refine TL.not r_2 rfl rfl rfl ?_
      refine TL.pick rfl rfl (b := false) rfl (r := .bool (!r_2)) rfl ?_
      refine TL.done ?_
      exact TC.nrm ((!r_2)) () ⟨rfl, rfl, rfl, rfl, rfl, rfl, rfl, rfl, rfl, rfl, (by rw [c2]; rfl), trivial⟩ [0] (by kernel_rfl)
  · rintro b_2 _
    refine TL.move rfl rfl (v := .bool b_2) rfl ?_
    refine TL.cutJ (σ := Bool) (γ := Unit) (Γ' := fun b_3 _ => [(22, .bool b_3), (0, sval [.one (.int .i64 t1), .one (.int .i64 t2), .one (.int .i64 t3), .one (.int .i64 t4), .one (SV.v s1)]), (1, bp b_1 0), (2, .bool false), (5, bp b_1 0), (6, .int .i64 t1), (7, bp b_1 1), (8, .int .i64 t2), (9, .bool r_1), (10, .bool (!r_1)), (11, .bool (!r_1)), (16, .bool b_2), (17, .bool b_2)]) (L' := fun _ _ => [box b_1 24 [.one (.int .i64 t1), .one (.int .i64 t2), .one (.int .i64 t3), .one (.int .i64 t4), .one (SV.v s1)]]) 5 ?_ ?_
    · refine TL.ifb (t := 17) (b := b_2) rfl (fun c3 => ?_) (fun c4 => ?_)
      · refine TL.skip rfl rfl (by decide) ?_
        refine TL.skip rfl rfl (by decide) ?_
        refine TL.skip rfl rfl (by decide) ?_
        refine TL.skip rfl rfl (by decide) ?_
        refine TL.pick rfl rfl (b := true) rfl (r := .bool true) rfl ?_
        refine TL.done ?_
        exact TC.nrm (true) () ⟨rfl, rfl, rfl, rfl, rfl, rfl, rfl, rfl, rfl, rfl, rfl, rfl, (by rw [c3]; rfl), trivial⟩ [0] (by kernel_rfl)
      · refine TL.fa Try.underlying24 rfl Try.sizeOf2 rfl 3 rfl rfl rfl rfl ?_
        refine TL.load1 3 (Src.box 0 rfl) Try.isAgg2 rfl rfl rfl rfl rfl ?_
        refine TL.call (R := G.impl_endsOk.R) Try.call51 rfl rfl rfl (fun w hS => G.impl_endsOk.calls w t4) ?_
        rintro r_3 _ _ ⟨rfl, rfl⟩
        refine TL.not r_3 rfl rfl rfl ?_
        refine TL.pick rfl rfl (b := false) rfl (r := .bool (!r_3)) rfl ?_
        refine TL.done ?_
        exact TC.nrm ((!r_3)) () ⟨rfl, rfl, rfl, rfl, rfl, rfl, rfl, rfl, rfl, rfl, rfl, rfl, (by rw [c4]; rfl), trivial⟩ [0] (by kernel_rfl)
    · rintro b_3 _
      refine TL.done ?_
      refine TC.cond (b := b_3) rfl (fun c5 => ?_) (fun c6 => ?_)
      · refine TC.seq ?_
        refine TC.region ?_
        refine TL.assign rfl rfl (v := .bool false) rfl ?_
        refine TL.done ?_
        exact TC.retF (Fin.body (fin1 (.inr rfl) rfl (.tmp rfl) [] rfl ⟨rfl, rfl⟩))
      · refine TC.skip ?_
        refine TC.seq ?_
        refine TC.region ?_
        refine TL.fa Try.underlying24 rfl Try.sizeOf2 rfl 1 rfl rfl rfl rfl ?_
        refine TL.load1 1 (Src.box 0 rfl) Try.isAgg2 rfl rfl rfl rfl rfl ?_
        refine TL.fa Try.underlying24 rfl Try.sizeOf2 rfl 2 rfl rfl rfl rfl ?_
        refine TL.load1 2 (Src.box 0 rfl) Try.isAgg2 rfl rfl rfl rfl rfl ?_
        refine TL.fa Try.underlying24 rfl Try.sizeOf2 rfl 3 rfl rfl rfl rfl ?_
        refine TL.load1 3 (Src.box 0 rfl) Try.isAgg2 rfl rfl rfl rfl rfl ?_
        refine TL.bin .i64 t3 t4 rfl rfl rfl rfl (v := .int .i64 (w64 (t3 + t4))) rfl ?_
        refine TL.call (R := G.impl_powerOf.R) Try.call67 rfl rfl rfl (fun w hS => G.impl_powerOf.calls w t2 (w64 (t3 + t4))) ?_
        rintro r_4 _ _ ⟨rfl, rfl⟩
        refine TL.assign rfl rfl (v := .int .i64 r_4) rfl ?_
        refine TL.done ?_
        refine TC.seq ?_
        refine TC.region ?_
        refine TL.fa Try.underlying24 rfl Try.sizeOf22 rfl 4 rfl rfl rfl rfl ?_
        refine TL.load1 4 (Src.box 0 rfl) Try.isAgg22 rfl rfl rfl rfl rfl ?_
        refine TL.makeFunc rfl rfl (us := []) (vs := [bp b_1 0]) rfl rfl ?_
        refine TL.call (R := G.slices_ContainsFunc_int64_int64.R) Try.call89 rfl rfl rfl (fun w hS => G.slices_ContainsFunc_int64_int64.calls w s1 t5 90 [] [bp b_1 0] (fun x0_ => G.impl_IsTensor_1.f x0_ t1 t2 t3 t4 t5) ((Rd.old h1) w hS) Try.call90 (fun w_ hle_ x0_ r_ hr_ => G.impl_IsTensor_1.calls w_ x0_ b_1 t1 t2 t3 t4 s1 t5 (((Src.box 0 rfl) w hS).mono hle_) (((Rd.old h1) w hS).mono hle_) r_ hr_)) ?_
        rintro r_5 _ _ ⟨rfl, rfl⟩
        refine TL.assign rfl rfl (v := .bool r_5) rfl ?_
        refine TL.done ?_
        refine TC.seq ?_
        refine TC.region ?_
        refine TL.move rfl rfl (v := .int .i64 r_4) rfl ?_
        refine TL.bin .i64 r_4 1296 rfl rfl rfl rfl (v := .bool (decide (r_4 ≤ 1296))) rfl ?_
        refine TL.move rfl rfl (v := .bool (decide (r_4 ≤ 1296))) rfl ?_
        refine TL.cutU 6 [(43, .bool ((decide (r_4 ≤ 1296)) && ((t5.length : Int) == r_4))), (0, sval [.one (.int .i64 t1), .one (.int .i64 t2), .one (.int .i64 t3), .one (.int .i64 t4), .one (SV.v s1)]), (1, bp b_1 0), (2, .bool false), (5, bp b_1 0), (6, .int .i64 t1), (7, bp b_1 1), (8, .int .i64 t2), (9, .bool r_1), (10, .bool (!r_1)), (11, .bool (!r_1)), (16, .bool b_2), (17, .bool b_2), (22, .bool b_3), (23, bp b_1 1), (24, .int .i64 t2), (25, bp b_1 2), (26, .int .i64 t3), (27, bp b_1 3), (28, .int .i64 t4), (29, .int .i64 (w64 (t3 + t4))), (30, .int .i64 r_4), (3, .int .i64 r_4), (31, bp b_1 4), (32, SV.v s1), (33, .func (.func 90) #[] #[bp b_1 0]), (34, .bool r_5), (4, .bool r_5), (35, .int .i64 r_4), (36, .bool (decide (r_4 ≤ 1296))), (37, .bool (decide (r_4 ≤ 1296)))] [box b_1 24 [.one (.int .i64 t1), .one (.int .i64 t2), .one (.int .i64 t3), .one (.int .i64 t4), .one (SV.v s1)]] ?_ ?_
        · refine TL.cases (t := 37) (b := (decide (r_4 ≤ 1296))) rfl (fun c7 => ?_) (fun c8 => ?_)
          · refine TL.fa Try.underlying24 rfl Try.sizeOf22 rfl 4 rfl rfl rfl rfl ?_
            refine TL.load1 4 (Src.box 0 rfl) Try.isAgg22 rfl rfl rfl rfl rfl ?_
            refine TL.len (Rd.old h1) Try.underlying22 rfl rfl rfl ?_
            refine TL.move rfl rfl (v := .int .i64 r_4) rfl ?_
            refine TL.bin .i64 (t5.length : Int) r_4 rfl rfl rfl rfl (v := .bool ((t5.length : Int) == r_4)) rfl ?_
            refine TL.pick rfl rfl (b := true) rfl (r := .bool ((t5.length : Int) == r_4)) rfl ?_
            refine TL.done ?_
            exact TC.nrm () () ⟨(by rw [c7]; rfl), rfl, rfl, rfl, rfl, rfl, rfl, rfl, rfl, rfl, rfl, rfl, rfl, rfl, rfl, rfl, rfl, rfl, rfl, rfl, rfl, rfl, rfl, rfl, rfl, rfl, rfl, rfl, rfl, rfl, (by rw [c7]; rfl), trivial⟩ [0] (by kernel_rfl)
          · refine TL.skip rfl rfl (by decide) ?_
            refine TL.skip rfl rfl (by decide) ?_
            refine TL.skip rfl rfl (by decide) ?_
            refine TL.skip rfl rfl (by decide) ?_
            refine TL.skip rfl rfl (by decide) ?_
            refine TL.pick rfl rfl (b := false) rfl (r := .bool false) rfl ?_
            refine TL.done ?_
            exact TC.nrm () () ⟨(by rw [c8]; rfl), rfl, rfl, rfl, rfl, rfl, rfl, rfl, rfl, rfl, rfl, rfl, rfl, rfl, rfl, rfl, rfl, rfl, rfl, rfl, rfl, rfl, rfl, rfl, rfl, rfl, rfl, rfl, rfl, rfl, (by rw [c8]; rfl), trivial⟩ [0] (by kernel_rfl)
        · refine TL.move rfl rfl (v := .bool ((decide (r_4 ≤ 1296)) && ((t5.length : Int) == r_4))) rfl ?_
          refine TL.cutU 3 [(47, .bool (((decide (r_4 ≤ 1296)) && ((t5.length : Int) == r_4)) && (!r_5))), (0, sval [.one (.int .i64 t1), .one (.int .i64 t2), .one (.int .i64 t3), .one (.int .i64 t4), .one (SV.v s1)]), (1, bp b_1 0), (2, .bool false), (5, bp b_1 0), (6, .int .i64 t1), (7, bp b_1 1), (8, .int .i64 t2), (9, .bool r_1), (10, .bool (!r_1)), (11, .bool (!r_1)), (16, .bool b_2), (17, .bool b_2), (22, .bool b_3), (23, bp b_1 1), (24, .int .i64 t2), (25, bp b_1 2), (26, .int .i64 t3), (27, bp b_1 3), (28, .int .i64 t4), (29, .int .i64 (w64 (t3 + t4))), (30, .int .i64 r_4), (3, .int .i64 r_4), (31, bp b_1 4), (32, SV.v s1), (33, .func (.func 90) #[] #[bp b_1 0]), (34, .bool r_5), (4, .bool r_5), (35, .int .i64 r_4), (36, .bool (decide (r_4 ≤ 1296))), (37, .bool (decide (r_4 ≤ 1296))), (43, .bool ((decide (r_4 ≤ 1296)) && ((t5.length : Int) == r_4))), (44, .bool ((decide (r_4 ≤ 1296)) && ((t5.length : Int) == r_4)))] [box b_1 24 [.one (.int .i64 t1), .one (.int .i64 t2), .one (.int .i64 t3), .one (.int .i64 t4), .one (SV.v s1)]] ?_ ?_
          · refine TL.cases (t := 44) (b := ((decide (r_4 ≤ 1296)) && ((t5.length : Int) == r_4))) rfl (fun c9 => ?_) (fun c10 => ?_)
            · refine TL.move rfl rfl (v := .bool r_5) rfl ?_
              refine TL.not r_5 rfl rfl rfl ?_
              refine TL.pick rfl rfl (b := true) rfl (r := .bool (!r_5)) rfl ?_
              refine TL.done ?_
              exact TC.nrm () () ⟨(by rw [c9]; rfl), rfl, rfl, rfl, rfl, rfl, rfl, rfl, rfl, rfl, rfl, rfl, rfl, rfl, rfl, rfl, rfl, rfl, rfl, rfl, rfl, rfl, rfl, rfl, rfl, rfl, rfl, rfl, rfl, rfl, rfl, rfl, (by rw [c9]; rfl), trivial⟩ [0] (by kernel_rfl)
            · refine TL.skip rfl rfl (by decide) ?_
              refine TL.skip rfl rfl (by decide) ?_
              refine TL.pick rfl rfl (b := false) rfl (r := .bool false) rfl ?_
              refine TL.done ?_
              exact TC.nrm () () ⟨(by rw [c10]; rfl), rfl, rfl, rfl, rfl, rfl, rfl, rfl, rfl, rfl, rfl, rfl, rfl, rfl, rfl, rfl, rfl, rfl, rfl, rfl, rfl, rfl, rfl, rfl, rfl, rfl, rfl, rfl, rfl, rfl, rfl, rfl, (by rw [c10]; rfl), trivial⟩ [0] (by kernel_rfl)
          · refine TL.assign rfl rfl (v := .bool (((decide (r_4 ≤ 1296)) && ((t5.length : Int) == r_4)) && (!r_5))) rfl ?_
            refine TL.done ?_
            exact TC.retF (Fin.body (fin1 (.inr rfl) rfl (.tmp rfl) [] rfl ⟨rfl, rfl⟩))

end Go.Proofs.Ytjjfoofjipafiaa.G

/- impl.digits, as a pure function. -/
set_option linter.unusedVariables false
namespace Go.Proofs.Ytjjfoofjipafiaa.G
open Go Go.Sx Go.Proofs

def impl_digits.b0 (n_1 : Int) : Int × (List Int) × Int → Option (LB (Int × (List Int) × Int)) := fun p => match p with | (x2, out1, i1) => (bif (decide (i1 ≥ 0)) then nz n_1 (chk i1 out1.length (some (.next ((w64 (Int.tdiv x2 n_1)), (out1.set i1.toNat (Int.tmod x2 n_1)), (w64 (i1 - 1)))))) else some (.brk (x2, out1, i1)))

def impl_digits.f (x1 : Int) (n_1 : Int) (many_1 : Int) : Option (List Int) := grd (decide (0 ≤ many_1)) (small many_1.toNat ((loop1 (impl_digits.b0 n_1) (x1, (List.replicate many_1.toNat (0 : Int)), (w64 (many_1 - 1)))).bind (fun p => match p with | (x2, out1, i1) => some out1)))

def impl_digits.R (r : List Int) (v : Value) (L : List Asn) : Prop := ∃ (s0 : SV), v = SV.v s0 ∧ L = [row Ei 2 s0 r]

set_option maxRecDepth 100000 in
set_option maxHeartbeats 4000000 in
theorem impl_digits.calls (w : World) (x1 : Int) (n_1 : Int) (many_1 : Int) :
    ∀ r, impl_digits.f x1 n_1 many_1 = some r → Calls Try.prog 69 #[.int .i64 x1, .int .i64 n_1, .int .i64 many_1] w (Ret w (impl_digits.R r)) := by

  refine calls_T (n := 27) (Γ := [(0, .int .i64 x1), (1, .int .i64 n_1), (2, .int .i64 many_1)]) (R := impl_digits.R) Try.func69 rfl rfl (Nat.le_of_ble_eq_true rfl) ⟨rfl, rfl, rfl, trivial⟩ ?_
  unfold impl_digits.f
  refine TC.seq ?_
  refine TC.region ?_
  refine TL.assign rfl rfl (v := SV.v ⟨none, 0, 0⟩) rfl ?_
  refine TL.done ?_
  refine TC.seq ?_
  refine TC.region ?_
  refine TL.move rfl rfl (v := .int .i64 many_1) rfl ?_
  refine TL.grd fun h2 => ?_
  refine TL.small fun h1 => ?_
  refine TL.mkslice Ei (0 : Int) many_1 Try.underlying22 (info_of Try.type2) (zv := (Try.t2.zero.getD (.bool false))) rfl rfl rfl (by simp [Ei, flat, Seg.cells]) (by decide) (by simpa using h2) (by omega) rfl rfl rfl rfl fun s1 => ?_
  refine TL.assign rfl rfl (v := SV.v s1) rfl ?_
  refine TL.done ?_
  refine TC.seq ?_
  refine TC.seq ?_
  refine TC.region ?_
  refine TL.move rfl rfl (v := .int .i64 many_1) rfl ?_
  refine TL.bin .i64 many_1 1 rfl rfl rfl rfl (v := .int .i64 (w64 (many_1 - 1))) rfl ?_
  refine TL.assign rfl rfl (v := .int .i64 (w64 (many_1 - 1))) rfl ?_
  refine TL.done ?_
  refine TC.loop1 (σ := Int × (List Int) × Int) (γ := Unit) (Γ' := (fun p q => match p, q with | (x2, out1, i1), _ => [(0, .int .i64 x2), (1, .int .i64 n_1), (7, SV.v s1), (8, .int .i64 i1)])) (L' := (fun p q => match p, q with | (x2, out1, i1), _ => [row Ei 2 s1 out1])) (Γb := (fun p q => match p, q with | (x2, out1, i1), _ => [(0, .int .i64 x2), (1, .int .i64 n_1), (7, SV.v s1), (8, .int .i64 i1)])) (Lb := (fun p q => match p, q with | (x2, out1, i1), _ => [row Ei 2 s1 out1])) ((x1, (List.replicate many_1.toNat (0 : Int)), (w64 (many_1 - 1)))) (()) ⟨rfl, rfl, rfl, rfl, trivial⟩ [0] rfl ?_ ?_
  · rintro ⟨x2, out1, i1⟩ _
    refine TC.seq ?_
    refine TC.seq ?_
    refine TC.region ?_
    refine TL.move rfl rfl (v := .int .i64 i1) rfl ?_
    refine TL.bin .i64 i1 0 rfl rfl rfl rfl (v := .bool (decide (i1 ≥ 0))) rfl ?_
    refine TL.done ?_
    refine TC.cond (b := (decide (i1 ≥ 0))) rfl (fun c1 => ?_) (fun c2 => ?_)
    · refine TC.skip ?_
      refine TC.seq ?_
      refine TC.block (NoEx.loop1 rfl) ?_
      refine TC.seq ?_
      refine TC.region ?_
      refine TL.move rfl rfl (v := SV.v s1) rfl ?_
      refine TL.move rfl rfl (v := .int .i64 i1) rfl ?_
      refine TL.move rfl rfl (v := .int .i64 x2) rfl ?_
      refine TL.move rfl rfl (v := .int .i64 n_1) rfl ?_
      refine TL.nz fun z1 => ?_
      refine TL.rem .i64 x2 n_1 z1 rfl rfl rfl rfl ?_
      refine TL.chk fun h3 => ?_
      refine TL.ixs i1 i1.toNat (Rd.row 0 rfl) h3 Try.underlying22 Try.sizeOf2 rfl rfl rfl rfl (by omega) ?_
      refine TL.stE 0 (i1.toNat) (Int.tmod x2 n_1) (v := .int .i64 (Int.tmod x2 n_1)) rfl Try.sizeOf2 rfl rfl rfl (by have h_ := h3; omega) (by simp only [show Ei.sz = 1 from rfl] <;> omega) rfl rfl rfl ?_
      refine TL.done ?_
      refine TC.region ?_
      refine TL.move rfl rfl (v := .int .i64 x2) rfl ?_
      refine TL.move rfl rfl (v := .int .i64 n_1) rfl ?_
      refine TL.quo .i64 x2 n_1 z1 rfl rfl rfl rfl ?_
      refine TL.assign rfl rfl (v := .int .i64 (w64 (Int.tdiv x2 n_1))) rfl ?_
      refine TL.done ?_
      refine TC.region ?_
      refine TL.move rfl rfl (v := .int .i64 i1) rfl ?_
      refine TL.bin .i64 i1 1 rfl rfl rfl rfl (v := .int .i64 (w64 (i1 - 1))) rfl ?_
      refine TL.assign rfl rfl (v := .int .i64 (w64 (i1 - 1))) rfl ?_
      refine TL.done ?_
      exact TC.next1 (((w64 (Int.tdiv x2 n_1)), (out1.set i1.toNat (Int.tmod x2 n_1)), (w64 (i1 - 1)))) (()) ⟨rfl, rfl, rfl, rfl, trivial⟩ [0] rfl
    · exact TC.brk1 ((x2, out1, i1)) (()) ⟨rfl, rfl, rfl, rfl, trivial⟩ [0] rfl
  · rintro ⟨x2, out1, i1⟩ _
    refine TC.seq ?_
    refine TC.region ?_
    refine TL.move rfl rfl (v := SV.v s1) rfl ?_
    refine TL.assign rfl rfl (v := SV.v s1) rfl ?_
    refine TL.done ?_
    exact TC.retF (Fin.body (fin1 (.inr rfl) rfl (.tmp rfl) [0] rfl ⟨s1, rfl, rfl⟩))

end Go.Proofs.Ytjjfoofjipafiaa.G

/- impl.Vector], as a pure function. -/
set_option linter.unusedVariables false
namespace Go.Proofs.Ytjjfoofjipafiaa.G
open Go Go.Sx Go.Proofs

def slices_IndexFunc_impl_Vector_impl_Vector.b0 (s1 : List (Nat → UInt8)) (f2 : (Nat → UInt8) → Option Bool) : Int → Option (LR Int Int) := fun x1 => (bif (decide (x1 < (s1.length : Int))) then chk x1 s1.length ((f2 (gt s1 x1)).bind (fun r_1 => (bif r_1 then some (.ret (x1)) else some (.next (w64 (x1 + 1)))))) else some (.brk x1))

def slices_IndexFunc_impl_Vector_impl_Vector.f (s1 : List (Nat → UInt8)) (f2 : (Nat → UInt8) → Option Bool) : Option Int := (loop (slices_IndexFunc_impl_Vector_impl_Vector.b0 s1 f2) 0).bind (ln (fun x1 => some (-1)))

def slices_IndexFunc_impl_Vector_impl_Vector.R (r : Int) (v : Value) (L : List Asn) : Prop := v = .int .i64 r ∧ L = []

set_option maxRecDepth 100000 in
set_option maxHeartbeats 4000000 in
theorem slices_IndexFunc_impl_Vector_impl_Vector.calls (w : World) (s2 : SV) (s1 : List (Nat → UInt8)) (f1 : Nat) (fst1 : List Value) (cap1 : List Value) (f2 : (Nat → UInt8) → Option Bool) (h1 : Reads (Evec 6) (hp w) s2 s1) (hc1 : ∀ (args_ : Array Value) (w_ : World), (callFunc f1 args_).run Try.prog w_ = .ok (.enter f1 args_) w_) (hf1 : ∀ w_, Hle (hp w) (hp w_) → ∀ (x0_ : Nat → UInt8), ∀ r_, f2 x0_ = some r_ → Calls Try.prog f1 (fst1 ++ ([sval [.arr 6 (enf u8v x0_)]] : List Value) ++ cap1).toArray w_ (Ret w_ (fun (v_ : Value) (L_ : List Asn) => v_ = .bool r_ ∧ L_ = []))) :
    ∀ r, slices_IndexFunc_impl_Vector_impl_Vector.f s1 f2 = some r → Calls Try.prog 92 #[SV.v s2, .func (.func f1) fst1.toArray cap1.toArray] w (Ret w (slices_IndexFunc_impl_Vector_impl_Vector.R r)) := by

  refine calls_T (n := 19) (Γ := [(0, SV.v s2), (1, .func (.func f1) fst1.toArray cap1.toArray)]) (R := slices_IndexFunc_impl_Vector_impl_Vector.R) Try.func92 rfl rfl (Nat.le_of_ble_eq_true rfl) ⟨rfl, rfl, trivial⟩ ?_
  unfold slices_IndexFunc_impl_Vector_impl_Vector.f
  refine TC.seq ?_
  refine TC.region ?_
  refine TL.assign rfl rfl (v := .int .i64 0) rfl ?_
  refine TL.done ?_
  refine TC.seq ?_
  refine TC.seq ?_
  refine TC.region ?_
  refine TL.move rfl rfl (v := SV.v s2) rfl ?_
  refine TL.len (Rd.old h1) Try.underlying45 rfl rfl rfl ?_
  refine TL.move rfl rfl (v := .int .i64 0) rfl ?_
  refine TL.done ?_
  refine TC.loopK (σ := Int) (γ := Unit) (Γ' := (fun x1 _ => [(0, SV.v s2), (1, .func (.func f1) fst1.toArray cap1.toArray), (7, .int .i64 (s1.length : Int)), (8, .int .i64 x1)])) (L' := (fun x1 _ => [])) (Γb := (fun x1 _ => [(0, SV.v s2), (1, .func (.func f1) fst1.toArray cap1.toArray), (7, .int .i64 (s1.length : Int)), (8, .int .i64 x1)])) (Lb := (fun x1 _ => [])) (0) (()) ⟨rfl, rfl, rfl, rfl, trivial⟩ [] rfl ?_ ?_
  · rintro x1 _
    refine TC.seq ?_
    refine TC.region ?_
    refine TL.bin .i64 x1 (s1.length : Int) rfl rfl rfl rfl (v := .bool (decide (x1 < (s1.length : Int)))) rfl ?_
    refine TL.done ?_
    refine TC.seq ?_
    refine TC.cond (b := (decide (x1 < (s1.length : Int)))) rfl (fun c1 => ?_) (fun c2 => ?_)
    · refine TC.skip ?_
      refine TC.seq ?_
      refine TC.block (NoEx.loop rfl NoEx.body) ?_
      refine TC.seq ?_
      refine TC.region ?_
      refine TL.move rfl rfl (v := .int .i64 x1) rfl ?_
      refine TL.assign rfl rfl (v := .int .i64 x1) rfl ?_
      refine TL.done ?_
      refine TC.seq ?_
      refine TC.region ?_
      refine TL.move rfl rfl (v := .func (.func f1) fst1.toArray cap1.toArray) rfl ?_
      refine TL.move rfl rfl (v := SV.v s2) rfl ?_
      refine TL.move rfl rfl (v := .int .i64 x1) rfl ?_
      refine TL.chk fun h2 => ?_
      refine TL.ixs x1 (x1.toNat * 6) (Rd.old h1) h2 Try.underlying45 Try.sizeOf58 rfl rfl rfl rfl (by omega) ?_
      refine TL.loadEA (Rd.old h1) Try.isAgg58 Try.sizeOf58 x1.toNat (gt_spec h2) (v := sval [.arr 6 (enf u8v (gt s1 x1))]) rfl (by simp only [show (Evec 6).sz = 6 from rfl] <;> omega) rfl rfl rfl ?_
      refine TL.callv (R := (fun r_ => (fun (v_ : Value) (L_ : List Asn) => v_ = .bool r_ ∧ L_ = []))) (vs := [sval [.arr 6 (enf u8v (gt s1 x1))]]) hc1 rfl rfl rfl rfl (fun w hS => hf1 w hS.iw (gt s1 x1)) ?_
      rintro r_1 _ _ ⟨rfl, rfl⟩
      refine TL.done ?_
      refine TC.cond (b := r_1) rfl (fun c3 => ?_) (fun c4 => ?_)
      · refine TC.seq ?_
        refine TC.region ?_
        refine TL.move rfl rfl (v := .int .i64 x1) rfl ?_
        refine TL.assign rfl rfl (v := .int .i64 x1) rfl ?_
        refine TL.done ?_
        exact TC.retF (Fin.loop Far.ret (Fin.body (fin1 (.inr rfl) rfl (.tmp rfl) [] rfl ⟨rfl, rfl⟩)))
      · refine TC.skip ?_
        refine TC.region ?_
        refine TL.bin .i64 x1 1 rfl rfl rfl rfl (v := .int .i64 (w64 (x1 + 1))) rfl ?_
        refine TL.move rfl rfl (v := .int .i64 (w64 (x1 + 1))) rfl ?_
        refine TL.done ?_
        exact TC.next ((w64 (x1 + 1))) (()) ⟨rfl, rfl, rfl, rfl, trivial⟩ [] rfl
    · exact TC.brk (x1) (()) ⟨rfl, rfl, rfl, rfl, trivial⟩ [] rfl
  · rintro x1 _
    refine TC.seq ?_
    refine TC.region ?_
    refine TL.assign rfl rfl (v := .int .i64 (-1)) rfl ?_
    refine TL.done ?_
    exact TC.retF (Fin.body (fin1 (.inr rfl) rfl (.tmp rfl) [] rfl ⟨rfl, rfl⟩))

end Go.Proofs.Ytjjfoofjipafiaa.G

/- impl.Vector], as a pure function. -/
set_option linter.unusedVariables false
namespace Go.Proofs.Ytjjfoofjipafiaa.G
open Go Go.Sx Go.Proofs

def slices_ContainsFunc_impl_Vector_impl_Vector.f (s1 : List (Nat → UInt8)) (f2 : (Nat → UInt8) → Option Bool) : Option Bool := (G.slices_IndexFunc_impl_Vector_impl_Vector.f s1 f2).bind (fun r_1 => some (decide (r_1 ≥ 0)))

def slices_ContainsFunc_impl_Vector_impl_Vector.R (r : Bool) (v : Value) (L : List Asn) : Prop := v = .bool r ∧ L = []

set_option maxRecDepth 100000 in
set_option maxHeartbeats 4000000 in
theorem slices_ContainsFunc_impl_Vector_impl_Vector.calls (w : World) (s2 : SV) (s1 : List (Nat → UInt8)) (f1 : Nat) (fst1 : List Value) (cap1 : List Value) (f2 : (Nat → UInt8) → Option Bool) (h1 : Reads (Evec 6) (hp w) s2 s1) (hc1 : ∀ (args_ : Array Value) (w_ : World), (callFunc f1 args_).run Try.prog w_ = .ok (.enter f1 args_) w_) (hf1 : ∀ w_, Hle (hp w) (hp w_) → ∀ (x0_ : Nat → UInt8), ∀ r_, f2 x0_ = some r_ → Calls Try.prog f1 (fst1 ++ ([sval [.arr 6 (enf u8v x0_)]] : List Value) ++ cap1).toArray w_ (Ret w_ (fun (v_ : Value) (L_ : List Asn) => v_ = .bool r_ ∧ L_ = []))) :
    ∀ r, slices_ContainsFunc_impl_Vector_impl_Vector.f s1 f2 = some r → Calls Try.prog 73 #[SV.v s2, .func (.func f1) fst1.toArray cap1.toArray] w (Ret w (slices_ContainsFunc_impl_Vector_impl_Vector.R r)) := by

  refine calls_T (n := 9) (Γ := [(0, SV.v s2), (1, .func (.func f1) fst1.toArray cap1.toArray)]) (R := slices_ContainsFunc_impl_Vector_impl_Vector.R) Try.func73 rfl rfl (Nat.le_of_ble_eq_true rfl) ⟨rfl, rfl, trivial⟩ ?_
  unfold slices_ContainsFunc_impl_Vector_impl_Vector.f
  refine TC.seq ?_
  refine TC.region ?_
  refine TL.assign rfl rfl (v := .bool false) rfl ?_
  refine TL.done ?_
  refine TC.seq ?_
  refine TC.region ?_
  refine TL.move rfl rfl (v := SV.v s2) rfl ?_
  refine TL.move rfl rfl (v := .func (.func f1) fst1.toArray cap1.toArray) rfl ?_
  refine TL.call (R := G.slices_IndexFunc_impl_Vector_impl_Vector.R) Try.call92 rfl rfl rfl (fun w hS => G.slices_IndexFunc_impl_Vector_impl_Vector.calls w s2 s1 f1 fst1 cap1 f2 ((Rd.old h1) w hS) hc1 (fun w_ hle_ => hf1 w_ (hS.iw.trans hle_))) ?_
  rintro r_1 _ _ ⟨rfl, rfl⟩
  refine TL.bin .i64 r_1 0 rfl rfl rfl rfl (v := .bool (decide (r_1 ≥ 0))) rfl ?_
  refine TL.assign rfl rfl (v := .bool (decide (r_1 ≥ 0))) rfl ?_
  refine TL.done ?_
  exact TC.retF (Fin.body (fin1 (.inr rfl) rfl (.tmp rfl) [] rfl ⟨rfl, rfl⟩))

end Go.Proofs.Ytjjfoofjipafiaa.G

/- impl.isVector, as a pure function. -/
set_option linter.unusedVariables false
namespace Go.Proofs.Ytjjfoofjipafiaa.G
open Go Go.Sx Go.Proofs

def impl_isVector.b0 (v_1 : Nat → UInt8) (p1 : Int) (n_1 : Int) : Int → Option (LR Int Bool) := fun x1 => (bif (decide (x1 < 6)) then chk x1 6 ((bif ((decide (((v_1 x1.toNat).toNat : Int) ≥ p1)) || ((decide (x1 ≥ n_1)) && (((v_1 x1.toNat).toNat : Int) != ((0 : UInt8).toNat : Int)))) then some (.ret (false)) else some (.next (w64 (x1 + 1))))) else some (.brk x1))

def impl_isVector.f (v_1 : Nat → UInt8) (n_1 : Int) (p1 : Int) : Option Bool := (loop (impl_isVector.b0 v_1 p1 n_1) 0).bind (ln (fun x1 => some true))

def impl_isVector.R (r : Bool) (v : Value) (L : List Asn) : Prop := v = .bool r ∧ L = []

set_option maxRecDepth 100000 in
set_option maxHeartbeats 4000000 in
theorem impl_isVector.calls (w : World) (v_1 : Nat → UInt8) (n_1 : Int) (p1 : Int) :
    ∀ r, impl_isVector.f v_1 n_1 p1 = some r → Calls Try.prog 75 #[sval [.arr 6 (enf u8v v_1)], .int .i64 n_1, .int .i64 p1] w (Ret w (impl_isVector.R r)) := by

  refine calls_T (n := 28) (Γ := [(0, sval [.arr 6 (enf u8v v_1)]), (1, .int .i64 n_1), (2, .int .i64 p1)]) (R := impl_isVector.R) Try.func75 rfl rfl (Nat.le_of_ble_eq_true rfl) ⟨rfl, rfl, rfl, trivial⟩ ?_
  unfold impl_isVector.f
  refine TC.seq ?_
  refine TC.region ?_
  refine TL.box [.arr 6 (enf u8v v_1)] rfl rfl rfl rfl fun b_1 => ?_
  refine TL.assign rfl rfl (v := .bool false) rfl ?_
  refine TL.done ?_
  refine TC.seq ?_
  refine TC.seq ?_
  refine TC.region ?_
  refine TL.loadM 0 1 (Src.box 0 rfl) Try.isAgg58 Try.sizeOf58 (mid := [.arr 6 (enf u8v v_1)]) rfl rfl rfl rfl rfl rfl ?_
  refine TL.move rfl rfl (v := .int .i64 0) rfl ?_
  refine TL.done ?_
  refine TC.loopK (σ := Int) (γ := Unit) (Γ' := (fun x1 _ => [(1, .int .i64 n_1), (2, .int .i64 p1), (9, sval [.arr 6 (enf u8v v_1)]), (10, .int .i64 x1)])) (L' := (fun x1 _ => [])) (Γb := (fun x1 _ => [(1, .int .i64 n_1), (2, .int .i64 p1), (9, sval [.arr 6 (enf u8v v_1)]), (10, .int .i64 x1)])) (Lb := (fun x1 _ => [])) (0) (()) ⟨rfl, rfl, rfl, rfl, trivial⟩ [] rfl ?_ ?_
  · rintro x1 _
    refine TC.seq ?_
    refine TC.region ?_
    refine TL.bin .i64 x1 6 rfl rfl rfl rfl (v := .bool (decide (x1 < 6))) rfl ?_
    refine TL.done ?_
    refine TC.seq ?_
    refine TC.cond (b := (decide (x1 < 6))) rfl (fun c1 => ?_) (fun c2 => ?_)
    · refine TC.skip ?_
      refine TC.seq ?_
      refine TC.block (NoEx.loop rfl NoEx.body) ?_
      refine TC.seq ?_
      refine TC.region ?_
      refine TL.move rfl rfl (v := .int .i64 x1) rfl ?_
      refine TL.chk fun h1 => ?_
      refine TL.ixv1 x1 h1 Try.underlying58 Try.isAgg5 Try.sizeOf5 (v := u8v (v_1 x1.toNat)) rfl rfl rfl rfl rfl ?_
      refine TL.assign rfl rfl (v := .int .i64 x1) rfl ?_
      refine TL.assign rfl rfl (v := u8v (v_1 x1.toNat)) rfl ?_
      refine TL.done ?_
      refine TC.seq ?_
      refine TC.region ?_
      refine TL.move rfl rfl (v := u8v (v_1 x1.toNat)) rfl ?_
      refine TL.conv .u8 .i64 ((v_1 x1.toNat).toNat : Int) _ rfl rfl rfl Try.underlying5 Try.underlying2 (v := .int .i64 ((v_1 x1.toNat).toNat : Int)) (conv_u8_i64 _) ?_
      refine TL.move rfl rfl (v := .int .i64 p1) rfl ?_
      refine TL.bin .i64 ((v_1 x1.toNat).toNat : Int) p1 rfl rfl rfl rfl (v := .bool (decide (((v_1 x1.toNat).toNat : Int) ≥ p1))) rfl ?_
      refine TL.move rfl rfl (v := .bool (decide (((v_1 x1.toNat).toNat : Int) ≥ p1))) rfl ?_
      refine TL.cutU 8 [(26, .bool ((decide (((v_1 x1.toNat).toNat : Int) ≥ p1)) || ((decide (x1 ≥ n_1)) && (((v_1 x1.toNat).toNat : Int) != ((0 : UInt8).toNat : Int))))), (1, .int .i64 n_1), (2, .int .i64 p1), (9, sval [.arr 6 (enf u8v v_1)]), (10, .int .i64 x1), (11, .bool (decide (x1 < 6))), (12, .int .i64 x1), (13, u8v (v_1 x1.toNat)), (7, .int .i64 x1), (8, u8v (v_1 x1.toNat)), (14, u8v (v_1 x1.toNat)), (15, .int .i64 ((v_1 x1.toNat).toNat : Int)), (16, .int .i64 p1), (17, .bool (decide (((v_1 x1.toNat).toNat : Int) ≥ p1))), (18, .bool (decide (((v_1 x1.toNat).toNat : Int) ≥ p1)))] [] ?_ ?_
      · refine TL.cases (t := 18) (b := (decide (((v_1 x1.toNat).toNat : Int) ≥ p1))) rfl (fun c3 => ?_) (fun c4 => ?_)
        · refine TL.skip rfl rfl (by decide) ?_
          refine TL.skip rfl rfl (by decide) ?_
          refine TL.skip rfl rfl (by decide) ?_
          refine TL.skip rfl rfl (by decide) ?_
          refine TL.skip rfl rfl (by decide) ?_
          refine TL.skip rfl rfl (by decide) ?_
          refine TL.skip rfl rfl (by decide) ?_
          refine TL.pick rfl rfl (b := true) rfl (r := .bool true) rfl ?_
          refine TL.done ?_
          exact TC.nrm () () ⟨(by rw [c3]; rfl), rfl, rfl, rfl, rfl, rfl, rfl, rfl, rfl, rfl, rfl, rfl, rfl, rfl, (by rw [c3]; rfl), trivial⟩ [] (by kernel_rfl)
        · refine TL.move rfl rfl (v := .int .i64 x1) rfl ?_
          refine TL.move rfl rfl (v := .int .i64 n_1) rfl ?_
          refine TL.bin .i64 x1 n_1 rfl rfl rfl rfl (v := .bool (decide (x1 ≥ n_1))) rfl ?_
          refine TL.move rfl rfl (v := .bool (decide (x1 ≥ n_1))) rfl ?_
          refine TL.cutU 3 [(25, .bool ((decide (x1 ≥ n_1)) && (((v_1 x1.toNat).toNat : Int) != ((0 : UInt8).toNat : Int)))), (1, .int .i64 n_1), (2, .int .i64 p1), (9, sval [.arr 6 (enf u8v v_1)]), (10, .int .i64 x1), (11, .bool (decide (x1 < 6))), (12, .int .i64 x1), (13, u8v (v_1 x1.toNat)), (7, .int .i64 x1), (8, u8v (v_1 x1.toNat)), (14, u8v (v_1 x1.toNat)), (15, .int .i64 ((v_1 x1.toNat).toNat : Int)), (16, .int .i64 p1), (17, .bool (decide (((v_1 x1.toNat).toNat : Int) ≥ p1))), (18, .bool false), (19, .int .i64 x1), (20, .int .i64 n_1), (21, .bool (decide (x1 ≥ n_1))), (22, .bool (decide (x1 ≥ n_1)))] [] ?_ ?_
          · refine TL.cases (t := 22) (b := (decide (x1 ≥ n_1))) rfl (fun c5 => ?_) (fun c6 => ?_)
            · refine TL.move rfl rfl (v := u8v (v_1 x1.toNat)) rfl ?_
              refine TL.bin .u8 ((v_1 x1.toNat).toNat : Int) ((0 : UInt8).toNat : Int) rfl rfl rfl rfl (v := .bool (((v_1 x1.toNat).toNat : Int) != ((0 : UInt8).toNat : Int))) rfl ?_
              refine TL.pick rfl rfl (b := true) rfl (r := .bool (((v_1 x1.toNat).toNat : Int) != ((0 : UInt8).toNat : Int))) rfl ?_
              refine TL.done ?_
              exact TC.nrm () () ⟨(by rw [c5]; rfl), rfl, rfl, rfl, rfl, rfl, rfl, rfl, rfl, rfl, rfl, rfl, rfl, rfl, rfl, rfl, rfl, rfl, (by rw [c5]; rfl), trivial⟩ [] (by kernel_rfl)
            · refine TL.skip rfl rfl (by decide) ?_
              refine TL.skip rfl rfl (by decide) ?_
              refine TL.pick rfl rfl (b := false) rfl (r := .bool false) rfl ?_
              refine TL.done ?_
              exact TC.nrm () () ⟨(by rw [c6]; rfl), rfl, rfl, rfl, rfl, rfl, rfl, rfl, rfl, rfl, rfl, rfl, rfl, rfl, rfl, rfl, rfl, rfl, (by rw [c6]; rfl), trivial⟩ [] (by kernel_rfl)
          · refine TL.pick rfl rfl (b := false) rfl (r := .bool ((decide (x1 ≥ n_1)) && (((v_1 x1.toNat).toNat : Int) != ((0 : UInt8).toNat : Int)))) rfl ?_
            refine TL.done ?_
            exact TC.nrm () () ⟨(by rw [c4]; rfl), rfl, rfl, rfl, rfl, rfl, rfl, rfl, rfl, rfl, rfl, rfl, rfl, rfl, (by rw [c4]; rfl), trivial⟩ [] (by kernel_rfl)
      · refine TL.done ?_
        refine TC.cond (b := ((decide (((v_1 x1.toNat).toNat : Int) ≥ p1)) || ((decide (x1 ≥ n_1)) && (((v_1 x1.toNat).toNat : Int) != ((0 : UInt8).toNat : Int))))) rfl (fun c7 => ?_) (fun c8 => ?_)
        · refine TC.seq ?_
          refine TC.region ?_
          refine TL.assign rfl rfl (v := .bool false) rfl ?_
          refine TL.done ?_
          exact TC.retF (Fin.loop Far.ret (Fin.body (fin1 (.inr rfl) rfl (.tmp rfl) [] rfl ⟨rfl, rfl⟩)))
        · refine TC.skip ?_
          refine TC.region ?_
          refine TL.bin .i64 x1 1 rfl rfl rfl rfl (v := .int .i64 (w64 (x1 + 1))) rfl ?_
          refine TL.move rfl rfl (v := .int .i64 (w64 (x1 + 1))) rfl ?_
          refine TL.done ?_
          exact TC.next ((w64 (x1 + 1))) (()) ⟨rfl, rfl, rfl, rfl, trivial⟩ [] rfl
    · exact TC.brk (x1) (()) ⟨rfl, rfl, rfl, rfl, trivial⟩ [] rfl
  · rintro x1 _
    refine TC.seq ?_
    refine TC.region ?_
    refine TL.assign rfl rfl (v := .bool true) rfl ?_
    refine TL.done ?_
    exact TC.retF (Fin.body (fin1 (.inr rfl) rfl (.tmp rfl) [] rfl ⟨rfl, rfl⟩))

end Go.Proofs.Ytjjfoofjipafiaa.G

/- impl.ValueAt$1, as a pure function. -/
set_option linter.unusedVariables false
namespace Go.Proofs.Ytjjfoofjipafiaa.G
open Go Go.Sx Go.Proofs

def impl_ValueAt_1.f (v_1 : Nat → UInt8) (c1 : Int) (c2 : Int) (c3 : Int) (c4 : Int) (c5 : List Int) : Option Bool := (G.impl_isVector.f v_1 c2 c1).bind (fun r_1 => some (!r_1))

def impl_ValueAt_1.R (r : Bool) (v : Value) (L : List Asn) : Prop := v = .bool r ∧ L = []

set_option maxRecDepth 100000 in
set_option maxHeartbeats 4000000 in
theorem impl_ValueAt_1.calls (w : World) (v_1 : Nat → UInt8) (b_1 : Nat) (c1 : Int) (c2 : Int) (c3 : Int) (c4 : Int) (s1 : SV) (c5 : List Int) (h2 : At (hp w) b_1 [.one (.int .i64 c1), .one (.int .i64 c2), .one (.int .i64 c3), .one (.int .i64 c4), .one (SV.v s1)]) (h1 : Reads Ei (hp w) s1 c5) :
    ∀ r, impl_ValueAt_1.f v_1 c1 c2 c3 c4 c5 = some r → Calls Try.prog 74 #[sval [.arr 6 (enf u8v v_1)], bp b_1 0] w (Ret w (impl_ValueAt_1.R r)) := by

  refine calls_T (n := 11) (Γ := [(0, sval [.arr 6 (enf u8v v_1)]), (1, bp b_1 0)]) (R := impl_ValueAt_1.R) Try.func74 rfl rfl (Nat.le_of_ble_eq_true rfl) ⟨rfl, rfl, trivial⟩ ?_
  unfold impl_ValueAt_1.f
  refine TC.seq ?_
  refine TC.region ?_
  refine TL.box [.arr 6 (enf u8v v_1)] rfl rfl rfl rfl fun b_2 => ?_
  refine TL.assign rfl rfl (v := .bool false) rfl ?_
  refine TL.done ?_
  refine TC.seq ?_
  refine TC.region ?_
  refine TL.loadM 0 1 (Src.box 0 rfl) Try.isAgg58 Try.sizeOf58 (mid := [.arr 6 (enf u8v v_1)]) rfl rfl rfl rfl rfl rfl ?_
  refine TL.fa Try.underlying24 rfl Try.sizeOf2 rfl 1 rfl rfl rfl rfl ?_
  refine TL.load1 1 (Src.at h2) Try.isAgg2 rfl rfl rfl rfl rfl ?_
  refine TL.fa Try.underlying24 rfl Try.sizeOf2 rfl 0 rfl rfl rfl rfl ?_
  refine TL.load1 0 (Src.at h2) Try.isAgg2 rfl rfl rfl rfl rfl ?_
  refine TL.call (R := G.impl_isVector.R) Try.call75 rfl rfl rfl (fun w hS => G.impl_isVector.calls w v_1 c2 c1) ?_
  rintro r_1 _ _ ⟨rfl, rfl⟩
  refine TL.not r_1 rfl rfl rfl ?_
  refine TL.assign rfl rfl (v := .bool (!r_1)) rfl ?_
  refine TL.done ?_
  exact TC.retF (Fin.body (fin1 (.inr rfl) rfl (.tmp rfl) [] rfl ⟨rfl, rfl⟩))

end Go.Proofs.Ytjjfoofjipafiaa.G

/- impl.ValueAt, as a pure function. -/
set_option linter.unusedVariables false
namespace Go.Proofs.Ytjjfoofjipafiaa.G
open Go Go.Sx Go.Proofs

def impl_ValueAt.b0 (r_4 : List Int) (x6 : List (Nat → UInt8)) (x1 : Int) : Int × Int → Option (LB (Int × Int)) := fun p => match p with | (x8, x9) => (bif (decide (x9 < (r_4.length : Int))) then chk x9 r_4.length (chk x9 x6.length (chk (gt r_4 x9) 6 (nz x1 (some (.next ((Int.tmod (w64 (x8 * (((gt x6 x9) ((gt r_4 x9).toNat)).toNat : Int))) x1), (w64 (x9 + 1)))))))) else some (.brk (x8, x9)))

def impl_ValueAt.b1 (x5 : List Int) (r_3 : Int) (x2 : Int) (x3 : Int) (x6 : List (Nat → UInt8)) (x1 : Int) : (List Int) × Int → Option (LB ((List Int) × Int)) := fun p => match p with | (l1, x7) => (bif (decide (x7 < (x5.length : Int))) then chk x7 x5.length (nz r_3 ((G.impl_digits.f (w64 (Int.tdiv x7 r_3)) x2 x3).bind (fun r_4 => (loop1 (impl_ValueAt.b0 r_4 x6 x1) ((gt x5 x7), 0)).bind (fun p => match p with | (x8, x9) => chk (Int.tmod x7 r_3) l1.length (nz x1 (some (.next ((l1.set (Int.tmod x7 r_3).toNat (Int.tmod (w64 ((gt l1 (Int.tmod x7 r_3)) + x8)) x1)), (w64 (x7 + 1)))))))))) else some (.brk (l1, x7)))

def impl_ValueAt.f (x1 : Int) (x2 : Int) (x3 : Int) (x4 : Int) (x5 : List Int) (x6 : List (Nat → UInt8)) : Option ((List Int) × Int) := (G.impl_IsTensor.f x1 x2 x3 x4 x5).bind (fun r_1 => (bif (!r_1) then some true else (G.slices_ContainsFunc_impl_Vector_impl_Vector.f x6 (fun x0_ => G.impl_ValueAt_1.f x0_ x1 x2 x3 x4 x5)).bind (fun r_2 => some r_2)).bind (fun b_2 => (bif b_2 then some (([] : List Int), 1) else (bif ((x6.length : Int) != x3) then some (([] : List Int), 2) else (G.impl_powerOf.f x2 x4).bind (fun r_3 => grd (decide (0 ≤ r_3)) (small r_3.toNat ((loop1 (impl_ValueAt.b1 x5 r_3 x2 x3 x6 x1) ((List.replicate r_3.toNat (0 : Int)), 0)).bind (fun p => match p with | (l1, x7) => some (l1, 0)))))))))

def impl_ValueAt.R (r : (List Int) × Int) (v : Value) (L : List Asn) : Prop := ∃ (s0 : SV), v = .tuple #[SV.v s0, .int .i64 r.2] ∧ L = [row Ei 2 s0 r.1]

set_option maxRecDepth 100000 in
set_option maxHeartbeats 4000000 in
theorem impl_ValueAt.calls (w : World) (x1 : Int) (x2 : Int) (x3 : Int) (x4 : Int) (s1 : SV) (x5 : List Int) (s2 : SV) (x6 : List (Nat → UInt8)) (h1 : Reads Ei (hp w) s1 x5) (h2 : Reads (Evec 6) (hp w) s2 x6) :
    ∀ r, impl_ValueAt.f x1 x2 x3 x4 x5 x6 = some r → Calls Try.prog 32 #[sval [.one (.int .i64 x1), .one (.int .i64 x2), .one (.int .i64 x3), .one (.int .i64 x4), .one (SV.v s1)], SV.v s2] w (Ret w (impl_ValueAt.R r)) := by

  refine calls_T (n := 87) (Γ := [(0, sval [.one (.int .i64 x1), .one (.int .i64 x2), .one (.int .i64 x3), .one (.int .i64 x4), .one (SV.v s1)]), (1, SV.v s2)]) (R := impl_ValueAt.R) Try.func32 rfl rfl (Nat.le_of_ble_eq_true rfl) ⟨rfl, rfl, trivial⟩ ?_
  unfold impl_ValueAt.f
  refine TC.seq ?_
  refine TC.region ?_
  refine TL.box [.one (.int .i64 x1), .one (.int .i64 x2), .one (.int .i64 x3), .one (.int .i64 x4), .one (SV.v s1)] rfl rfl rfl rfl fun b_1 => ?_
  refine TL.assign rfl rfl (v := SV.v ⟨none, 0, 0⟩) rfl ?_
  refine TL.assign rfl rfl (v := .int .i64 0) rfl ?_
  refine TL.done ?_
  refine TC.seq ?_
  refine TC.block NoEx.body ?_
  refine TC.seq ?_
  refine TC.region ?_
  refine TL.loadM 0 5 (Src.box 0 rfl) Try.isAgg24 Try.sizeOf24 (mid := [.one (.int .i64 x1), .one (.int .i64 x2), .one (.int .i64 x3), .one (.int .i64 x4), .one (SV.v s1)]) rfl rfl rfl rfl rfl rfl ?_
  refine TL.call (R := G.impl_IsTensor.R) Try.call57 rfl rfl rfl (fun w hS => G.impl_IsTensor.calls w x1 x2 x3 x4 s1 x5 ((Rd.old h1) w hS)) ?_
  rintro r_1 _ _ ⟨rfl, rfl⟩
  refine TL.not r_1 rfl rfl rfl ?_
  refine TL.move rfl rfl (v := .bool (!r_1)) rfl ?_
  refine TL.cutJ (σ := Bool) (γ := Unit) (Γ' := fun b_2 _ => [(21, .bool b_2), (0, sval [.one (.int .i64 x1), .one (.int .i64 x2), .one (.int .i64 x3), .one (.int .i64 x4), .one (SV.v s1)]), (1, SV.v s2), (2, bp b_1 0), (4, SV.v ⟨none, 0, 0⟩), (5, .int .i64 0), (14, sval [.one (.int .i64 x1), .one (.int .i64 x2), .one (.int .i64 x3), .one (.int .i64 x4), .one (SV.v s1)]), (15, .bool r_1), (16, .bool (!r_1)), (17, .bool (!r_1))]) (L' := fun _ _ => [box b_1 24 [.one (.int .i64 x1), .one (.int .i64 x2), .one (.int .i64 x3), .one (.int .i64 x4), .one (SV.v s1)]]) 4 ?_ ?_
  · refine TL.ifb (t := 17) (b := (!r_1)) rfl (fun c1 => ?_) (fun c2 => ?_)
    · refine TL.skip rfl rfl (by decide) ?_
      refine TL.skip rfl rfl (by decide) ?_
      refine TL.skip rfl rfl (by decide) ?_
      refine TL.pick rfl rfl (b := true) rfl (r := .bool true) rfl ?_
      refine TL.done ?_
      exact TC.nrm (true) () ⟨rfl, rfl, rfl, rfl, rfl, rfl, rfl, rfl, rfl, (by rw [c1]; rfl), trivial⟩ [0] (by kernel_rfl)
    · refine TL.move rfl rfl (v := SV.v s2) rfl ?_
      refine TL.makeFunc rfl rfl (us := []) (vs := [bp b_1 0]) rfl rfl ?_
      refine TL.call (R := G.slices_ContainsFunc_impl_Vector_impl_Vector.R) Try.call73 rfl rfl rfl (fun w hS => G.slices_ContainsFunc_impl_Vector_impl_Vector.calls w s2 x6 74 [] [bp b_1 0] (fun x0_ => G.impl_ValueAt_1.f x0_ x1 x2 x3 x4 x5) ((Rd.old h2) w hS) Try.call74 (fun w_ hle_ x0_ r_ hr_ => G.impl_ValueAt_1.calls w_ x0_ b_1 x1 x2 x3 x4 s1 x5 (((Src.box 0 rfl) w hS).mono hle_) (((Rd.old h1) w hS).mono hle_) r_ hr_)) ?_
      rintro r_2 _ _ ⟨rfl, rfl⟩
      refine TL.pick rfl rfl (b := false) rfl (r := .bool r_2) rfl ?_
      refine TL.done ?_
      exact TC.nrm (r_2) () ⟨rfl, rfl, rfl, rfl, rfl, rfl, rfl, rfl, rfl, (by rw [c2]; rfl), trivial⟩ [0] (by kernel_rfl)
  · rintro b_2 _
    refine TL.assign rfl rfl (v := .bool b_2) rfl ?_
    refine TL.done ?_
    refine TC.cond (b := b_2) rfl (fun c3 => ?_) (fun c4 => ?_)
    · refine TC.seq ?_
      refine TC.region ?_
      refine TL.assign rfl rfl (v := SV.v ⟨none, 0, 0⟩) rfl ?_
      refine TL.assign rfl rfl (v := .int .i64 1) rfl ?_
      refine TL.done ?_
      refine TC.nilrow Ei 2 ?_
      exact TC.retF (Fin.body (fin2 (.inr rfl) rfl (.tmp rfl) (.tmp rfl) [0] rfl ⟨⟨none, 0, 0⟩, rfl, rfl⟩))
    · refine TC.seq ?_
      refine TC.region ?_
      refine TL.move rfl rfl (v := SV.v s2) rfl ?_
      refine TL.len (Rd.old h2) Try.underlying45 rfl rfl rfl ?_
      refine TL.fa Try.underlying24 rfl Try.sizeOf2 rfl 2 rfl rfl rfl rfl ?_
      refine TL.load1 2 (Src.box 0 rfl) Try.isAgg2 rfl rfl rfl rfl rfl ?_
      refine TL.bin .i64 (x6.length : Int) x3 rfl rfl rfl rfl (v := .bool ((x6.length : Int) != x3)) rfl ?_
      refine TL.assign rfl rfl (v := .bool ((x6.length : Int) != x3)) rfl ?_
      refine TL.done ?_
      refine TC.cond (b := ((x6.length : Int) != x3)) rfl (fun c5 => ?_) (fun c6 => ?_)
      · refine TC.seq ?_
        refine TC.region ?_
        refine TL.assign rfl rfl (v := SV.v ⟨none, 0, 0⟩) rfl ?_
        refine TL.assign rfl rfl (v := .int .i64 2) rfl ?_
        refine TL.done ?_
        refine TC.nilrow Ei 2 ?_
        exact TC.retF (Fin.body (fin2 (.inr rfl) rfl (.tmp rfl) (.tmp rfl) [0] rfl ⟨⟨none, 0, 0⟩, rfl, rfl⟩))
      · refine TC.skip ?_
        refine TC.seq ?_
        refine TC.region ?_
        refine TL.fa Try.underlying24 rfl Try.sizeOf2 rfl 1 rfl rfl rfl rfl ?_
        refine TL.load1 1 (Src.box 0 rfl) Try.isAgg2 rfl rfl rfl rfl rfl ?_
        refine TL.fa Try.underlying24 rfl Try.sizeOf2 rfl 3 rfl rfl rfl rfl ?_
        refine TL.load1 3 (Src.box 0 rfl) Try.isAgg2 rfl rfl rfl rfl rfl ?_
        refine TL.call (R := G.impl_powerOf.R) Try.call67 rfl rfl rfl (fun w hS => G.impl_powerOf.calls w x2 x4) ?_
        rintro r_3 _ _ ⟨rfl, rfl⟩
        refine TL.assign rfl rfl (v := .int .i64 r_3) rfl ?_
        refine TL.done ?_
        refine TC.seq ?_
        refine TC.region ?_
        refine TL.move rfl rfl (v := .int .i64 r_3) rfl ?_
        refine TL.grd fun h4 => ?_
        refine TL.small fun h3 => ?_
        refine TL.mkslice Ei (0 : Int) r_3 Try.underlying22 (info_of Try.type2) (zv := (Try.t2.zero.getD (.bool false))) rfl rfl rfl (by simp [Ei, flat, Seg.cells]) (by decide) (by simpa using h4) (by omega) rfl rfl rfl rfl fun s3 => ?_
        refine TL.assign rfl rfl (v := SV.v s3) rfl ?_
        refine TL.done ?_
        refine TC.seq ?_
        refine TC.seq ?_
        refine TC.region ?_
        refine TL.fa Try.underlying24 rfl Try.sizeOf22 rfl 4 rfl rfl rfl rfl ?_
        refine TL.load1 4 (Src.box 1 rfl) Try.isAgg22 rfl rfl rfl rfl rfl ?_
        refine TL.len (Rd.old h1) Try.underlying22 rfl rfl rfl ?_
        refine TL.move rfl rfl (v := .int .i64 0) rfl ?_
        refine TL.done ?_
        refine TC.loop1 (σ := (List Int) × Int) (γ := Unit) (Γ' := (fun p q => match p, q with | (l1, x7), _ => [(1, SV.v s2), (2, bp b_1 0), (6, .int .i64 r_3), (7, SV.v s3), (36, SV.v s1), (37, .int .i64 (x5.length : Int)), (38, .int .i64 x7)])) (L' := (fun p q => match p, q with | (l1, x7), _ => [box b_1 24 [.one (.int .i64 x1), .one (.int .i64 x2), .one (.int .i64 x3), .one (.int .i64 x4), .one (SV.v s1)], row Ei 2 s3 l1])) (Γb := (fun p q => match p, q with | (l1, x7), _ => [(1, SV.v s2), (2, bp b_1 0), (6, .int .i64 r_3), (7, SV.v s3), (36, SV.v s1), (37, .int .i64 (x5.length : Int)), (38, .int .i64 x7)])) (Lb := (fun p q => match p, q with | (l1, x7), _ => [box b_1 24 [.one (.int .i64 x1), .one (.int .i64 x2), .one (.int .i64 x3), .one (.int .i64 x4), .one (SV.v s1)], row Ei 2 s3 l1])) (((List.replicate r_3.toNat (0 : Int)), 0)) (()) ⟨rfl, rfl, rfl, rfl, rfl, rfl, rfl, trivial⟩ [1, 0] rfl ?_ ?_
        · rintro ⟨l1, x7⟩ _
          refine TC.seq ?_
          refine TC.region ?_
          refine TL.bin .i64 x7 (x5.length : Int) rfl rfl rfl rfl (v := .bool (decide (x7 < (x5.length : Int)))) rfl ?_
          refine TL.done ?_
          refine TC.seq ?_
          refine TC.cond (b := (decide (x7 < (x5.length : Int)))) rfl (fun c7 => ?_) (fun c8 => ?_)
          · refine TC.skip ?_
            refine TC.seq ?_
            refine TC.block (NoEx.loop1 rfl) ?_
            refine TC.seq ?_
            refine TC.region ?_
            refine TL.move rfl rfl (v := .int .i64 x7) rfl ?_
            refine TL.chk fun h5 => ?_
            refine TL.ixs x7 x7.toNat (Rd.old h1) h5 Try.underlying22 Try.sizeOf2 rfl rfl rfl rfl (by omega) ?_
            refine TL.loadE (Rd.old h1) Try.isAgg2 x7.toNat 0 (gt_spec h5) (v := .int .i64 (gt x5 x7)) rfl (by simp only [show Ei.sz = 1 from rfl] <;> omega) rfl rfl rfl ?_
            refine TL.assign rfl rfl (v := .int .i64 x7) rfl ?_
            refine TL.assign rfl rfl (v := .int .i64 (gt x5 x7)) rfl ?_
            refine TL.done ?_
            refine TC.seq ?_
            refine TC.seq ?_
            refine TC.wk (Γ' := [(1, SV.v s2), (2, bp b_1 0), (6, .int .i64 r_3), (7, SV.v s3), (36, SV.v s1), (37, .int .i64 (x5.length : Int)), (38, .int .i64 x7), (39, .bool (decide (x7 < (x5.length : Int)))), (40, .int .i64 x7), (41, ep s1 x7.toNat), (42, .int .i64 (gt x5 x7)), (8, .int .i64 x7), (9, .int .i64 (gt x5 x7))]) ⟨rfl, rfl, rfl, rfl, rfl, rfl, rfl, rfl, rfl, rfl, rfl, rfl, rfl, trivial⟩ ?_
            refine TC.nz fun z1 => ?_
            refine TC.bindE ?_
            rintro r_4 hr1
            refine TC.drawG [(1, SV.v s2), (2, bp b_1 0), (6, .int .i64 r_3), (7, SV.v s3), (36, SV.v s1), (37, .int .i64 (x5.length : Int)), (38, .int .i64 x7), (39, .bool (decide (x7 < (x5.length : Int)))), (40, .int .i64 x7), (41, ep s1 x7.toNat), (42, .int .i64 (gt x5 x7)), (8, .int .i64 x7), (9, .int .i64 (gt x5 x7))] [] ⟨rfl, rfl, rfl, rfl, rfl, rfl, rfl, rfl, rfl, rfl, rfl, rfl, rfl, trivial⟩ trivial (fun l_ g1 => [box b_1 24 [.one (.int .i64 x1), .one (.int .i64 x2), .one (.int .i64 x3), .one (.int .i64 x4), .one (SV.v s1)], row Ei 2 s3 l1, (bif nb l_ 7 then row Ei 2 (gs (g1 56)) r_4 else emp)]) (fun g1 => [.int .i64 x7, .int .i64 r_3, .int .i64 (w64 (Int.tdiv x7 r_3)), bp b_1 1, .int .i64 x2, bp b_1 2, .int .i64 x3, SV.v (gs (g1 56)), .int .i64 (r_4.length : Int), .int .i64 0]) [[], [], [0, 1], [], [3], [], [5], [0, 1, 2, 3, 4, 5, 6], [0, 1, 2, 3, 4, 5, 6, 7], []] [[some false, none, some false, none, none, none, none, some false, some false, none], [none, some false, some false, none, none, none, none, some false, some false, none], [some true, some true, some false, none, none, none, none, some false, some false, none], [none, none, none, some false, some false, none, none, some false, some false, none], [none, none, none, some true, some false, none, none, some false, some false, none], [none, none, none, none, none, some false, some false, some false, some false, none], [none, none, none, none, none, some true, some false, some false, some false, none], [some true, some true, some true, some true, some true, some true, some true, some false, some false, none], [some true, some true, some true, some true, some true, some true, some true, some true, some false, none], [none, none, none, none, none, none, none, none, none, some false]] (by kernel_rfl) (fun _ => rfl) rfl rfl rfl rfl rfl (fun _ _ => ⟨⟨⟨⟨⟨⟨⟨⟨⟨⟨trivial, rfl⟩, rfl⟩, rfl⟩, rfl⟩, rfl⟩, rfl⟩, rfl⟩, rfl⟩, rfl⟩, rfl⟩) 1 [1, 1, 0] (fun _ => by kernel_rfl) ?_ ?_
            · refine ⟨rfl, ?_, rfl, ?_, rfl, ?_, rfl, ?_, rfl, ?_, rfl, ?_, rfl, ?_, rfl, ?_, rfl, ?_, rfl, ?_, trivial⟩
              · intro b1_ b3_ b4_ b5_ b6_ b9_ g1
                refine TL.move rfl rfl (v := .int .i64 x7) rfl ?_
                refine TL.done ?_
                exact TC.nrm () [] ⟨rfl, trivial⟩ [0, 0, 0] (by kernel_rfl)
              · intro b0_ b3_ b4_ b5_ b6_ b9_ g1
                refine TL.move rfl rfl (v := .int .i64 r_3) rfl ?_
                refine TL.done ?_
                exact TC.nrm () [] ⟨rfl, trivial⟩ [0, 0, 0] (by kernel_rfl)
              · intro b3_ b4_ b5_ b6_ b9_ g1
                refine TL.quo .i64 x7 r_3 z1 rfl rfl rfl rfl ?_
                refine TL.done ?_
                exact TC.nrm () [] ⟨rfl, trivial⟩ [0, 0, 0] (by kernel_rfl)
              · intro b0_ b1_ b2_ b5_ b6_ b9_ g1
                refine TL.asL [box b_1 24 [.one (.int .i64 x1), .one (.int .i64 x2), .one (.int .i64 x3), .one (.int .i64 x4), .one (SV.v s1)], row Ei 2 s3 l1, emp] (by kernel_rfl) ?_
                refine TL.fa Try.underlying24 rfl Try.sizeOf2 rfl 1 rfl rfl rfl rfl ?_
                refine TL.done ?_
                exact TC.nrm () [] ⟨rfl, trivial⟩ [0, 0, 0] (by kernel_rfl)
              · intro b0_ b1_ b2_ b5_ b6_ b9_ g1
                refine TL.asL [box b_1 24 [.one (.int .i64 x1), .one (.int .i64 x2), .one (.int .i64 x3), .one (.int .i64 x4), .one (SV.v s1)], row Ei 2 s3 l1, emp] (by kernel_rfl) ?_
                refine TL.load1 1 (Src.box 0 rfl) Try.isAgg2 rfl rfl rfl rfl rfl ?_
                refine TL.done ?_
                exact TC.nrm () [] ⟨rfl, trivial⟩ [0, 0, 0] (by kernel_rfl)
              · intro b0_ b1_ b2_ b3_ b4_ b9_ g1
                refine TL.asL [box b_1 24 [.one (.int .i64 x1), .one (.int .i64 x2), .one (.int .i64 x3), .one (.int .i64 x4), .one (SV.v s1)], row Ei 2 s3 l1, emp] (by kernel_rfl) ?_
                refine TL.fa Try.underlying24 rfl Try.sizeOf2 rfl 2 rfl rfl rfl rfl ?_
                refine TL.done ?_
                exact TC.nrm () [] ⟨rfl, trivial⟩ [0, 0, 0] (by kernel_rfl)
              · intro b0_ b1_ b2_ b3_ b4_ b9_ g1
                refine TL.asL [box b_1 24 [.one (.int .i64 x1), .one (.int .i64 x2), .one (.int .i64 x3), .one (.int .i64 x4), .one (SV.v s1)], row Ei 2 s3 l1, emp] (by kernel_rfl) ?_
                refine TL.load1 2 (Src.box 0 rfl) Try.isAgg2 rfl rfl rfl rfl rfl ?_
                refine TL.done ?_
                exact TC.nrm () [] ⟨rfl, trivial⟩ [0, 0, 0] (by kernel_rfl)
              · intro b9_ g1
                refine TL.asL [box b_1 24 [.one (.int .i64 x1), .one (.int .i64 x2), .one (.int .i64 x3), .one (.int .i64 x4), .one (SV.v s1)], row Ei 2 s3 l1, emp] (by kernel_rfl) ?_
                refine TL.callH (R := G.impl_digits.R) hr1 Try.call69 rfl rfl rfl (fun w hS => G.impl_digits.calls w (w64 (Int.tdiv x7 r_3)) x2 x3) ?_
                rintro _ _ ⟨s4, rfl, rfl⟩
                refine TL.done ?_
                exact TC.nrm () [[s4]] ⟨rfl, trivial⟩ [1, 1, 0] (by kernel_rfl)
              · intro b9_ g1
                refine TL.asL [box b_1 24 [.one (.int .i64 x1), .one (.int .i64 x2), .one (.int .i64 x3), .one (.int .i64 x4), .one (SV.v s1)], row Ei 2 s3 l1, row Ei 2 (gs (g1 56)) r_4] (by kernel_rfl) ?_
                refine TL.len (Rd.row 2 rfl) Try.underlying22 rfl rfl rfl ?_
                refine TL.done ?_
                exact TC.nrm () [] ⟨rfl, trivial⟩ [0, 0, 0] (by kernel_rfl)
              · intro b0_ b1_ b2_ b3_ b4_ b5_ b6_ b7_ b8_ g1
                refine TL.move rfl rfl (v := .int .i64 0) rfl ?_
                refine TL.done ?_
                exact TC.nrm () [] ⟨rfl, trivial⟩ [0, 0, 0] (by kernel_rfl)
            · intro g1
              refine TC.asL [box b_1 24 [.one (.int .i64 x1), .one (.int .i64 x2), .one (.int .i64 x3), .one (.int .i64 x4), .one (SV.v s1)], row Ei 2 s3 l1, row Ei 2 (gs (g1 56)) r_4] (by kernel_rfl) ?_
              refine TC.loop1 (σ := Int × Int) (γ := Unit) (Γ' := (fun p q => match p, q with | (x8, x9), _ => [(1, SV.v s2), (2, bp b_1 0), (6, .int .i64 r_3), (7, SV.v s3), (8, .int .i64 x7), (9, .int .i64 x8), (36, SV.v s1), (37, .int .i64 (x5.length : Int)), (38, .int .i64 x7), (50, SV.v (gs (g1 56))), (51, .int .i64 (r_4.length : Int)), (52, .int .i64 x9)])) (L' := (fun p q => match p, q with | (x8, x9), _ => [box b_1 24 [.one (.int .i64 x1), .one (.int .i64 x2), .one (.int .i64 x3), .one (.int .i64 x4), .one (SV.v s1)], row Ei 2 s3 l1, row Ei 2 (gs (g1 56)) r_4])) (Γb := (fun p q => match p, q with | (x8, x9), _ => [(1, SV.v s2), (2, bp b_1 0), (6, .int .i64 r_3), (7, SV.v s3), (8, .int .i64 x7), (9, .int .i64 x8), (36, SV.v s1), (37, .int .i64 (x5.length : Int)), (38, .int .i64 x7), (50, SV.v (gs (g1 56))), (51, .int .i64 (r_4.length : Int)), (52, .int .i64 x9)])) (Lb := (fun p q => match p, q with | (x8, x9), _ => [box b_1 24 [.one (.int .i64 x1), .one (.int .i64 x2), .one (.int .i64 x3), .one (.int .i64 x4), .one (SV.v s1)], row Ei 2 s3 l1, row Ei 2 (gs (g1 56)) r_4])) (((gt x5 x7), 0)) (()) ⟨rfl, rfl, rfl, rfl, rfl, rfl, rfl, rfl, rfl, rfl, rfl, rfl, trivial⟩ [0, 0, 0] rfl ?_ ?_
              · rintro ⟨x8, x9⟩ _
                refine TC.seq ?_
                refine TC.region ?_
                refine TL.bin .i64 x9 (r_4.length : Int) rfl rfl rfl rfl (v := .bool (decide (x9 < (r_4.length : Int)))) rfl ?_
                refine TL.done ?_
                refine TC.seq ?_
                refine TC.cond (b := (decide (x9 < (r_4.length : Int)))) rfl (fun c9 => ?_) (fun c10 => ?_)
                · refine TC.skip ?_
                  refine TC.seq ?_
                  refine TC.block (NoEx.loop1 rfl) ?_
                  refine TC.seq ?_
                  refine TC.region ?_
                  refine TL.move rfl rfl (v := .int .i64 x9) rfl ?_
                  refine TL.chk fun h6 => ?_
                  refine TL.ixs x9 x9.toNat (Rd.row 2 rfl) h6 Try.underlying22 Try.sizeOf2 rfl rfl rfl rfl (by omega) ?_
                  refine TL.loadE (Rd.row 2 rfl) Try.isAgg2 x9.toNat 0 (gt_spec h6) (v := .int .i64 (gt r_4 x9)) rfl (by simp only [show Ei.sz = 1 from rfl] <;> omega) rfl rfl rfl ?_
                  refine TL.assign rfl rfl (v := .int .i64 x9) rfl ?_
                  refine TL.assign rfl rfl (v := .int .i64 (gt r_4 x9)) rfl ?_
                  refine TL.done ?_
                  refine TC.wk (Γ' := [(1, SV.v s2), (2, bp b_1 0), (6, .int .i64 r_3), (7, SV.v s3), (8, .int .i64 x7), (36, SV.v s1), (37, .int .i64 (x5.length : Int)), (38, .int .i64 x7), (50, SV.v (gs (g1 56))), (51, .int .i64 (r_4.length : Int)), (52, .int .i64 x9), (53, .bool (decide (x9 < (r_4.length : Int)))), (54, .int .i64 x9), (55, ep (gs (g1 56)) x9.toNat), (56, .int .i64 (gt r_4 x9)), (10, .int .i64 x9), (11, .int .i64 (gt r_4 x9)), (9, .int .i64 x8)]) ⟨rfl, rfl, rfl, rfl, rfl, rfl, rfl, rfl, rfl, rfl, rfl, rfl, rfl, rfl, rfl, rfl, rfl, rfl, trivial⟩ ?_
                  refine TC.chk fun h7 => ?_
                  refine TC.chk fun h8 => ?_
                  refine TC.nz fun z2 => ?_
                  refine TC.drawG [(1, SV.v s2), (2, bp b_1 0), (6, .int .i64 r_3), (7, SV.v s3), (8, .int .i64 x7), (36, SV.v s1), (37, .int .i64 (x5.length : Int)), (38, .int .i64 x7), (50, SV.v (gs (g1 56))), (51, .int .i64 (r_4.length : Int)), (52, .int .i64 x9), (53, .bool (decide (x9 < (r_4.length : Int)))), (54, .int .i64 x9), (55, ep (gs (g1 56)) x9.toNat), (56, .int .i64 (gt r_4 x9)), (10, .int .i64 x9), (11, .int .i64 (gt r_4 x9))] [(9, .int .i64 x8, 12)] ⟨rfl, rfl, rfl, rfl, rfl, rfl, rfl, rfl, rfl, rfl, rfl, rfl, rfl, rfl, rfl, rfl, rfl, trivial⟩ ⟨rfl, trivial⟩ (fun l_ g2 => [box b_1 24 [.one (.int .i64 x1), .one (.int .i64 x2), .one (.int .i64 x3), .one (.int .i64 x4), .one (SV.v s1)], row Ei 2 s3 l1, row Ei 2 (gs (g1 56)) r_4]) (fun g2 => [.int .i64 x8, SV.v s2, .int .i64 x9, .int .i64 (gt r_4 x9), ep s2 (x9.toNat * 6), ep s2 (x9.toNat * 6 + (gt r_4 x9).toNat), u8v ((gt x6 x9) ((gt r_4 x9).toNat)), .int .i64 (((gt x6 x9) ((gt r_4 x9).toNat)).toNat : Int), .int .i64 (w64 (x8 * (((gt x6 x9) ((gt r_4 x9).toNat)).toNat : Int))), bp b_1 0, .int .i64 x1, .int .i64 (Int.tmod (w64 (x8 * (((gt x6 x9) ((gt r_4 x9).toNat)).toNat : Int))) x1), .int .i64 (Int.tmod (w64 (x8 * (((gt x6 x9) ((gt r_4 x9).toNat)).toNat : Int))) x1)]) [[], [], [], [], [1, 2], [1, 2, 3, 4], [1, 2, 3, 4, 5], [1, 2, 3, 4, 5, 6], [0, 1, 2, 3, 4, 5, 6, 7], [], [9], [0, 1, 2, 3, 4, 5, 6, 7, 8, 9, 10], [0, 1, 2, 3, 4, 5, 6, 7, 8, 9, 10, 11]] [[some false, none, none, none, none, none, none, none, some false, none, none, some false, some false], [none, some false, none, none, some false, some false, some false, some false, some false, none, none, some false, some false], [none, none, some false, none, some false, some false, some false, some false, some false, none, none, some false, some false], [none, none, none, some false, none, some false, some false, some false, some false, none, none, some false, some false], [none, some true, some true, none, some false, some false, some false, some false, some false, none, none, some false, some false], [none, some true, some true, some true, some true, some false, some false, some false, some false, none, none, some false, some false], [none, some true, some true, some true, some true, some true, some false, some false, some false, none, none, some false, some false], [none, some true, some true, some true, some true, some true, some true, some false, some false, none, none, some false, some false], [some true, some true, some true, some true, some true, some true, some true, some true, some false, none, none, some false, some false], [none, none, none, none, none, none, none, none, none, some false, some false, some false, some false], [none, none, none, none, none, none, none, none, none, some true, some false, some false, some false], [some true, some true, some true, some true, some true, some true, some true, some true, some true, some true, some true, some false, some false], [some true, some true, some true, some true, some true, some true, some true, some true, some true, some true, some true, some true, some false]] (by kernel_rfl) (fun _ => rfl) rfl rfl rfl rfl rfl (fun _ _ => ⟨⟨⟨⟨⟨⟨⟨⟨⟨⟨⟨⟨⟨trivial, rfl⟩, rfl⟩, rfl⟩, rfl⟩, rfl⟩, rfl⟩, rfl⟩, rfl⟩, rfl⟩, rfl⟩, rfl⟩, rfl⟩, rfl⟩) 0 [0, 0, 0] (fun _ => by kernel_rfl) ?_ ?_
                  · refine ⟨rfl, ?_, rfl, ?_, rfl, ?_, rfl, ?_, rfl, ?_, rfl, ?_, rfl, ?_, rfl, ?_, rfl, ?_, rfl, ?_, rfl, ?_, rfl, ?_, rfl, ?_, trivial⟩
                    · intro b1_ b2_ b3_ b4_ b5_ b6_ b7_ b9_ b10_ g2
                      refine TL.move rfl rfl (v := .int .i64 x8) rfl ?_
                      refine TL.done ?_
                      exact TC.nrm () [] ⟨rfl, trivial⟩ [0, 0, 0] (by kernel_rfl)
                    · intro b0_ b2_ b3_ b9_ b10_ g2
                      refine TL.move rfl rfl (v := SV.v s2) rfl ?_
                      refine TL.done ?_
                      exact TC.nrm () [] ⟨rfl, trivial⟩ [0, 0, 0] (by kernel_rfl)
                    · intro b0_ b1_ b3_ b9_ b10_ g2
                      refine TL.move rfl rfl (v := .int .i64 x9) rfl ?_
                      refine TL.done ?_
                      exact TC.nrm () [] ⟨rfl, trivial⟩ [0, 0, 0] (by kernel_rfl)
                    · intro b0_ b1_ b2_ b4_ b9_ b10_ g2
                      refine TL.move rfl rfl (v := .int .i64 (gt r_4 x9)) rfl ?_
                      refine TL.done ?_
                      exact TC.nrm () [] ⟨rfl, trivial⟩ [0, 0, 0] (by kernel_rfl)
                    · intro b0_ b3_ b9_ b10_ g2
                      refine TL.asL [box b_1 24 [.one (.int .i64 x1), .one (.int .i64 x2), .one (.int .i64 x3), .one (.int .i64 x4), .one (SV.v s1)], row Ei 2 s3 l1, row Ei 2 (gs (g1 56)) r_4] (by kernel_rfl) ?_
                      refine TL.ixs x9 (x9.toNat * 6) (Rd.old h2) h7 Try.underlying45 Try.sizeOf58 rfl rfl rfl rfl (by omega) ?_
                      refine TL.done ?_
                      exact TC.nrm () [] ⟨rfl, trivial⟩ [0, 0, 0] (by kernel_rfl)
                    · intro b0_ b9_ b10_ g2
                      refine TL.asL [box b_1 24 [.one (.int .i64 x1), .one (.int .i64 x2), .one (.int .i64 x3), .one (.int .i64 x4), .one (SV.v s1)], row Ei 2 s3 l1, row Ei 2 (gs (g1 56)) r_4] (by kernel_rfl) ?_
                      refine TL.ixe (gt r_4 x9) (x9.toNat * 6 + (gt r_4 x9).toNat) (Rd.old h2) (by have h_ := h7; omega) h8 Try.underlying58 Try.sizeOf5 rfl rfl rfl rfl (by omega) ?_
                      refine TL.done ?_
                      exact TC.nrm () [] ⟨rfl, trivial⟩ [0, 0, 0] (by kernel_rfl)
                    · intro b0_ b9_ b10_ g2
                      refine TL.asL [box b_1 24 [.one (.int .i64 x1), .one (.int .i64 x2), .one (.int .i64 x3), .one (.int .i64 x4), .one (SV.v s1)], row Ei 2 s3 l1, row Ei 2 (gs (g1 56)) r_4] (by kernel_rfl) ?_
                      refine TL.loadE (Rd.old h2) Try.isAgg5 x9.toNat ((gt r_4 x9).toNat) (gt_spec h7) (v := u8v ((gt x6 x9) ((gt r_4 x9).toNat))) (Evec_at _ (by have h_ := h8; omega)) (by simp only [show (Evec 6).sz = 6 from rfl] <;> omega) rfl rfl rfl ?_
                      refine TL.done ?_
                      exact TC.nrm () [] ⟨rfl, trivial⟩ [0, 0, 0] (by kernel_rfl)
                    · intro b0_ b9_ b10_ g2
                      refine TL.conv .u8 .i64 (((gt x6 x9) ((gt r_4 x9).toNat)).toNat : Int) _ rfl rfl rfl Try.underlying5 Try.underlying2 (v := .int .i64 (((gt x6 x9) ((gt r_4 x9).toNat)).toNat : Int)) (conv_u8_i64 _) ?_
                      refine TL.done ?_
                      exact TC.nrm () [] ⟨rfl, trivial⟩ [0, 0, 0] (by kernel_rfl)
                    · intro b9_ b10_ g2
                      refine TL.bin .i64 x8 (((gt x6 x9) ((gt r_4 x9).toNat)).toNat : Int) rfl rfl rfl rfl (v := .int .i64 (w64 (x8 * (((gt x6 x9) ((gt r_4 x9).toNat)).toNat : Int)))) rfl ?_
                      refine TL.done ?_
                      exact TC.nrm () [] ⟨rfl, trivial⟩ [0, 0, 0] (by kernel_rfl)
                    · intro b0_ b1_ b2_ b3_ b4_ b5_ b6_ b7_ b8_ g2
                      refine TL.asL [box b_1 24 [.one (.int .i64 x1), .one (.int .i64 x2), .one (.int .i64 x3), .one (.int .i64 x4), .one (SV.v s1)], row Ei 2 s3 l1, row Ei 2 (gs (g1 56)) r_4] (by kernel_rfl) ?_
                      refine TL.fa Try.underlying24 rfl Try.sizeOf2 rfl 0 rfl rfl rfl rfl ?_
                      refine TL.done ?_
                      exact TC.nrm () [] ⟨rfl, trivial⟩ [0, 0, 0] (by kernel_rfl)
                    · intro b0_ b1_ b2_ b3_ b4_ b5_ b6_ b7_ b8_ g2
                      refine TL.asL [box b_1 24 [.one (.int .i64 x1), .one (.int .i64 x2), .one (.int .i64 x3), .one (.int .i64 x4), .one (SV.v s1)], row Ei 2 s3 l1, row Ei 2 (gs (g1 56)) r_4] (by kernel_rfl) ?_
                      refine TL.load1 0 (Src.box 0 rfl) Try.isAgg2 rfl rfl rfl rfl rfl ?_
                      refine TL.done ?_
                      exact TC.nrm () [] ⟨rfl, trivial⟩ [0, 0, 0] (by kernel_rfl)
                    · intro g2
                      refine TL.rem .i64 (w64 (x8 * (((gt x6 x9) ((gt r_4 x9).toNat)).toNat : Int))) x1 z2 rfl rfl rfl rfl ?_
                      refine TL.done ?_
                      exact TC.nrm () [] ⟨rfl, trivial⟩ [0, 0, 0] (by kernel_rfl)
                    · intro g2
                      refine TL.assign rfl rfl (v := .int .i64 (Int.tmod (w64 (x8 * (((gt x6 x9) ((gt r_4 x9).toNat)).toNat : Int))) x1)) rfl ?_
                      refine TL.done ?_
                      exact TC.nrm () [] ⟨rfl, trivial⟩ [0, 0, 0] (by kernel_rfl)
                  · intro g2
                    refine TC.asL [box b_1 24 [.one (.int .i64 x1), .one (.int .i64 x2), .one (.int .i64 x3), .one (.int .i64 x4), .one (SV.v s1)], row Ei 2 s3 l1, row Ei 2 (gs (g1 56)) r_4] (by kernel_rfl) ?_
                    refine TC.region ?_
                    refine TL.bin .i64 x9 1 rfl rfl rfl rfl (v := .int .i64 (w64 (x9 + 1))) rfl ?_
                    refine TL.move rfl rfl (v := .int .i64 (w64 (x9 + 1))) rfl ?_
                    refine TL.done ?_
                    exact TC.next1 (((Int.tmod (w64 (x8 * (((gt x6 x9) ((gt r_4 x9).toNat)).toNat : Int))) x1), (w64 (x9 + 1)))) (()) ⟨rfl, rfl, rfl, rfl, rfl, rfl, rfl, rfl, rfl, rfl, rfl, rfl, trivial⟩ [0, 0, 0] rfl
                · exact TC.brk1 ((x8, x9)) (()) ⟨rfl, rfl, rfl, rfl, rfl, rfl, rfl, rfl, rfl, rfl, rfl, rfl, trivial⟩ [0, 0, 0] rfl
              · rintro ⟨x8, x9⟩ _
                refine TC.seq ?_
                refine TC.region ?_
                refine TL.move rfl rfl (v := .int .i64 x7) rfl ?_
                refine TL.move rfl rfl (v := .int .i64 r_3) rfl ?_
                refine TL.rem .i64 x7 r_3 z1 rfl rfl rfl rfl ?_
                refine TL.assign rfl rfl (v := .int .i64 (Int.tmod x7 r_3)) rfl ?_
                refine TL.done ?_
                refine TC.wk (Γ' := [(1, SV.v s2), (2, bp b_1 0), (6, .int .i64 r_3), (7, SV.v s3), (8, .int .i64 x7), (9, .int .i64 x8), (36, SV.v s1), (37, .int .i64 (x5.length : Int)), (38, .int .i64 x7), (50, SV.v (gs (g1 56))), (51, .int .i64 (r_4.length : Int)), (52, .int .i64 x9), (70, .int .i64 x7), (71, .int .i64 r_3), (72, .int .i64 (Int.tmod x7 r_3)), (12, .int .i64 (Int.tmod x7 r_3))]) ⟨rfl, rfl, rfl, rfl, rfl, rfl, rfl, rfl, rfl, rfl, rfl, rfl, rfl, rfl, rfl, rfl, trivial⟩ ?_
                refine TC.chk fun h9 => ?_
                refine TC.nz fun z3 => ?_
                refine TC.draw [SV.v s3, .int .i64 (Int.tmod x7 r_3), SV.v s3, .int .i64 (Int.tmod x7 r_3), ep s3 ((Int.tmod x7 r_3).toNat), .int .i64 (gt l1 (Int.tmod x7 r_3)), .int .i64 x8, .int .i64 (w64 ((gt l1 (Int.tmod x7 r_3)) + x8)), bp b_1 0, .int .i64 x1, .int .i64 (Int.tmod (w64 ((gt l1 (Int.tmod x7 r_3)) + x8)) x1), ep s3 ((Int.tmod x7 r_3).toNat), undef] 12 [box b_1 24 [.one (.int .i64 x1), .one (.int .i64 x2), .one (.int .i64 x3), .one (.int .i64 x4), .one (SV.v s1)], row Ei 2 s3 (l1.set (Int.tmod x7 r_3).toNat (Int.tmod (w64 ((gt l1 (Int.tmod x7 r_3)) + x8)) x1)), row Ei 2 (gs (g1 56)) r_4] (by kernel_rfl) rfl rfl rfl rfl ?_ ?_
                · refine ⟨?_, ?_, ?_, ?_, ?_, ?_, ?_, ?_, ?_, ?_, ?_, ?_, ?_, trivial⟩
                  · refine TL.move rfl rfl (v := SV.v s3) rfl ?_
                    refine TL.done ?_
                    exact TC.nrm () () ⟨rfl, trivial⟩ [0, 0, 0] (by kernel_rfl)
                  · refine TL.move rfl rfl (v := .int .i64 (Int.tmod x7 r_3)) rfl ?_
                    refine TL.done ?_
                    exact TC.nrm () () ⟨rfl, trivial⟩ [0, 0, 0] (by kernel_rfl)
                  · refine TL.move rfl rfl (v := SV.v s3) rfl ?_
                    refine TL.done ?_
                    exact TC.nrm () () ⟨rfl, trivial⟩ [0, 0, 0] (by kernel_rfl)
                  · refine TL.move rfl rfl (v := .int .i64 (Int.tmod x7 r_3)) rfl ?_
                    refine TL.done ?_
                    exact TC.nrm () () ⟨rfl, trivial⟩ [0, 0, 0] (by kernel_rfl)
                  · refine TL.ixs (Int.tmod x7 r_3) ((Int.tmod x7 r_3).toNat) (Rd.row 1 rfl) h9 Try.underlying22 Try.sizeOf2 rfl rfl rfl rfl (by omega) ?_
                    refine TL.done ?_
                    exact TC.nrm () () ⟨rfl, trivial⟩ [0, 0, 0] (by kernel_rfl)
                  · refine TL.loadE (Rd.row 1 rfl) Try.isAgg2 (Int.tmod x7 r_3).toNat 0 (gt_spec h9) (v := .int .i64 (gt l1 (Int.tmod x7 r_3))) rfl (by simp only [show Ei.sz = 1 from rfl] <;> omega) rfl rfl rfl ?_
                    refine TL.done ?_
                    exact TC.nrm () () ⟨rfl, trivial⟩ [0, 0, 0] (by kernel_rfl)
                  · refine TL.move rfl rfl (v := .int .i64 x8) rfl ?_
                    refine TL.done ?_
                    exact TC.nrm () () ⟨rfl, trivial⟩ [0, 0, 0] (by kernel_rfl)
                  · refine TL.bin .i64 (gt l1 (Int.tmod x7 r_3)) x8 rfl rfl rfl rfl (v := .int .i64 (w64 ((gt l1 (Int.tmod x7 r_3)) + x8))) rfl ?_
                    refine TL.done ?_
                    exact TC.nrm () () ⟨rfl, trivial⟩ [0, 0, 0] (by kernel_rfl)
                  · refine TL.fa Try.underlying24 rfl Try.sizeOf2 rfl 0 rfl rfl rfl rfl ?_
                    refine TL.done ?_
                    exact TC.nrm () () ⟨rfl, trivial⟩ [0, 0, 0] (by kernel_rfl)
                  · refine TL.load1 0 (Src.box 0 rfl) Try.isAgg2 rfl rfl rfl rfl rfl ?_
                    refine TL.done ?_
                    exact TC.nrm () () ⟨rfl, trivial⟩ [0, 0, 0] (by kernel_rfl)
                  · refine TL.rem .i64 (w64 ((gt l1 (Int.tmod x7 r_3)) + x8)) x1 z3 rfl rfl rfl rfl ?_
                    refine TL.done ?_
                    exact TC.nrm () () ⟨rfl, trivial⟩ [0, 0, 0] (by kernel_rfl)
                  · refine TL.ixs (Int.tmod x7 r_3) ((Int.tmod x7 r_3).toNat) (Rd.row 1 rfl) h9 Try.underlying22 Try.sizeOf2 rfl rfl rfl rfl (by omega) ?_
                    refine TL.done ?_
                    exact TC.nrm () () ⟨rfl, trivial⟩ [0, 0, 0] (by kernel_rfl)
                  · refine TL.stE 1 ((Int.tmod x7 r_3).toNat) (Int.tmod (w64 ((gt l1 (Int.tmod x7 r_3)) + x8)) x1) (v := .int .i64 (Int.tmod (w64 ((gt l1 (Int.tmod x7 r_3)) + x8)) x1)) rfl Try.sizeOf2 rfl rfl rfl (by have h_ := h9; omega) (by simp only [show Ei.sz = 1 from rfl] <;> omega) rfl rfl rfl ?_
                    refine TL.done ?_
                    exact TC.nrm () () trivial [0, 0, 0] (by kernel_rfl)
                · refine TC.region ?_
                  refine TL.bin .i64 x7 1 rfl rfl rfl rfl (v := .int .i64 (w64 (x7 + 1))) rfl ?_
                  refine TL.move rfl rfl (v := .int .i64 (w64 (x7 + 1))) rfl ?_
                  refine TL.done ?_
                  exact TC.next1 (((l1.set (Int.tmod x7 r_3).toNat (Int.tmod (w64 ((gt l1 (Int.tmod x7 r_3)) + x8)) x1)), (w64 (x7 + 1)))) (()) ⟨rfl, rfl, rfl, rfl, rfl, rfl, rfl, trivial⟩ [0, 0] rfl
          · exact TC.brk1 ((l1, x7)) (()) ⟨rfl, rfl, rfl, rfl, rfl, rfl, rfl, trivial⟩ [0, 0] rfl
        · rintro ⟨l1, x7⟩ _
          refine TC.seq ?_
          refine TC.region ?_
          refine TL.move rfl rfl (v := SV.v s3) rfl ?_
          refine TL.assign rfl rfl (v := SV.v s3) rfl ?_
          refine TL.assign rfl rfl (v := .int .i64 0) rfl ?_
          refine TL.done ?_
          exact TC.retF (Fin.body (fin2 (.inr rfl) rfl (.tmp rfl) (.tmp rfl) [1] rfl ⟨s3, rfl, rfl⟩))

end Go.Proofs.Ytjjfoofjipafiaa.G

/- laws.eqVector, as a pure function. -/
set_option linter.unusedVariables false
namespace Go.Proofs.Ytjjfoofjipafiaa.G
open Go Go.Sx Go.Proofs

def laws_eqVector.b0 (a_1 : Nat → UInt8) (b_1 : Nat → UInt8) : Int → Option (LR Int Bool) := fun i1 => (bif (decide (i1 < 6)) then chk i1 6 ((bif (((a_1 i1.toNat).toNat : Int) != ((b_1 i1.toNat).toNat : Int)) then some (.ret (false)) else some (.next (w64 (i1 + 1))))) else some (.brk i1))

def laws_eqVector.f (a_1 : Nat → UInt8) (b_1 : Nat → UInt8) : Option Bool := (loop (laws_eqVector.b0 a_1 b_1) 0).bind (ln (fun i1 => some true))

def laws_eqVector.R (r : Bool) (v : Value) (L : List Asn) : Prop := v = .bool r ∧ L = []

set_option maxRecDepth 100000 in
set_option maxHeartbeats 4000000 in
theorem laws_eqVector.calls (w : World) (a_1 : Nat → UInt8) (b_1 : Nat → UInt8) :
    ∀ r, laws_eqVector.f a_1 b_1 = some r → Calls Try.prog 76 #[sval [.arr 6 (enf u8v a_1)], sval [.arr 6 (enf u8v b_1)]] w (Ret w (laws_eqVector.R r)) := by

  refine calls_T (n := 17) (Γ := [(0, sval [.arr 6 (enf u8v a_1)]), (1, sval [.arr 6 (enf u8v b_1)])]) (R := laws_eqVector.R) Try.func76 rfl rfl (Nat.le_of_ble_eq_true rfl) ⟨rfl, rfl, trivial⟩ ?_
  unfold laws_eqVector.f
  refine TC.seq ?_
  refine TC.region ?_
  refine TL.box [.arr 6 (enf u8v a_1)] rfl rfl rfl rfl fun b_2 => ?_
  refine TL.box [.arr 6 (enf u8v b_1)] rfl rfl rfl rfl fun b_3 => ?_
  refine TL.assign rfl rfl (v := .bool false) rfl ?_
  refine TL.done ?_
  refine TC.seq ?_
  refine TC.seq ?_
  refine TC.region ?_
  refine TL.assign rfl rfl (v := .int .i64 0) rfl ?_
  refine TL.done ?_
  refine TC.loopK (σ := Int) (γ := Unit) (Γ' := (fun i1 _ => [(2, bp b_2 0), (3, bp b_3 0), (5, .int .i64 i1)])) (L' := (fun i1 _ => [box b_2 58 [.arr 6 (enf u8v a_1)], box b_3 58 [.arr 6 (enf u8v b_1)]])) (Γb := (fun i1 _ => [(2, bp b_2 0), (3, bp b_3 0), (5, .int .i64 i1)])) (Lb := (fun i1 _ => [box b_2 58 [.arr 6 (enf u8v a_1)], box b_3 58 [.arr 6 (enf u8v b_1)]])) (0) (()) ⟨rfl, rfl, rfl, trivial⟩ [1, 0] rfl ?_ ?_
  · rintro i1 _
    refine TC.seq ?_
    refine TC.seq ?_
    refine TC.region ?_
    refine TL.move rfl rfl (v := .int .i64 i1) rfl ?_
    refine TL.bin .i64 i1 6 rfl rfl rfl rfl (v := .bool (decide (i1 < 6))) rfl ?_
    refine TL.done ?_
    refine TC.cond (b := (decide (i1 < 6))) rfl (fun c1 => ?_) (fun c2 => ?_)
    · refine TC.skip ?_
      refine TC.seq ?_
      refine TC.block (NoEx.loop rfl NoEx.body) ?_
      refine TC.seq ?_
      refine TC.wk (Γ' := [(2, bp b_2 0), (3, bp b_3 0), (5, .int .i64 i1), (6, .int .i64 i1), (7, .bool (decide (i1 < 6)))]) ⟨rfl, rfl, rfl, rfl, rfl, trivial⟩ ?_
      refine TC.chk fun h1 => ?_
      refine TC.draw [.int .i64 i1, bp b_2 i1.toNat, u8v (a_1 i1.toNat), .int .i64 i1, bp b_3 i1.toNat, u8v (b_1 i1.toNat), .bool (((a_1 i1.toNat).toNat : Int) != ((b_1 i1.toNat).toNat : Int))] 7 [box b_2 58 [.arr 6 (enf u8v a_1)], box b_3 58 [.arr 6 (enf u8v b_1)]] (by kernel_rfl) rfl rfl rfl rfl ?_ ?_
      · refine ⟨?_, ?_, ?_, ?_, ?_, ?_, ?_, trivial⟩
        · refine TL.move rfl rfl (v := .int .i64 i1) rfl ?_
          refine TL.done ?_
          exact TC.nrm () () ⟨rfl, trivial⟩ [0, 0] (by kernel_rfl)
        · refine TL.ixa i1 i1.toNat h1 Try.underlying58 Try.sizeOf5 rfl rfl rfl rfl (by omega) ?_
          refine TL.done ?_
          exact TC.nrm () () ⟨rfl, trivial⟩ [0, 0] (by kernel_rfl)
        · refine TL.loadA i1.toNat 0 (Src.box 0 rfl) Try.isAgg5 rfl (by omega) (v := u8v (a_1 i1.toNat)) rfl (st := 0) rfl (by omega) rfl rfl rfl ?_
          refine TL.done ?_
          exact TC.nrm () () ⟨rfl, trivial⟩ [0, 0] (by kernel_rfl)
        · refine TL.move rfl rfl (v := .int .i64 i1) rfl ?_
          refine TL.done ?_
          exact TC.nrm () () ⟨rfl, trivial⟩ [0, 0] (by kernel_rfl)
        · refine TL.ixa i1 i1.toNat h1 Try.underlying58 Try.sizeOf5 rfl rfl rfl rfl (by omega) ?_
          refine TL.done ?_
          exact TC.nrm () () ⟨rfl, trivial⟩ [0, 0] (by kernel_rfl)
        · refine TL.loadA i1.toNat 0 (Src.box 1 rfl) Try.isAgg5 rfl (by omega) (v := u8v (b_1 i1.toNat)) rfl (st := 0) rfl (by omega) rfl rfl rfl ?_
          refine TL.done ?_
          exact TC.nrm () () ⟨rfl, trivial⟩ [0, 0] (by kernel_rfl)
        · refine TL.bin .u8 ((a_1 i1.toNat).toNat : Int) ((b_1 i1.toNat).toNat : Int) rfl rfl rfl rfl (v := .bool (((a_1 i1.toNat).toNat : Int) != ((b_1 i1.toNat).toNat : Int))) rfl ?_
          refine TL.done ?_
          exact TC.nrm () () ⟨rfl, trivial⟩ [0, 0] (by kernel_rfl)
      · refine TC.cond (b := (((a_1 i1.toNat).toNat : Int) != ((b_1 i1.toNat).toNat : Int))) rfl (fun c3 => ?_) (fun c4 => ?_)
        · refine TC.seq ?_
          refine TC.region ?_
          refine TL.assign rfl rfl (v := .bool false) rfl ?_
          refine TL.done ?_
          exact TC.retF (Fin.loop Far.ret (Fin.body (fin1 (.inr rfl) rfl (.tmp rfl) [] rfl ⟨rfl, rfl⟩)))
        · refine TC.skip ?_
          refine TC.region ?_
          refine TL.move rfl rfl (v := .int .i64 i1) rfl ?_
          refine TL.bin .i64 i1 1 rfl rfl rfl rfl (v := .int .i64 (w64 (i1 + 1))) rfl ?_
          refine TL.assign rfl rfl (v := .int .i64 (w64 (i1 + 1))) rfl ?_
          refine TL.done ?_
          exact TC.next ((w64 (i1 + 1))) (()) ⟨rfl, rfl, rfl, trivial⟩ [0, 0] rfl
    · exact TC.brk (i1) (()) ⟨rfl, rfl, rfl, trivial⟩ [0, 0] rfl
  · rintro i1 _
    refine TC.seq ?_
    refine TC.region ?_
    refine TL.assign rfl rfl (v := .bool true) rfl ?_
    refine TL.done ?_
    exact TC.retF (Fin.body (fin1 (.inr rfl) rfl (.tmp rfl) [] rfl ⟨rfl, rfl⟩))

end Go.Proofs.Ytjjfoofjipafiaa.G

/- laws.eqVectorS, as a pure function. -/
set_option linter.unusedVariables false
namespace Go.Proofs.Ytjjfoofjipafiaa.G
open Go Go.Sx Go.Proofs

def laws_eqVectorS.b0 (a_1 : List (Nat → UInt8)) (b_1 : List (Nat → UInt8)) : Int → Option (LR Int Bool) := fun i1 => (bif (decide (i1 < (a_1.length : Int))) then chk i1 a_1.length (chk i1 b_1.length ((G.laws_eqVector.f (gt a_1 i1) (gt b_1 i1)).bind (fun r_1 => (bif (!r_1) then some (.ret (false)) else some (.next (w64 (i1 + 1))))))) else some (.brk i1))

def laws_eqVectorS.f (a_1 : List (Nat → UInt8)) (b_1 : List (Nat → UInt8)) : Option Bool := (bif ((a_1.length : Int) != (b_1.length : Int)) then some false else (loop (laws_eqVectorS.b0 a_1 b_1) 0).bind (ln (fun i1 => some true)))

def laws_eqVectorS.R (r : Bool) (v : Value) (L : List Asn) : Prop := v = .bool r ∧ L = []

set_option maxRecDepth 100000 in
set_option maxHeartbeats 4000000 in
theorem laws_eqVectorS.calls (w : World) (s1 : SV) (a_1 : List (Nat → UInt8)) (s2 : SV) (b_1 : List (Nat → UInt8)) (h1 : Reads (Evec 6) (hp w) s1 a_1) (h2 : Reads (Evec 6) (hp w) s2 b_1) :
    ∀ r, laws_eqVectorS.f a_1 b_1 = some r → Calls Try.prog 34 #[SV.v s1, SV.v s2] w (Ret w (laws_eqVectorS.R r)) := by

  refine calls_T (n := 27) (Γ := [(0, SV.v s1), (1, SV.v s2)]) (R := laws_eqVectorS.R) Try.func34 rfl rfl (Nat.le_of_ble_eq_true rfl) ⟨rfl, rfl, trivial⟩ ?_
  unfold laws_eqVectorS.f
  refine TC.seq ?_
  refine TC.region ?_
  refine TL.assign rfl rfl (v := .bool false) rfl ?_
  refine TL.done ?_
  refine TC.seq ?_
  refine TC.seq ?_
  refine TC.region ?_
  refine TL.move rfl rfl (v := SV.v s1) rfl ?_
  refine TL.len (Rd.old h1) Try.underlying45 rfl rfl rfl ?_
  refine TL.move rfl rfl (v := SV.v s2) rfl ?_
  refine TL.len (Rd.old h2) Try.underlying45 rfl rfl rfl ?_
  refine TL.bin .i64 (a_1.length : Int) (b_1.length : Int) rfl rfl rfl rfl (v := .bool ((a_1.length : Int) != (b_1.length : Int))) rfl ?_
  refine TL.done ?_
  refine TC.cond (b := ((a_1.length : Int) != (b_1.length : Int))) rfl (fun c1 => ?_) (fun c2 => ?_)
  · refine TC.seq ?_
    refine TC.region ?_
    refine TL.assign rfl rfl (v := .bool false) rfl ?_
    refine TL.done ?_
    exact TC.retF (Fin.body (fin1 (.inr rfl) rfl (.tmp rfl) [] rfl ⟨rfl, rfl⟩))
  · refine TC.skip ?_
    refine TC.seq ?_
    refine TC.seq ?_
    refine TC.region ?_
    refine TL.assign rfl rfl (v := .int .i64 0) rfl ?_
    refine TL.done ?_
    refine TC.loopK (σ := Int) (γ := Unit) (Γ' := (fun i1 _ => [(0, SV.v s1), (1, SV.v s2), (5, .int .i64 i1)])) (L' := (fun i1 _ => [])) (Γb := (fun i1 _ => [(0, SV.v s1), (1, SV.v s2), (5, .int .i64 i1)])) (Lb := (fun i1 _ => [])) (0) (()) ⟨rfl, rfl, rfl, trivial⟩ [] rfl ?_ ?_
    · rintro i1 _
      refine TC.seq ?_
      refine TC.seq ?_
      refine TC.region ?_
      refine TL.move rfl rfl (v := .int .i64 i1) rfl ?_
      refine TL.move rfl rfl (v := SV.v s1) rfl ?_
      refine TL.len (Rd.old h1) Try.underlying45 rfl rfl rfl ?_
      refine TL.bin .i64 i1 (a_1.length : Int) rfl rfl rfl rfl (v := .bool (decide (i1 < (a_1.length : Int)))) rfl ?_
      refine TL.done ?_
      refine TC.cond (b := (decide (i1 < (a_1.length : Int)))) rfl (fun c3 => ?_) (fun c4 => ?_)
      · refine TC.skip ?_
        refine TC.seq ?_
        refine TC.block (NoEx.loop rfl NoEx.body) ?_
        refine TC.seq ?_
        refine TC.wk (Γ' := [(0, SV.v s1), (1, SV.v s2), (5, .int .i64 i1), (11, .int .i64 i1), (12, SV.v s1), (13, .int .i64 (a_1.length : Int)), (14, .bool (decide (i1 < (a_1.length : Int))))]) ⟨rfl, rfl, rfl, rfl, rfl, rfl, rfl, trivial⟩ ?_
        refine TC.chk fun h3 => ?_
        refine TC.chk fun h4 => ?_
        refine TC.bindE fun r_1 hr1 => ?_
        refine TC.draw [SV.v s1, .int .i64 i1, ep s1 (i1.toNat * 6), sval [.arr 6 (enf u8v (gt a_1 i1))], SV.v s2, .int .i64 i1, ep s2 (i1.toNat * 6), sval [.arr 6 (enf u8v (gt b_1 i1))], .bool r_1, .bool (!r_1)] 10 [] (by kernel_rfl) rfl rfl rfl rfl ?_ ?_
        · refine ⟨?_, ?_, ?_, ?_, ?_, ?_, ?_, ?_, ?_, ?_, trivial⟩
          · refine TL.move rfl rfl (v := SV.v s1) rfl ?_
            refine TL.done ?_
            exact TC.nrm () () ⟨rfl, trivial⟩ [] (by kernel_rfl)
          · refine TL.move rfl rfl (v := .int .i64 i1) rfl ?_
            refine TL.done ?_
            exact TC.nrm () () ⟨rfl, trivial⟩ [] (by kernel_rfl)
          · refine TL.ixs i1 (i1.toNat * 6) (Rd.old h1) h3 Try.underlying45 Try.sizeOf58 rfl rfl rfl rfl (by omega) ?_
            refine TL.done ?_
            exact TC.nrm () () ⟨rfl, trivial⟩ [] (by kernel_rfl)
          · refine TL.loadEA (Rd.old h1) Try.isAgg58 Try.sizeOf58 i1.toNat (gt_spec h3) (v := sval [.arr 6 (enf u8v (gt a_1 i1))]) rfl (by simp only [show (Evec 6).sz = 6 from rfl] <;> omega) rfl rfl rfl ?_
            refine TL.done ?_
            exact TC.nrm () () ⟨rfl, trivial⟩ [] (by kernel_rfl)
          · refine TL.move rfl rfl (v := SV.v s2) rfl ?_
            refine TL.done ?_
            exact TC.nrm () () ⟨rfl, trivial⟩ [] (by kernel_rfl)
          · refine TL.move rfl rfl (v := .int .i64 i1) rfl ?_
            refine TL.done ?_
            exact TC.nrm () () ⟨rfl, trivial⟩ [] (by kernel_rfl)
          · refine TL.ixs i1 (i1.toNat * 6) (Rd.old h2) h4 Try.underlying45 Try.sizeOf58 rfl rfl rfl rfl (by omega) ?_
            refine TL.done ?_
            exact TC.nrm () () ⟨rfl, trivial⟩ [] (by kernel_rfl)
          · refine TL.loadEA (Rd.old h2) Try.isAgg58 Try.sizeOf58 i1.toNat (gt_spec h4) (v := sval [.arr 6 (enf u8v (gt b_1 i1))]) rfl (by simp only [show (Evec 6).sz = 6 from rfl] <;> omega) rfl rfl rfl ?_
            refine TL.done ?_
            exact TC.nrm () () ⟨rfl, trivial⟩ [] (by kernel_rfl)
          · refine TL.callH (R := G.laws_eqVector.R) hr1 Try.call76 rfl rfl rfl (fun w hS => G.laws_eqVector.calls w (gt a_1 i1) (gt b_1 i1)) ?_
            rintro _ _ ⟨rfl, rfl⟩
            refine TL.done ?_
            exact TC.nrm () () ⟨rfl, trivial⟩ [] (by kernel_rfl)
          · refine TL.not r_1 rfl rfl rfl ?_
            refine TL.done ?_
            exact TC.nrm () () ⟨rfl, trivial⟩ [] (by kernel_rfl)
        · refine TC.cond (b := (!r_1)) rfl (fun c5 => ?_) (fun c6 => ?_)
          · refine TC.seq ?_
            refine TC.region ?_
            refine TL.assign rfl rfl (v := .bool false) rfl ?_
            refine TL.done ?_
            exact TC.retF (Fin.loop Far.ret (Fin.body (fin1 (.inr rfl) rfl (.tmp rfl) [] rfl ⟨rfl, rfl⟩)))
          · refine TC.skip ?_
            refine TC.region ?_
            refine TL.move rfl rfl (v := .int .i64 i1) rfl ?_
            refine TL.bin .i64 i1 1 rfl rfl rfl rfl (v := .int .i64 (w64 (i1 + 1))) rfl ?_
            refine TL.assign rfl rfl (v := .int .i64 (w64 (i1 + 1))) rfl ?_
            refine TL.done ?_
            exact TC.next ((w64 (i1 + 1))) (()) ⟨rfl, rfl, rfl, trivial⟩ [] rfl
      · exact TC.brk (i1) (()) ⟨rfl, rfl, rfl, trivial⟩ [] rfl
    · rintro i1 _
      refine TC.seq ?_
      refine TC.region ?_
      refine TL.assign rfl rfl (v := .bool true) rfl ?_
      refine TL.done ?_
      exact TC.retF (Fin.body (fin1 (.inr rfl) rfl (.tmp rfl) [] rfl ⟨rfl, rfl⟩))

end Go.Proofs.Ytjjfoofjipafiaa.G

/- laws.markVectorS, as a pure function. -/
set_option linter.unusedVariables false
namespace Go.Proofs.Ytjjfoofjipafiaa.G
open Go Go.Sx Go.Proofs

def laws_markVectorS.b0 (i1 : Int) : (List (Nat → UInt8)) × Int × Int → Option (LB ((List (Nat → UInt8)) × Int × Int)) := fun p => match p with | (a_3, k_3, j1) => (bif (decide (j1 < 6)) then chk i1 a_3.length (chk j1 6 (some (.next ((a_3.set i1.toNat (upd (gt a_3 i1) j1.toNat (UInt8.ofInt k_3))), (w64 (k_3 + 1)), (w64 (j1 + 1)))))) else some (.brk (a_3, k_3, j1)))

def laws_markVectorS.b1 : (List (Nat → UInt8)) × Int × Int → Option (LB ((List (Nat → UInt8)) × Int × Int)) := fun p => match p with | (a_2, k_2, i1) => (bif (decide (i1 < (a_2.length : Int))) then (loop1 (laws_markVectorS.b0 i1) (a_2, k_2, 0)).bind (fun p => match p with | (a_3, k_3, j1) => some (.next (a_3, k_3, (w64 (i1 + 1))))) else some (.brk (a_2, k_2, i1)))

def laws_markVectorS.f (a_1 : List (Nat → UInt8)) (k_1 : Int) : Option (Int × (List (Nat → UInt8))) := (loop1 (laws_markVectorS.b1) (a_1, k_1, 0)).bind (fun p => match p with | (a_2, k_2, i1) => some (k_2, a_2))

def laws_markVectorS.R (s1 : SV) (r : Int × (List (Nat → UInt8))) (v : Value) (L : List Asn) : Prop := v = .int .i64 r.1 ∧ L = [row (Evec 6) 58 s1 r.2]

set_option maxRecDepth 100000 in
set_option maxHeartbeats 4000000 in
theorem laws_markVectorS.calls (w0 : World) (I : Hp) (w : World) (s1 : SV) (a_1 : List (Nat → UInt8)) (k_1 : Int) (hS : St w0 I [row (Evec 6) 58 s1 a_1] w) :
    ∀ r, laws_markVectorS.f a_1 k_1 = some r → Calls Try.prog 35 #[SV.v s1, .int .i64 k_1] w (RetM w0 I ((laws_markVectorS.R s1) r)) := by

  refine calls_TM (w0 := w0) (I := I) (L := [row (Evec 6) 58 s1 a_1]) (n := 27) (Γ := [(0, SV.v s1), (1, .int .i64 k_1)]) (R := (laws_markVectorS.R s1)) Try.func35 rfl rfl (Nat.le_of_ble_eq_true rfl) ⟨rfl, rfl, trivial⟩ ?_ w hS
  unfold laws_markVectorS.f
  refine TC.seq ?_
  refine TC.region ?_
  refine TL.assign rfl rfl (v := .int .i64 0) rfl ?_
  refine TL.done ?_
  refine TC.seq ?_
  refine TC.seq ?_
  refine TC.region ?_
  refine TL.assign rfl rfl (v := .int .i64 0) rfl ?_
  refine TL.done ?_
  refine TC.loop1 (σ := (List (Nat → UInt8)) × Int × Int) (γ := Unit) (Γ' := (fun p q => match p, q with | (a_2, k_2, i1), _ => [(0, SV.v s1), (1, .int .i64 k_2), (5, .int .i64 i1)])) (L' := (fun p q => match p, q with | (a_2, k_2, i1), _ => [row (Evec 6) 58 s1 a_2])) (Γb := (fun p q => match p, q with | (a_2, k_2, i1), _ => [(0, SV.v s1), (1, .int .i64 k_2), (5, .int .i64 i1)])) (Lb := (fun p q => match p, q with | (a_2, k_2, i1), _ => [row (Evec 6) 58 s1 a_2])) ((a_1, k_1, 0)) (()) ⟨rfl, rfl, rfl, trivial⟩ [0] rfl ?_ ?_
  · rintro ⟨a_2, k_2, i1⟩ _
    refine TC.seq ?_
    refine TC.seq ?_
    refine TC.region ?_
    refine TL.move rfl rfl (v := .int .i64 i1) rfl ?_
    refine TL.move rfl rfl (v := SV.v s1) rfl ?_
    refine TL.len (Rd.row 0 rfl) Try.underlying45 rfl rfl rfl ?_
    refine TL.bin .i64 i1 (a_2.length : Int) rfl rfl rfl rfl (v := .bool (decide (i1 < (a_2.length : Int)))) rfl ?_
    refine TL.done ?_
    refine TC.cond (b := (decide (i1 < (a_2.length : Int)))) rfl (fun c1 => ?_) (fun c2 => ?_)
    · refine TC.skip ?_
      refine TC.seq ?_
      refine TC.block (NoEx.loop1 rfl) ?_
      refine TC.seq ?_
      refine TC.region ?_
      refine TL.assign rfl rfl (v := .int .i64 0) rfl ?_
      refine TL.done ?_
      refine TC.loop1 (σ := (List (Nat → UInt8)) × Int × Int) (γ := Unit) (Γ' := (fun p q => match p, q with | (a_3, k_3, j1), _ => [(0, SV.v s1), (1, .int .i64 k_3), (5, .int .i64 i1), (6, .int .i64 j1)])) (L' := (fun p q => match p, q with | (a_3, k_3, j1), _ => [row (Evec 6) 58 s1 a_3])) (Γb := (fun p q => match p, q with | (a_3, k_3, j1), _ => [(0, SV.v s1), (1, .int .i64 k_3), (5, .int .i64 i1), (6, .int .i64 j1)])) (Lb := (fun p q => match p, q with | (a_3, k_3, j1), _ => [row (Evec 6) 58 s1 a_3])) ((a_2, k_2, 0)) (()) ⟨rfl, rfl, rfl, rfl, trivial⟩ [0] rfl ?_ ?_
      · rintro ⟨a_3, k_3, j1⟩ _
        refine TC.seq ?_
        refine TC.seq ?_
        refine TC.region ?_
        refine TL.move rfl rfl (v := .int .i64 j1) rfl ?_
        refine TL.bin .i64 j1 6 rfl rfl rfl rfl (v := .bool (decide (j1 < 6))) rfl ?_
        refine TL.done ?_
        refine TC.cond (b := (decide (j1 < 6))) rfl (fun c3 => ?_) (fun c4 => ?_)
        · refine TC.skip ?_
          refine TC.seq ?_
          refine TC.block (NoEx.loop1 rfl) ?_
          refine TC.seq ?_
          refine TC.region ?_
          refine TL.move rfl rfl (v := SV.v s1) rfl ?_
          refine TL.move rfl rfl (v := .int .i64 i1) rfl ?_
          refine TL.move rfl rfl (v := .int .i64 j1) rfl ?_
          refine TL.move rfl rfl (v := .int .i64 k_3) rfl ?_
          refine TL.conv .i64 .u8 k_3 _ rfl rfl rfl Try.underlying3 Try.underlying5 (v := u8v (UInt8.ofInt k_3)) (conv_i64_u8 _) ?_
          refine TL.chk fun h1 => ?_
          refine TL.ixs i1 (i1.toNat * 6) (Rd.row 0 rfl) h1 Try.underlying45 Try.sizeOf58 rfl rfl rfl rfl (by omega) ?_
          refine TL.chk fun h2 => ?_
          refine TL.ixe j1 (i1.toNat * 6 + j1.toNat) (Rd.row 0 rfl) (by have h_ := h1; omega) h2 Try.underlying58 Try.sizeOf5 rfl rfl rfl rfl (by omega) ?_
          refine TL.stEx 0 (i1.toNat) j1.toNat (gt a_3 i1) (upd (gt a_3 i1) j1.toNat (UInt8.ofInt k_3)) (v := u8v (UInt8.ofInt k_3)) rfl Try.sizeOf5 (gt_spec h1) (by have h_ := h2; show j1.toNat < 6; omega) (Evec_upd _ _ _ _) rfl rfl (by simp only [show (Evec 6).sz = 6 from rfl] <;> omega) rfl rfl rfl ?_
          refine TL.done ?_
          refine TC.region ?_
          refine TL.move rfl rfl (v := .int .i64 k_3) rfl ?_
          refine TL.bin .i64 k_3 1 rfl rfl rfl rfl (v := .int .i64 (w64 (k_3 + 1))) rfl ?_
          refine TL.assign rfl rfl (v := .int .i64 (w64 (k_3 + 1))) rfl ?_
          refine TL.done ?_
          refine TC.region ?_
          refine TL.move rfl rfl (v := .int .i64 j1) rfl ?_
          refine TL.bin .i64 j1 1 rfl rfl rfl rfl (v := .int .i64 (w64 (j1 + 1))) rfl ?_
          refine TL.assign rfl rfl (v := .int .i64 (w64 (j1 + 1))) rfl ?_
          refine TL.done ?_
          exact TC.next1 (((a_3.set i1.toNat (upd (gt a_3 i1) j1.toNat (UInt8.ofInt k_3))), (w64 (k_3 + 1)), (w64 (j1 + 1)))) (()) ⟨rfl, rfl, rfl, rfl, trivial⟩ [0] rfl
        · exact TC.brk1 ((a_3, k_3, j1)) (()) ⟨rfl, rfl, rfl, rfl, trivial⟩ [0] rfl
      · rintro ⟨a_3, k_3, j1⟩ _
        refine TC.region ?_
        refine TL.move rfl rfl (v := .int .i64 i1) rfl ?_
        refine TL.bin .i64 i1 1 rfl rfl rfl rfl (v := .int .i64 (w64 (i1 + 1))) rfl ?_
        refine TL.assign rfl rfl (v := .int .i64 (w64 (i1 + 1))) rfl ?_
        refine TL.done ?_
        exact TC.next1 ((a_3, k_3, (w64 (i1 + 1)))) (()) ⟨rfl, rfl, rfl, trivial⟩ [0] rfl
    · exact TC.brk1 ((a_2, k_2, i1)) (()) ⟨rfl, rfl, rfl, trivial⟩ [0] rfl
  · rintro ⟨a_2, k_2, i1⟩ _
    refine TC.seq ?_
    refine TC.region ?_
    refine TL.move rfl rfl (v := .int .i64 k_2) rfl ?_
    refine TL.assign rfl rfl (v := .int .i64 k_2) rfl ?_
    refine TL.done ?_
    exact TC.retF (Fin.body (fin1 (.inr rfl) rfl (.tmp rfl) [0] rfl ⟨rfl, rfl⟩))

end Go.Proofs.Ytjjfoofjipafiaa.G

/- laws.heldInt64S, as a pure function. -/
set_option linter.unusedVariables false
namespace Go.Proofs.Ytjjfoofjipafiaa.G
open Go Go.Sx Go.Proofs

def laws_heldInt64S.b0 (a_1 : List Int) : Int × Int → Option (LR (Int × Int) Int) := fun p => match p with | (k_2, i1) => (bif (decide (i1 < (a_1.length : Int))) then chk i1 a_1.length ((bif ((gt a_1 i1) != k_2) then some (.ret ((-1))) else some (.next ((w64 (k_2 + 1)), (w64 (i1 + 1)))))) else some (.brk (k_2, i1)))

def laws_heldInt64S.f (a_1 : List Int) (k_1 : Int) : Option Int := (loop (laws_heldInt64S.b0 a_1) (k_1, 0)).bind (ln (fun p => match p with | (k_2, i1) => some k_2))

def laws_heldInt64S.R (r : Int) (v : Value) (L : List Asn) : Prop := v = .int .i64 r ∧ L = []

set_option maxRecDepth 100000 in
set_option maxHeartbeats 4000000 in
theorem laws_heldInt64S.calls (w : World) (s1 : SV) (a_1 : List Int) (k_1 : Int) (h1 : Reads Ei (hp w) s1 a_1) :
    ∀ r, laws_heldInt64S.f a_1 k_1 = some r → Calls Try.prog 37 #[SV.v s1, .int .i64 k_1] w (Ret w (laws_heldInt64S.R r)) := by

  refine calls_T (n := 21) (Γ := [(0, SV.v s1), (1, .int .i64 k_1)]) (R := laws_heldInt64S.R) Try.func37 rfl rfl (Nat.le_of_ble_eq_true rfl) ⟨rfl, rfl, trivial⟩ ?_
  unfold laws_heldInt64S.f
  refine TC.seq ?_
  refine TC.region ?_
  refine TL.assign rfl rfl (v := .int .i64 0) rfl ?_
  refine TL.done ?_
  refine TC.seq ?_
  refine TC.seq ?_
  refine TC.region ?_
  refine TL.assign rfl rfl (v := .int .i64 0) rfl ?_
  refine TL.done ?_
  refine TC.loopK (σ := Int × Int) (γ := Unit) (Γ' := (fun p q => match p, q with | (k_2, i1), _ => [(0, SV.v s1), (1, .int .i64 k_2), (5, .int .i64 i1)])) (L' := (fun p q => match p, q with | (k_2, i1), _ => [])) (Γb := (fun p q => match p, q with | (k_2, i1), _ => [(0, SV.v s1), (1, .int .i64 k_2), (5, .int .i64 i1)])) (Lb := (fun p q => match p, q with | (k_2, i1), _ => [])) ((k_1, 0)) (()) ⟨rfl, rfl, rfl, trivial⟩ [] rfl ?_ ?_
  · rintro ⟨k_2, i1⟩ _
    refine TC.seq ?_
    refine TC.seq ?_
    refine TC.region ?_
    refine TL.move rfl rfl (v := .int .i64 i1) rfl ?_
    refine TL.move rfl rfl (v := SV.v s1) rfl ?_
    refine TL.len (Rd.old h1) Try.underlying22 rfl rfl rfl ?_
    refine TL.bin .i64 i1 (a_1.length : Int) rfl rfl rfl rfl (v := .bool (decide (i1 < (a_1.length : Int)))) rfl ?_
    refine TL.done ?_
    refine TC.cond (b := (decide (i1 < (a_1.length : Int)))) rfl (fun c1 => ?_) (fun c2 => ?_)
    · refine TC.skip ?_
      refine TC.seq ?_
      refine TC.block (NoEx.loop rfl NoEx.body) ?_
      refine TC.seq ?_
      refine TC.seq ?_
      refine TC.region ?_
      refine TL.move rfl rfl (v := SV.v s1) rfl ?_
      refine TL.move rfl rfl (v := .int .i64 i1) rfl ?_
      refine TL.chk fun h2 => ?_
      refine TL.ixs i1 i1.toNat (Rd.old h1) h2 Try.underlying22 Try.sizeOf2 rfl rfl rfl rfl (by omega) ?_
      refine TL.loadE (Rd.old h1) Try.isAgg2 i1.toNat 0 (gt_spec h2) (v := .int .i64 (gt a_1 i1)) rfl (by simp only [show Ei.sz = 1 from rfl] <;> omega) rfl rfl rfl ?_
      refine TL.move rfl rfl (v := .int .i64 k_2) rfl ?_
      refine TL.bin .i64 (gt a_1 i1) k_2 rfl rfl rfl rfl (v := .bool ((gt a_1 i1) != k_2)) rfl ?_
      refine TL.done ?_
      refine TC.cond (b := ((gt a_1 i1) != k_2)) rfl (fun c3 => ?_) (fun c4 => ?_)
      · refine TC.seq ?_
        refine TC.region ?_
        refine TL.assign rfl rfl (v := .int .i64 (-1)) rfl ?_
        refine TL.done ?_
        exact TC.retF (Fin.loop Far.ret (Fin.body (fin1 (.inr rfl) rfl (.tmp rfl) [] rfl ⟨rfl, rfl⟩)))
      · refine TC.skip ?_
        refine TC.region ?_
        refine TL.move rfl rfl (v := .int .i64 k_2) rfl ?_
        refine TL.bin .i64 k_2 1 rfl rfl rfl rfl (v := .int .i64 (w64 (k_2 + 1))) rfl ?_
        refine TL.assign rfl rfl (v := .int .i64 (w64 (k_2 + 1))) rfl ?_
        refine TL.done ?_
        refine TC.region ?_
        refine TL.move rfl rfl (v := .int .i64 i1) rfl ?_
        refine TL.bin .i64 i1 1 rfl rfl rfl rfl (v := .int .i64 (w64 (i1 + 1))) rfl ?_
        refine TL.assign rfl rfl (v := .int .i64 (w64 (i1 + 1))) rfl ?_
        refine TL.done ?_
        exact TC.next (((w64 (k_2 + 1)), (w64 (i1 + 1)))) (()) ⟨rfl, rfl, rfl, trivial⟩ [] rfl
    · exact TC.brk ((k_2, i1)) (()) ⟨rfl, rfl, rfl, trivial⟩ [] rfl
  · rintro ⟨k_2, i1⟩ _
    refine TC.seq ?_
    refine TC.region ?_
    refine TL.move rfl rfl (v := .int .i64 k_2) rfl ?_
    refine TL.assign rfl rfl (v := .int .i64 k_2) rfl ?_
    refine TL.done ?_
    exact TC.retF (Fin.body (fin1 (.inr rfl) rfl (.tmp rfl) [] rfl ⟨rfl, rfl⟩))

end Go.Proofs.Ytjjfoofjipafiaa.G
