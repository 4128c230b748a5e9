/- spec.l08Squares, as a pure function. -/
import Derived.Test.YtcombgcjgdkbiaaProg
import Derived.Test.YtcombgcjgdkbiaaSx9
set_option linter.unusedVariables false
namespace Go.Proofs.Ytcombgcjgdkbiaa.G
open Go Go.Sx Go.Proofs

def spec_l08Squares.b0 (g1 : Int) (g2 : Nat → UInt8) : (Nat → Int) × Int → Option (LB ((Nat → Int) × Int)) := fun p => match p with | (out1, i1) => (bif (decide (i1 < g1)) then chk i1 6 (chk ((g2 (i1.toNat * 6 + i1.toNat)).toNat : Int) 6 (some (.next ((upd out1 ((g2 (i1.toNat * 6 + i1.toNat)).toNat) (w64 ((out1 ((g2 (i1.toNat * 6 + i1.toNat)).toNat)) + 1))), (w64 (i1 + 1)))))) else some (.brk (out1, i1)))

def spec_l08Squares.f (g1 : Int) (g2 : Nat → UInt8) : Option (Nat → Int) := (loop1 (spec_l08Squares.b0 g1 g2) ((fun _ => 0), 0)).bind (fun p => match p with | (out1, i1) => some out1)

def spec_l08Squares.R (r : Nat → Int) (v : Value) (L : List Asn) : Prop := v = sval [.arr 6 (enf i64v r)] ∧ L = []

set_option maxRecDepth 100000 in
set_option maxHeartbeats 4000000 in
theorem spec_l08Squares.calls (w : World) (g1 : Int) (g2 : Nat → UInt8) :
    ∀ r, spec_l08Squares.f g1 g2 = some r → Calls Try.prog 62 #[sval [.one (.int .i64 g1), .arr 36 (enf u8v g2)]] w (Ret w (spec_l08Squares.R r)) := by

  refine calls_T (n := 23) (Γ := [(0, sval [.one (.int .i64 g1), .arr 36 (enf u8v g2)])]) (R := spec_l08Squares.R) Try.func62 rfl rfl (Nat.le_of_ble_eq_true rfl) ⟨rfl, trivial⟩ ?_
  unfold spec_l08Squares.f
  refine TC.seq ?_
  refine TC.region ?_
  refine TL.box [.one (.int .i64 g1), .arr 36 (enf u8v g2)] rfl rfl rfl rfl fun b_1 => ?_
  refine TL.alloc [.arr 6 (enf i64v (fun _ => 0))] rfl rfl Try.zeroValue71 rfl fun b_2 => ?_
  refine TL.done ?_
  refine TC.seq ?_
  refine TC.region ?_
  refine TL.buildA (segs0 := [.arr 6 (enf i64v (fun _ => 0))]) (segs := [.arr 6 (enf i64v (fun _ => 0))]) Try.underlying71 Try.sizeOf2 Try.zeroValue71 rfl [] rfl rfl rfl rfl ?_
  refine TL.alloc [.arr 6 (enf i64v (fun _ => 0))] rfl rfl Try.zeroValue71 rfl fun b_3 => ?_
  refine TL.stM (news := [.arr 6 (enf i64v (fun _ => 0))]) 0 0 1 rfl Try.sizeOf71 (ones_arr (fun _ => rfl) ones_nil) rfl rfl rfl rfl rfl rfl ?_
  refine TL.done ?_
  refine TC.seq ?_
  refine TC.seq ?_
  refine TC.region ?_
  refine TL.assign rfl rfl (v := .int .i64 0) rfl ?_
  refine TL.done ?_
  refine TC.loop1 (σ := (Nat → Int) × Int) (γ := Unit) (Γ' := (fun p q => match p, q with | (out1, i1), _ => [(1, bp b_1 0), (2, bp b_2 0), (3, bp b_3 0), (4, .int .i64 i1)])) (L' := (fun p q => match p, q with | (out1, i1), _ => [box b_1 37 [.one (.int .i64 g1), .arr 36 (enf u8v g2)], box b_2 71 [.arr 6 (enf i64v (fun _ => 0))], box b_3 71 [.arr 6 (enf i64v out1)]])) (Γb := (fun p q => match p, q with | (out1, i1), _ => [(1, bp b_1 0), (2, bp b_2 0), (3, bp b_3 0), (4, .int .i64 i1)])) (Lb := (fun p q => match p, q with | (out1, i1), _ => [box b_1 37 [.one (.int .i64 g1), .arr 36 (enf u8v g2)], box b_2 71 [.arr 6 (enf i64v (fun _ => 0))], box b_3 71 [.arr 6 (enf i64v out1)]])) (((fun _ => 0), 0)) (()) ⟨rfl, rfl, rfl, rfl, trivial⟩ [2, 1, 0] rfl ?_ ?_
  · rintro ⟨out1, i1⟩ _
    refine TC.seq ?_
    refine TC.seq ?_
    refine TC.region ?_
    refine TL.move rfl rfl (v := .int .i64 i1) rfl ?_
    refine TL.fa Try.underlying37 rfl Try.sizeOf2 rfl 0 rfl rfl rfl rfl ?_
    refine TL.load1 0 (Src.box 0 rfl) Try.isAgg2 rfl rfl rfl rfl rfl ?_
    refine TL.bin .i64 i1 g1 rfl rfl rfl rfl (v := .bool (decide (i1 < g1))) rfl ?_
    refine TL.done ?_
    refine TC.cond (b := (decide (i1 < g1))) rfl (fun c1 => ?_) (fun c2 => ?_)
    · refine TC.skip ?_
      refine TC.seq ?_
      refine TC.block (NoEx.loop1 rfl) ?_
      refine TC.region ?_
      refine TL.move rfl rfl (v := .int .i64 i1) rfl ?_
      refine TL.move rfl rfl (v := .int .i64 i1) rfl ?_
      refine TL.fa Try.underlying37 rfl Try.sizeOf33 rfl 1 rfl rfl rfl rfl ?_
      refine TL.chk fun h1 => ?_
      refine TL.ixa i1 (1 + i1.toNat * 6) h1 Try.underlying33 Try.sizeOf32 rfl rfl rfl rfl (by omega) ?_
      refine TL.ixa i1 (1 + (i1.toNat * 6 + i1.toNat)) h1 Try.underlying32 Try.sizeOf5 rfl rfl rfl rfl (by omega) ?_
      refine TL.loadA (i1.toNat * 6 + i1.toNat) 1 (Src.box 0 rfl) Try.isAgg5 rfl (by omega) (v := u8v (g2 (i1.toNat * 6 + i1.toNat))) rfl (st := 1) rfl (by omega) rfl rfl rfl ?_
      refine TL.chk fun h2 => ?_
      refine TL.ixa ((g2 (i1.toNat * 6 + i1.toNat)).toNat : Int) ((g2 (i1.toNat * 6 + i1.toNat)).toNat) h2 Try.underlying71 Try.sizeOf2 rfl rfl rfl rfl (by omega) ?_
      refine TL.loadA ((g2 (i1.toNat * 6 + i1.toNat)).toNat) 0 (Src.box 2 rfl) Try.isAgg2 rfl (by omega) (v := .int .i64 (out1 ((g2 (i1.toNat * 6 + i1.toNat)).toNat))) rfl (st := 0) rfl (by omega) rfl rfl rfl ?_
      refine TL.bin .i64 (out1 ((g2 (i1.toNat * 6 + i1.toNat)).toNat)) 1 rfl rfl rfl rfl (v := .int .i64 (w64 ((out1 ((g2 (i1.toNat * 6 + i1.toNat)).toNat)) + 1))) rfl ?_
      refine TL.ixa ((g2 (i1.toNat * 6 + i1.toNat)).toNat : Int) ((g2 (i1.toNat * 6 + i1.toNat)).toNat) h2 Try.underlying71 Try.sizeOf2 rfl rfl rfl rfl (by omega) ?_
      refine TL.stA (e := i64v) (z := (w64 ((out1 ((g2 (i1.toNat * 6 + i1.toNat)).toNat)) + 1))) 2 0 ((g2 (i1.toNat * 6 + i1.toNat)).toNat) rfl Try.sizeOf2 rfl (by omega) (s := 0) rfl (by omega) rfl rfl rfl rfl rfl ?_
      refine TL.done ?_
      refine TC.region ?_
      refine TL.move rfl rfl (v := .int .i64 i1) rfl ?_
      refine TL.bin .i64 i1 1 rfl rfl rfl rfl (v := .int .i64 (w64 (i1 + 1))) rfl ?_
      refine TL.assign rfl rfl (v := .int .i64 (w64 (i1 + 1))) rfl ?_
      refine TL.done ?_
      exact TC.next1 (((upd out1 ((g2 (i1.toNat * 6 + i1.toNat)).toNat) (w64 ((out1 ((g2 (i1.toNat * 6 + i1.toNat)).toNat)) + 1))), (w64 (i1 + 1)))) (()) ⟨rfl, rfl, rfl, rfl, trivial⟩ [0, 0, 0] rfl
    · exact TC.brk1 ((out1, i1)) (()) ⟨rfl, rfl, rfl, rfl, trivial⟩ [0, 0, 0] rfl
  · rintro ⟨out1, i1⟩ _
    refine TC.seq ?_
    refine TC.region ?_
    refine TL.loadM 0 1 (Src.box 2 rfl) Try.isAgg71 Try.sizeOf71 (mid := [.arr 6 (enf i64v out1)]) rfl rfl rfl rfl rfl rfl ?_
    refine TL.stM (news := [.arr 6 (enf i64v out1)]) 1 0 1 rfl Try.sizeOf71 (ones_arr (fun _ => rfl) ones_nil) rfl rfl rfl rfl rfl rfl ?_
    refine TL.done ?_
    exact TC.retF (Fin.body (fin1 (.inr rfl) rfl (.cellN rfl (Src.box 1 rfl) Try.isAgg71 Try.sizeOf71 rfl) [] rfl ⟨rfl, rfl⟩))

end Go.Proofs.Ytcombgcjgdkbiaa.G
