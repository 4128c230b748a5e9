/- impl.CountSquares, as a pure function. -/
import Derived.Test.YtcombgcjgdkbiaaProg
import Derived.Test.YtcombgcjgdkbiaaSx9
import Derived.Test.YtcombgcjgdkbiaaQ57
import Derived.Test.YtcombgcjgdkbiaaQ64
import Derived.Test.YtcombgcjgdkbiaaQ65
import Derived.Test.YtcombgcjgdkbiaaQ66
import Derived.Test.YtcombgcjgdkbiaaQ67
import Derived.Test.YtcombgcjgdkbiaaQ68
set_option linter.unusedVariables false
namespace Go.Proofs.Ytcombgcjgdkbiaa.G
open Go Go.Sx Go.Proofs

def impl_CountSquares.b0 (r_4 : Int) (g1 : Int) (g2 : Nat → UInt8) : (List Int) × Int → Option (LB ((List Int) × Int)) := fun p => match p with | (of_1, x1) => (bif (decide (x1 < r_4)) then (G.impl_Group_times.f g1 g2 x1 x1).bind (fun r_5 => chk r_5 of_1.length (some (.next ((of_1.set r_5.toNat (w64 ((gt of_1 r_5) + 1))), (w64 (x1 + 1)))))) else some (.brk (of_1, x1)))

def impl_CountSquares.f (g1 : Int) (g2 : Nat → UInt8) (h1 : Int) : Option (Int × Int) := (G.impl_IsGroup.f g1 g2).bind (fun r_1 => (bif (!r_1) then some (0, 1) else (G.impl_in.f h1 0 12).bind (fun r_2 => (bif (!r_2) then some (0, 2) else (G.impl_Group_n.f g1 g2).bind (fun r_3 => grd (decide (0 ≤ r_3)) (small r_3.toNat ((G.impl_Group_n.f g1 g2).bind (fun r_4 => (loop1 (impl_CountSquares.b0 r_4 g1 g2) ((List.replicate r_3.toNat (0 : Int)), 0)).bind (fun p => match p with | (of_1, x1) => (G.impl_Group_products.f g1 g2 of_1 h1).bind (fun r_6 => chk 0 r_6.length ((G.impl_counted.f (gt r_6 0)).bind (fun p => match p with | (r_7, r_8) => some (r_7, r_8)))))))))))))

def impl_CountSquares.R (r : Int × Int) (v : Value) (L : List Asn) : Prop := v = .tuple #[.int .i64 r.1, .int .i64 r.2] ∧ L = []

set_option maxRecDepth 100000 in
set_option maxHeartbeats 4000000 in
theorem impl_CountSquares.calls (w : World) (g1 : Int) (g2 : Nat → UInt8) (h1 : Int) :
    ∀ r, impl_CountSquares.f g1 g2 h1 = some r → Calls Try.prog 25 #[sval [.one (.int .i64 g1), .arr 36 (enf u8v g2)], .int .i64 h1] w (Ret w (impl_CountSquares.R r)) := by

  refine calls_T (n := 39) (Γ := [(0, sval [.one (.int .i64 g1), .arr 36 (enf u8v g2)]), (1, .int .i64 h1)]) (R := impl_CountSquares.R) Try.func25 rfl rfl (Nat.le_of_ble_eq_true rfl) ⟨rfl, rfl, trivial⟩ ?_
  unfold impl_CountSquares.f
  refine TC.seq ?_
  refine TC.region ?_
  refine TL.box [.one (.int .i64 g1), .arr 36 (enf u8v g2)] rfl rfl rfl rfl fun b_1 => ?_
  refine TL.assign rfl rfl (v := .int .i64 0) rfl ?_
  refine TL.assign rfl rfl (v := .int .i64 0) rfl ?_
  refine TL.done ?_
  refine TC.seq ?_
  refine TC.block NoEx.body ?_
  refine TC.seq ?_
  refine TC.region ?_
  refine TL.loadM 0 2 (Src.box 0 rfl) Try.isAgg37 Try.sizeOf37 (mid := [.one (.int .i64 g1), .arr 36 (enf u8v g2)]) rfl rfl rfl rfl rfl rfl ?_
  refine TL.call (R := G.impl_IsGroup.R) Try.call64 rfl rfl rfl (fun w hS => G.impl_IsGroup.calls w g1 g2) ?_
  rintro r_1 _ _ ⟨rfl, rfl⟩
  refine TL.not r_1 rfl rfl rfl ?_
  refine TL.assign rfl rfl (v := .bool (!r_1)) rfl ?_
  refine TL.done ?_
  refine TC.cond (b := (!r_1)) rfl (fun c1 => ?_) (fun c2 => ?_)
  · refine TC.seq ?_
    refine TC.region ?_
    refine TL.assign rfl rfl (v := .int .i64 0) rfl ?_
    refine TL.assign rfl rfl (v := .int .i64 1) rfl ?_
    refine TL.done ?_
    exact TC.retF (Fin.body (fin2 (.inr rfl) rfl (.tmp rfl) (.tmp rfl) [] rfl ⟨rfl, rfl⟩))
  · refine TC.seq ?_
    refine TC.region ?_
    refine TL.move rfl rfl (v := .int .i64 h1) rfl ?_
    refine TL.call (R := G.impl_in.R) Try.call57 rfl rfl rfl (fun w hS => G.impl_in.calls w h1 0 12) ?_
    rintro r_2 _ _ ⟨rfl, rfl⟩
    refine TL.not r_2 rfl rfl rfl ?_
    refine TL.assign rfl rfl (v := .bool (!r_2)) rfl ?_
    refine TL.done ?_
    refine TC.cond (b := (!r_2)) rfl (fun c3 => ?_) (fun c4 => ?_)
    · refine TC.seq ?_
      refine TC.region ?_
      refine TL.assign rfl rfl (v := .int .i64 0) rfl ?_
      refine TL.assign rfl rfl (v := .int .i64 2) rfl ?_
      refine TL.done ?_
      exact TC.retF (Fin.body (fin2 (.inr rfl) rfl (.tmp rfl) (.tmp rfl) [] rfl ⟨rfl, rfl⟩))
    · refine TC.skip ?_
      refine TC.seq ?_
      refine TC.region ?_
      refine TL.call (R := G.impl_Group_n.R) Try.call65 rfl rfl rfl (fun w hS => G.impl_Group_n.calls w b_1 g1 g2 ((Src.box 0 rfl) w hS)) ?_
      rintro r_3 _ _ ⟨rfl, rfl⟩
      refine TL.grd fun h3 => ?_
      refine TL.small fun h2 => ?_
      refine TL.mkslice Ei (0 : Int) r_3 Try.underlying22 (info_of Try.type2) (zv := (Try.t2.zero.getD (.bool false))) rfl rfl rfl (by simp [Ei, flat, Seg.cells]) (by decide) (by simpa using h3) (by omega) rfl rfl rfl rfl fun s1 => ?_
      refine TL.assign rfl rfl (v := SV.v s1) rfl ?_
      refine TL.done ?_
      refine TC.seq ?_
      refine TC.seq ?_
      refine TC.region ?_
      refine TL.call (R := G.impl_Group_n.R) Try.call65 rfl rfl rfl (fun w hS => G.impl_Group_n.calls w b_1 g1 g2 ((Src.box 1 rfl) w hS)) ?_
      rintro r_4 _ _ ⟨rfl, rfl⟩
      refine TL.move rfl rfl (v := .int .i64 0) rfl ?_
      refine TL.done ?_
      refine TC.loop1 (σ := (List Int) × Int) (γ := Unit) (Γ' := (fun p q => match p, q with | (of_1, x1), _ => [(1, .int .i64 h1), (2, bp b_1 0), (6, SV.v s1), (18, .int .i64 r_4), (19, .int .i64 x1)])) (L' := (fun p q => match p, q with | (of_1, x1), _ => [box b_1 37 [.one (.int .i64 g1), .arr 36 (enf u8v g2)], row Ei 2 s1 of_1])) (Γb := (fun p q => match p, q with | (of_1, x1), _ => [(1, .int .i64 h1), (2, bp b_1 0), (6, SV.v s1), (18, .int .i64 r_4), (19, .int .i64 x1)])) (Lb := (fun p q => match p, q with | (of_1, x1), _ => [box b_1 37 [.one (.int .i64 g1), .arr 36 (enf u8v g2)], row Ei 2 s1 of_1])) (((List.replicate r_3.toNat (0 : Int)), 0)) (()) ⟨rfl, rfl, rfl, rfl, rfl, trivial⟩ [1, 0] rfl ?_ ?_
      · rintro ⟨of_1, x1⟩ _
        refine TC.seq ?_
        refine TC.region ?_
        refine TL.bin .i64 x1 r_4 rfl rfl rfl rfl (v := .bool (decide (x1 < r_4))) rfl ?_
        refine TL.done ?_
        refine TC.seq ?_
        refine TC.cond (b := (decide (x1 < r_4))) rfl (fun c5 => ?_) (fun c6 => ?_)
        · refine TC.skip ?_
          refine TC.seq ?_
          refine TC.block (NoEx.loop1 rfl) ?_
          refine TC.seq ?_
          refine TC.region ?_
          refine TL.move rfl rfl (v := .int .i64 x1) rfl ?_
          refine TL.assign rfl rfl (v := .int .i64 x1) rfl ?_
          refine TL.done ?_
          refine TC.region ?_
          refine TL.move rfl rfl (v := SV.v s1) rfl ?_
          refine TL.move rfl rfl (v := .int .i64 x1) rfl ?_
          refine TL.move rfl rfl (v := .int .i64 x1) rfl ?_
          refine TL.call (R := G.impl_Group_times.R) Try.call66 rfl rfl rfl (fun w hS => G.impl_Group_times.calls w b_1 g1 g2 x1 x1 ((Src.box 0 rfl) w hS)) ?_
          rintro r_5 _ _ ⟨rfl, rfl⟩
          refine TL.chk fun h4 => ?_
          refine TL.ixs r_5 r_5.toNat (Rd.row 1 rfl) h4 Try.underlying22 Try.sizeOf2 rfl rfl rfl rfl (by omega) ?_
          refine TL.loadE (Rd.row 1 rfl) Try.isAgg2 r_5.toNat 0 (gt_spec h4) (v := .int .i64 (gt of_1 r_5)) rfl (by simp only [show Ei.sz = 1 from rfl]; omega) rfl rfl rfl ?_
          refine TL.bin .i64 (gt of_1 r_5) 1 rfl rfl rfl rfl (v := .int .i64 (w64 ((gt of_1 r_5) + 1))) rfl ?_
          refine TL.ixs r_5 r_5.toNat (Rd.row 1 rfl) h4 Try.underlying22 Try.sizeOf2 rfl rfl rfl rfl (by omega) ?_
          refine TL.stE 1 (r_5.toNat) (w64 ((gt of_1 r_5) + 1)) (v := .int .i64 (w64 ((gt of_1 r_5) + 1))) rfl Try.sizeOf2 rfl rfl rfl (by have h_ := h4; omega) (by simp only [show Ei.sz = 1 from rfl]; omega) rfl rfl rfl ?_
          refine TL.done ?_
          refine TC.region ?_
          refine TL.bin .i64 x1 1 rfl rfl rfl rfl (v := .int .i64 (w64 (x1 + 1))) rfl ?_
          refine TL.move rfl rfl (v := .int .i64 (w64 (x1 + 1))) rfl ?_
          refine TL.done ?_
          exact TC.next1 (((of_1.set r_5.toNat (w64 ((gt of_1 r_5) + 1))), (w64 (x1 + 1)))) (()) ⟨rfl, rfl, rfl, rfl, rfl, trivial⟩ [0, 0] rfl
        · exact TC.brk1 ((of_1, x1)) (()) ⟨rfl, rfl, rfl, rfl, rfl, trivial⟩ [0, 0] rfl
      · rintro ⟨of_1, x1⟩ _
        refine TC.seq ?_
        refine TC.region ?_
        refine TL.move rfl rfl (v := SV.v s1) rfl ?_
        refine TL.move rfl rfl (v := .int .i64 h1) rfl ?_
        refine TL.call (R := G.impl_Group_products.R) Try.call68 rfl rfl rfl (fun w hS => G.impl_Group_products.calls w b_1 g1 g2 s1 of_1 h1 ((Src.box 0 rfl) w hS) ((Rd.row 1 rfl) w hS)) ?_
        rintro r_6 _ _ ⟨s2, rfl, rfl⟩
        refine TL.chk fun h5 => ?_
        refine TL.ixs 0 0 (Rd.row 0 rfl) h5 Try.underlying22 Try.sizeOf2 rfl rfl rfl rfl rfl ?_
        refine TL.loadE (Rd.row 0 rfl) Try.isAgg2 0 0 (gt_spec h5) (v := .int .i64 (gt r_6 0)) rfl rfl rfl rfl rfl ?_
        refine TL.call (R := G.impl_counted.R) Try.call67 rfl rfl rfl (fun w hS => G.impl_counted.calls w (gt r_6 0)) ?_
        rintro ⟨r_7, r_8⟩ _ _ ⟨rfl, rfl⟩
        refine TL.extract rfl rfl rfl (v := .int .i64 r_7) rfl ?_
        refine TL.extract rfl rfl rfl (v := .int .i64 r_8) rfl ?_
        refine TL.assign rfl rfl (v := .int .i64 r_7) rfl ?_
        refine TL.assign rfl rfl (v := .int .i64 r_8) rfl ?_
        refine TL.done ?_
        exact TC.retF (Fin.body (fin2 (.inr rfl) rfl (.tmp rfl) (.tmp rfl) [] rfl ⟨rfl, rfl⟩))

end Go.Proofs.Ytcombgcjgdkbiaa.G
