/- impl.Group).products, as a pure function. -/
import Derived.Test.YtcombgcjgdkbiaaProg
import Derived.Test.YtcombgcjgdkbiaaSx9
import Derived.Test.YtcombgcjgdkbiaaQ65
import Derived.Test.YtcombgcjgdkbiaaQ66
set_option linter.unusedVariables false
namespace Go.Proofs.Ytcombgcjgdkbiaa.G
open Go Go.Sx Go.Proofs

def impl_Group_products.b0 (of_1 : List Int) (g1 : Int) (g2 : Nat → UInt8) (x2 : Int) (out1 : List Int) : (List Int) × Int → Option (LB ((List Int) × Int)) := fun p => match p with | (next_2, x3) => (bif (decide (x3 < (of_1.length : Int))) then chk x3 of_1.length ((G.impl_Group_times.f g1 g2 x2 x3).bind (fun r_3 => chk r_3 next_2.length (some (.next ((next_2.set r_3.toNat (w64 ((gt next_2 r_3) + (w64 ((gt out1 x2) * (gt of_1 x3)))))), (w64 (x3 + 1))))))) else some (.brk (next_2, x3)))

def impl_Group_products.b1 (out1 : List Int) (of_1 : List Int) (g1 : Int) (g2 : Nat → UInt8) : (List Int) × Int → Option (LB ((List Int) × Int)) := fun p => match p with | (next_1, x2) => (bif (decide (x2 < (out1.length : Int))) then chk x2 out1.length ((loop1 (impl_Group_products.b0 of_1 g1 g2 x2 out1) (next_1, 0)).bind (fun p => match p with | (next_2, x3) => some (.next (next_2, (w64 (x2 + 1)))))) else some (.brk (next_1, x2)))

def impl_Group_products.b2 (many_1 : Int) (g1 : Int) (g2 : Nat → UInt8) (of_1 : List Int) : (List Int) × Int → Option (LB ((List Int) × Int)) := fun p => match p with | (out1, x1) => (bif (decide (x1 < many_1)) then (G.impl_Group_n.f g1 g2).bind (fun r_2 => grd (decide (0 ≤ r_2)) (small r_2.toNat ((loop1 (impl_Group_products.b1 out1 of_1 g1 g2) ((List.replicate r_2.toNat (0 : Int)), 0)).bind (fun p => match p with | (next_1, x2) => some (.next (next_1, (w64 (x1 + 1)))))))) else some (.brk (out1, x1)))

def impl_Group_products.f (g1 : Int) (g2 : Nat → UInt8) (of_1 : List Int) (many_1 : Int) : Option (List Int) := (G.impl_Group_n.f g1 g2).bind (fun r_1 => grd (decide (0 ≤ r_1)) (small r_1.toNat (chk 0 ((List.replicate r_1.toNat (0 : Int)).length) ((loop1 (impl_Group_products.b2 many_1 g1 g2 of_1) (((List.replicate r_1.toNat (0 : Int)).set 0 1), 0)).bind (fun p => match p with | (out1, x1) => some out1)))))

def impl_Group_products.R (r : List Int) (v : Value) (L : List Asn) : Prop := ∃ s0 : SV, v = SV.v s0 ∧ L = [row Ei 2 s0 r]

set_option maxRecDepth 100000 in
set_option maxHeartbeats 4000000 in
theorem impl_Group_products.calls (w : World) (b_1 : Nat) (g1 : Int) (g2 : Nat → UInt8) (s1 : SV) (of_1 : List Int) (many_1 : Int) (h1 : At (hp w) b_1 [.one (.int .i64 g1), .arr 36 (enf u8v g2)]) (h2 : Reads Ei (hp w) s1 of_1) :
    ∀ r, impl_Group_products.f g1 g2 of_1 many_1 = some r → Calls Try.prog 68 #[bp b_1 0, SV.v s1, .int .i64 many_1] w (Ret w (impl_Group_products.R r)) := by

  refine calls_T (n := 55) (Γ := [(0, bp b_1 0), (1, SV.v s1), (2, .int .i64 many_1)]) (R := impl_Group_products.R) Try.func68 rfl rfl (Nat.le_of_ble_eq_true rfl) ⟨rfl, rfl, rfl, trivial⟩ ?_
  unfold impl_Group_products.f
  refine TC.seq ?_
  refine TC.region ?_
  refine TL.assign rfl rfl (v := SV.v ⟨none, 0, 0⟩) rfl ?_
  refine TL.done ?_
  refine TC.seq ?_
  refine TC.region ?_
  refine TL.move rfl rfl (v := bp b_1 0) rfl ?_
  refine TL.call (R := G.impl_Group_n.R) Try.call65 rfl rfl rfl (fun w hS => G.impl_Group_n.calls w b_1 g1 g2 ((Src.at h1) w hS)) ?_
  rintro r_1 _ _ ⟨rfl, rfl⟩
  refine TL.grd fun h4 => ?_
  refine TL.small fun h3 => ?_
  refine TL.mkslice Ei (0 : Int) r_1 Try.underlying22 (info_of Try.type2) (zv := (Try.t2.zero.getD (.bool false))) rfl rfl rfl (by simp [Ei, flat, Seg.cells]) (by decide) (by simpa using h4) (by omega) rfl rfl rfl rfl fun s2 => ?_
  refine TL.assign rfl rfl (v := SV.v s2) rfl ?_
  refine TL.done ?_
  refine TC.seq ?_
  refine TC.region ?_
  refine TL.move rfl rfl (v := SV.v s2) rfl ?_
  refine TL.chk fun h5 => ?_
  refine TL.ixs 0 0 (Rd.row 0 rfl) h5 Try.underlying22 Try.sizeOf2 rfl rfl rfl rfl rfl ?_
  refine TL.stE 0 (0) 1 (v := .int .i64 1) rfl Try.sizeOf2 rfl rfl rfl (by have h_ := h5; omega) rfl rfl rfl rfl ?_
  refine TL.done ?_
  refine TC.seq ?_
  refine TC.seq ?_
  refine TC.region ?_
  refine TL.move rfl rfl (v := .int .i64 many_1) rfl ?_
  refine TL.move rfl rfl (v := .int .i64 0) rfl ?_
  refine TL.done ?_
  refine TC.loop1 (σ := (List Int) × Int) (γ := SV) (Γ' := (fun p q => match p, q with | (out1, x1), s3 => [(0, bp b_1 0), (1, SV.v s1), (7, SV.v s3), (18, .int .i64 many_1), (19, .int .i64 x1)])) (L' := (fun p q => match p, q with | (out1, x1), s3 => [row Ei 2 s3 out1])) (Γb := (fun p q => match p, q with | (out1, x1), s3 => [(0, bp b_1 0), (1, SV.v s1), (7, SV.v s3), (18, .int .i64 many_1), (19, .int .i64 x1)])) (Lb := (fun p q => match p, q with | (out1, x1), s3 => [row Ei 2 s3 out1])) ((((List.replicate r_1.toNat (0 : Int)).set 0 1), 0)) (s2) ⟨rfl, rfl, rfl, rfl, rfl, trivial⟩ [0] rfl ?_ ?_
  · rintro ⟨out1, x1⟩ s3
    refine TC.seq ?_
    refine TC.region ?_
    refine TL.bin .i64 x1 many_1 rfl rfl rfl rfl (v := .bool (decide (x1 < many_1))) rfl ?_
    refine TL.done ?_
    refine TC.seq ?_
    refine TC.cond (b := (decide (x1 < many_1))) rfl (fun c1 => ?_) (fun c2 => ?_)
    · refine TC.skip ?_
      refine TC.seq ?_
      refine TC.block (NoEx.loop1 rfl) ?_
      refine TC.seq ?_
      refine TC.region ?_
      refine TL.move rfl rfl (v := bp b_1 0) rfl ?_
      refine TL.call (R := G.impl_Group_n.R) Try.call65 rfl rfl rfl (fun w hS => G.impl_Group_n.calls w b_1 g1 g2 ((Src.at h1) w hS)) ?_
      rintro r_2 _ _ ⟨rfl, rfl⟩
      refine TL.grd fun h7 => ?_
      refine TL.small fun h6 => ?_
      refine TL.mkslice Ei (0 : Int) r_2 Try.underlying22 (info_of Try.type2) (zv := (Try.t2.zero.getD (.bool false))) rfl rfl rfl (by simp [Ei, flat, Seg.cells]) (by decide) (by simpa using h7) (by omega) rfl rfl rfl rfl fun s4 => ?_
      refine TL.assign rfl rfl (v := SV.v s4) rfl ?_
      refine TL.done ?_
      refine TC.seq ?_
      refine TC.seq ?_
      refine TC.region ?_
      refine TL.move rfl rfl (v := SV.v s3) rfl ?_
      refine TL.len (Rd.row 1 rfl) Try.underlying22 rfl rfl rfl ?_
      refine TL.move rfl rfl (v := .int .i64 0) rfl ?_
      refine TL.done ?_
      refine TC.loop1 (σ := (List Int) × Int) (γ := Unit) (Γ' := (fun p q => match p, q with | (next_1, x2), _ => [(0, bp b_1 0), (1, SV.v s1), (8, SV.v s4), (18, .int .i64 many_1), (19, .int .i64 x1), (24, SV.v s3), (25, .int .i64 (out1.length : Int)), (26, .int .i64 x2)])) (L' := (fun p q => match p, q with | (next_1, x2), _ => [row Ei 2 s4 next_1, row Ei 2 s3 out1])) (Γb := (fun p q => match p, q with | (next_1, x2), _ => [(0, bp b_1 0), (1, SV.v s1), (8, SV.v s4), (18, .int .i64 many_1), (19, .int .i64 x1), (24, SV.v s3), (25, .int .i64 (out1.length : Int)), (26, .int .i64 x2)])) (Lb := (fun p q => match p, q with | (next_1, x2), _ => [row Ei 2 s4 next_1, row Ei 2 s3 out1])) (((List.replicate r_2.toNat (0 : Int)), 0)) (()) ⟨rfl, rfl, rfl, rfl, rfl, rfl, rfl, rfl, trivial⟩ [0, 0] rfl ?_ ?_
      · rintro ⟨next_1, x2⟩ _
        refine TC.seq ?_
        refine TC.region ?_
        refine TL.bin .i64 x2 (out1.length : Int) rfl rfl rfl rfl (v := .bool (decide (x2 < (out1.length : Int)))) rfl ?_
        refine TL.done ?_
        refine TC.seq ?_
        refine TC.cond (b := (decide (x2 < (out1.length : Int)))) rfl (fun c3 => ?_) (fun c4 => ?_)
        · refine TC.skip ?_
          refine TC.seq ?_
          refine TC.block (NoEx.loop1 rfl) ?_
          refine TC.seq ?_
          refine TC.region ?_
          refine TL.move rfl rfl (v := .int .i64 x2) rfl ?_
          refine TL.chk fun h8 => ?_
          refine TL.ixs x2 x2.toNat (Rd.row 1 rfl) h8 Try.underlying22 Try.sizeOf2 rfl rfl rfl rfl (by omega) ?_
          refine TL.loadE (Rd.row 1 rfl) Try.isAgg2 x2.toNat 0 (gt_spec h8) (v := .int .i64 (gt out1 x2)) rfl (by simp only [show Ei.sz = 1 from rfl]; omega) rfl rfl rfl ?_
          refine TL.assign rfl rfl (v := .int .i64 x2) rfl ?_
          refine TL.assign rfl rfl (v := .int .i64 (gt out1 x2)) rfl ?_
          refine TL.done ?_
          refine TC.seq ?_
          refine TC.region ?_
          refine TL.move rfl rfl (v := SV.v s1) rfl ?_
          refine TL.len (Rd.old h2) Try.underlying22 rfl rfl rfl ?_
          refine TL.move rfl rfl (v := .int .i64 0) rfl ?_
          refine TL.done ?_
          refine TC.loop1 (σ := (List Int) × Int) (γ := Unit) (Γ' := (fun p q => match p, q with | (next_2, x3), _ => [(0, bp b_1 0), (1, SV.v s1), (8, SV.v s4), (9, .int .i64 x2), (10, .int .i64 (gt out1 x2)), (18, .int .i64 many_1), (19, .int .i64 x1), (24, SV.v s3), (25, .int .i64 (out1.length : Int)), (26, .int .i64 x2), (31, SV.v s1), (32, .int .i64 (of_1.length : Int)), (33, .int .i64 x3)])) (L' := (fun p q => match p, q with | (next_2, x3), _ => [row Ei 2 s4 next_2, row Ei 2 s3 out1])) (Γb := (fun p q => match p, q with | (next_2, x3), _ => [(0, bp b_1 0), (1, SV.v s1), (8, SV.v s4), (9, .int .i64 x2), (10, .int .i64 (gt out1 x2)), (18, .int .i64 many_1), (19, .int .i64 x1), (24, SV.v s3), (25, .int .i64 (out1.length : Int)), (26, .int .i64 x2), (31, SV.v s1), (32, .int .i64 (of_1.length : Int)), (33, .int .i64 x3)])) (Lb := (fun p q => match p, q with | (next_2, x3), _ => [row Ei 2 s4 next_2, row Ei 2 s3 out1])) ((next_1, 0)) (()) ⟨rfl, rfl, rfl, rfl, rfl, rfl, rfl, rfl, rfl, rfl, rfl, rfl, rfl, trivial⟩ [0, 0] rfl ?_ ?_
          · rintro ⟨next_2, x3⟩ _
            refine TC.seq ?_
            refine TC.region ?_
            refine TL.bin .i64 x3 (of_1.length : Int) rfl rfl rfl rfl (v := .bool (decide (x3 < (of_1.length : Int)))) rfl ?_
            refine TL.done ?_
            refine TC.seq ?_
            refine TC.cond (b := (decide (x3 < (of_1.length : Int)))) rfl (fun c5 => ?_) (fun c6 => ?_)
            · refine TC.skip ?_
              refine TC.seq ?_
              refine TC.block (NoEx.loop1 rfl) ?_
              refine TC.seq ?_
              refine TC.region ?_
              refine TL.move rfl rfl (v := .int .i64 x3) rfl ?_
              refine TL.chk fun h9 => ?_
              refine TL.ixs x3 x3.toNat (Rd.old h2) h9 Try.underlying22 Try.sizeOf2 rfl rfl rfl rfl (by omega) ?_
              refine TL.loadE (Rd.old h2) Try.isAgg2 x3.toNat 0 (gt_spec h9) (v := .int .i64 (gt of_1 x3)) rfl (by simp only [show Ei.sz = 1 from rfl]; omega) rfl rfl rfl ?_
              refine TL.assign rfl rfl (v := .int .i64 x3) rfl ?_
              refine TL.assign rfl rfl (v := .int .i64 (gt of_1 x3)) rfl ?_
              refine TL.done ?_
              refine TC.region ?_
              refine TL.move rfl rfl (v := SV.v s4) rfl ?_
              refine TL.move rfl rfl (v := bp b_1 0) rfl ?_
              refine TL.move rfl rfl (v := .int .i64 x2) rfl ?_
              refine TL.move rfl rfl (v := .int .i64 x3) rfl ?_
              refine TL.call (R := G.impl_Group_times.R) Try.call66 rfl rfl rfl (fun w hS => G.impl_Group_times.calls w b_1 g1 g2 x2 x3 ((Src.at h1) w hS)) ?_
              rintro r_3 _ _ ⟨rfl, rfl⟩
              refine TL.chk fun h10 => ?_
              refine TL.ixs r_3 r_3.toNat (Rd.row 0 rfl) h10 Try.underlying22 Try.sizeOf2 rfl rfl rfl rfl (by omega) ?_
              refine TL.loadE (Rd.row 0 rfl) Try.isAgg2 r_3.toNat 0 (gt_spec h10) (v := .int .i64 (gt next_2 r_3)) rfl (by simp only [show Ei.sz = 1 from rfl]; omega) rfl rfl rfl ?_
              refine TL.move rfl rfl (v := .int .i64 (gt out1 x2)) rfl ?_
              refine TL.move rfl rfl (v := .int .i64 (gt of_1 x3)) rfl ?_
              refine TL.bin .i64 (gt out1 x2) (gt of_1 x3) rfl rfl rfl rfl (v := .int .i64 (w64 ((gt out1 x2) * (gt of_1 x3)))) rfl ?_
              refine TL.bin .i64 (gt next_2 r_3) (w64 ((gt out1 x2) * (gt of_1 x3))) rfl rfl rfl rfl (v := .int .i64 (w64 ((gt next_2 r_3) + (w64 ((gt out1 x2) * (gt of_1 x3)))))) rfl ?_
              refine TL.ixs r_3 r_3.toNat (Rd.row 0 rfl) h10 Try.underlying22 Try.sizeOf2 rfl rfl rfl rfl (by omega) ?_
              refine TL.stE 0 (r_3.toNat) (w64 ((gt next_2 r_3) + (w64 ((gt out1 x2) * (gt of_1 x3))))) (v := .int .i64 (w64 ((gt next_2 r_3) + (w64 ((gt out1 x2) * (gt of_1 x3)))))) rfl Try.sizeOf2 rfl rfl rfl (by have h_ := h10; omega) (by simp only [show Ei.sz = 1 from rfl]; omega) rfl rfl rfl ?_
              refine TL.done ?_
              refine TC.region ?_
              refine TL.bin .i64 x3 1 rfl rfl rfl rfl (v := .int .i64 (w64 (x3 + 1))) rfl ?_
              refine TL.move rfl rfl (v := .int .i64 (w64 (x3 + 1))) rfl ?_
              refine TL.done ?_
              exact TC.next1 (((next_2.set r_3.toNat (w64 ((gt next_2 r_3) + (w64 ((gt out1 x2) * (gt of_1 x3)))))), (w64 (x3 + 1)))) (()) ⟨rfl, rfl, rfl, rfl, rfl, rfl, rfl, rfl, rfl, rfl, rfl, rfl, rfl, trivial⟩ [0, 0] rfl
            · exact TC.brk1 ((next_2, x3)) (()) ⟨rfl, rfl, rfl, rfl, rfl, rfl, rfl, rfl, rfl, rfl, rfl, rfl, rfl, trivial⟩ [0, 0] rfl
          · rintro ⟨next_2, x3⟩ _
            refine TC.region ?_
            refine TL.bin .i64 x2 1 rfl rfl rfl rfl (v := .int .i64 (w64 (x2 + 1))) rfl ?_
            refine TL.move rfl rfl (v := .int .i64 (w64 (x2 + 1))) rfl ?_
            refine TL.done ?_
            exact TC.next1 ((next_2, (w64 (x2 + 1)))) (()) ⟨rfl, rfl, rfl, rfl, rfl, rfl, rfl, rfl, trivial⟩ [0, 0] rfl
        · exact TC.brk1 ((next_1, x2)) (()) ⟨rfl, rfl, rfl, rfl, rfl, rfl, rfl, rfl, trivial⟩ [0, 0] rfl
      · rintro ⟨next_1, x2⟩ _
        refine TC.region ?_
        refine TL.move rfl rfl (v := SV.v s4) rfl ?_
        refine TL.assign rfl rfl (v := SV.v s4) rfl ?_
        refine TL.done ?_
        refine TC.region ?_
        refine TL.bin .i64 x1 1 rfl rfl rfl rfl (v := .int .i64 (w64 (x1 + 1))) rfl ?_
        refine TL.move rfl rfl (v := .int .i64 (w64 (x1 + 1))) rfl ?_
        refine TL.done ?_
        exact TC.next1 ((next_1, (w64 (x1 + 1)))) (s4) ⟨rfl, rfl, rfl, rfl, rfl, trivial⟩ [0] rfl
    · exact TC.brk1 ((out1, x1)) (s3) ⟨rfl, rfl, rfl, rfl, rfl, trivial⟩ [0] rfl
  · rintro ⟨out1, x1⟩ s3
    refine TC.seq ?_
    refine TC.region ?_
    refine TL.move rfl rfl (v := SV.v s3) rfl ?_
    refine TL.assign rfl rfl (v := SV.v s3) rfl ?_
    refine TL.done ?_
    exact TC.retF (Fin.body (fin1 (.inr rfl) rfl (.tmp rfl) [0] rfl ⟨s3, rfl, rfl⟩))

end Go.Proofs.Ytcombgcjgdkbiaa.G
