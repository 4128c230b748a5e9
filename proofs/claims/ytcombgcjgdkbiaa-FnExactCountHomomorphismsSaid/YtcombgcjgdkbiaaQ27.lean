/- impl.CountHomomorphisms, as a pure function. -/
import Derived.Test.YtcombgcjgdkbiaaProg
import Derived.Test.YtcombgcjgdkbiaaSx9
import Derived.Test.YtcombgcjgdkbiaaQ64
import Derived.Test.YtcombgcjgdkbiaaQ65
import Derived.Test.YtcombgcjgdkbiaaQ69
import Derived.Test.YtcombgcjgdkbiaaQ70
set_option linter.unusedVariables false
namespace Go.Proofs.Ytcombgcjgdkbiaa.G
open Go Go.Sx Go.Proofs

def impl_CountHomomorphisms.b0 (f1 : List Int) (h1 : Int) : (List Int) × Int × Int → Option (LB ((List Int) × Int × Int)) := fun p => match p with | (f2, x2, x3) => (bif (decide (x3 < (f1.length : Int))) then nz h1 (chk x3 f2.length (some (.next ((f2.set x3.toNat (Int.tmod x2 h1)), (w64 (Int.tdiv x2 h1)), (w64 (x3 + 1)))))) else some (.brk (f2, x2, x3)))

def impl_CountHomomorphisms.b1 (r_4 : Int) (h1 : Int) (g1 : Int) (g2 : Nat → UInt8) (h2 : Nat → UInt8) : Int × (List Int) × Int → Option (LB (Int × (List Int) × Int)) := fun p => match p with | (many_1, f1, x1) => (bif (decide (x1 < r_4)) then (loop1 (impl_CountHomomorphisms.b0 f1 h1) (f1, x1, 0)).bind (fun p => match p with | (f2, x2, x3) => (G.impl_homomorphism.f g1 g2 h1 h2 f2).bind (fun r_5 => ((bif r_5 then some (w64 (many_1 + 1)) else some many_1)).bind (fun many_2 => some (.next (many_2, f2, (w64 (x1 + 1))))))) else some (.brk (many_1, f1, x1)))

def impl_CountHomomorphisms.f (g1 : Int) (g2 : Nat → UInt8) (h1 : Int) (h2 : Nat → UInt8) : Option (Int × Int) := (G.impl_IsGroup.f g1 g2).bind (fun r_1 => (bif (!r_1) then some true else (G.impl_IsGroup.f h1 h2).bind (fun r_2 => some (!r_2))).bind (fun b_3 => (bif b_3 then some (0, 1) else (G.impl_Group_n.f g1 g2).bind (fun r_3 => grd (decide (0 ≤ r_3)) (small r_3.toNat ((G.impl_powerAll.f h1 g1).bind (fun r_4 => (loop1 (impl_CountHomomorphisms.b1 r_4 h1 g1 g2 h2) (0, (List.replicate r_3.toNat (0 : Int)), 0)).bind (fun p => match p with | (many_1, f1, x1) => some (many_1, 0)))))))))

def impl_CountHomomorphisms.R (r : Int × Int) (v : Value) (L : List Asn) : Prop := v = .tuple #[.int .i64 r.1, .int .i64 r.2] ∧ L = []

set_option maxRecDepth 100000 in
set_option maxHeartbeats 4000000 in
theorem impl_CountHomomorphisms.calls (w : World) (g1 : Int) (g2 : Nat → UInt8) (h1 : Int) (h2 : Nat → UInt8) :
    ∀ r, impl_CountHomomorphisms.f g1 g2 h1 h2 = some r → Calls Try.prog 27 #[sval [.one (.int .i64 g1), .arr 36 (enf u8v g2)], sval [.one (.int .i64 h1), .arr 36 (enf u8v h2)]] w (Ret w (impl_CountHomomorphisms.R r)) := by

  refine calls_T (n := 51) (Γ := [(0, sval [.one (.int .i64 g1), .arr 36 (enf u8v g2)]), (1, sval [.one (.int .i64 h1), .arr 36 (enf u8v h2)])]) (R := impl_CountHomomorphisms.R) Try.func27 rfl rfl (Nat.le_of_ble_eq_true rfl) ⟨rfl, rfl, trivial⟩ ?_
  unfold impl_CountHomomorphisms.f
  refine TC.seq ?_
  refine TC.region ?_
  refine TL.box [.one (.int .i64 g1), .arr 36 (enf u8v g2)] rfl rfl rfl rfl fun b_1 => ?_
  refine TL.box [.one (.int .i64 h1), .arr 36 (enf u8v h2)] rfl rfl rfl rfl fun b_2 => ?_
  refine TL.assign rfl rfl (v := .int .i64 0) rfl ?_
  refine TL.assign rfl rfl (v := .int .i64 0) rfl ?_
  refine TL.done ?_
  refine TC.seq ?_
  refine TC.seq ?_
  refine TC.region ?_
  refine TL.loadM 0 2 (Src.box 1 rfl) Try.isAgg37 Try.sizeOf37 (mid := [.one (.int .i64 g1), .arr 36 (enf u8v g2)]) rfl rfl rfl rfl rfl rfl ?_
  refine TL.call (R := G.impl_IsGroup.R) Try.call64 rfl rfl rfl (fun w hS => G.impl_IsGroup.calls w g1 g2) ?_
  rintro r_1 _ _ ⟨rfl, rfl⟩
  refine TL.not r_1 rfl rfl rfl ?_
  refine TL.move rfl rfl (v := .bool (!r_1)) rfl ?_
  refine TL.cutJ (σ := Bool) (γ := Unit) (Γ' := fun b_3 _ => [(17, .bool b_3), (0, sval [.one (.int .i64 g1), .arr 36 (enf u8v g2)]), (1, sval [.one (.int .i64 h1), .arr 36 (enf u8v h2)]), (2, bp b_1 0), (3, bp b_2 0), (4, .int .i64 0), (5, .int .i64 0), (10, sval [.one (.int .i64 g1), .arr 36 (enf u8v g2)]), (11, .bool r_1), (12, .bool (!r_1)), (13, .bool (!r_1))]) (L' := fun _ _ => [box b_2 37 [.one (.int .i64 h1), .arr 36 (enf u8v h2)], box b_1 37 [.one (.int .i64 g1), .arr 36 (enf u8v g2)]]) 4 ?_ ?_
  · refine TL.ifb (t := 13) (b := (!r_1)) rfl (fun c1 => ?_) (fun c2 => ?_)
    · refine TL.skip rfl rfl (by decide) ?_
      refine TL.skip rfl rfl (by decide) ?_
      refine TL.skip rfl rfl (by decide) ?_
      refine TL.pick rfl rfl (b := true) rfl (r := .bool true) rfl ?_
      refine TL.done ?_
      exact TC.nrm (true) () ⟨rfl, rfl, rfl, rfl, rfl, rfl, rfl, rfl, rfl, rfl, (by rw [c1]; rfl), trivial⟩ [0, 0] rfl
    · refine TL.loadM 0 2 (Src.box 0 rfl) Try.isAgg37 Try.sizeOf37 (mid := [.one (.int .i64 h1), .arr 36 (enf u8v h2)]) rfl rfl rfl rfl rfl rfl ?_
      refine TL.call (R := G.impl_IsGroup.R) Try.call64 rfl rfl rfl (fun w hS => G.impl_IsGroup.calls w h1 h2) ?_
      rintro r_2 _ _ ⟨rfl, rfl⟩
      refine TL.not r_2 rfl rfl rfl ?_
      refine TL.pick rfl rfl (b := false) rfl (r := .bool (!r_2)) rfl ?_
      refine TL.done ?_
      exact TC.nrm ((!r_2)) () ⟨rfl, rfl, rfl, rfl, rfl, rfl, rfl, rfl, rfl, rfl, (by rw [c2]; rfl), trivial⟩ [0, 0] rfl
  · rintro b_3 _
    refine TL.done ?_
    refine TC.cond (b := b_3) rfl (fun c3 => ?_) (fun c4 => ?_)
    · refine TC.seq ?_
      refine TC.region ?_
      refine TL.assign rfl rfl (v := .int .i64 0) rfl ?_
      refine TL.assign rfl rfl (v := .int .i64 1) rfl ?_
      refine TL.done ?_
      exact TC.retF (Fin.body (fin2 (.inr rfl) rfl (.tmp rfl) (.tmp rfl) [] rfl ⟨rfl, rfl⟩))
    · refine TC.skip ?_
      refine TC.seq ?_
      refine TC.region ?_
      refine TL.assign rfl rfl (v := .int .i64 0) rfl ?_
      refine TL.done ?_
      refine TC.seq ?_
      refine TC.region ?_
      refine TL.call (R := G.impl_Group_n.R) Try.call65 rfl rfl rfl (fun w hS => G.impl_Group_n.calls w b_1 g1 g2 ((Src.box 1 rfl) w hS)) ?_
      rintro r_3 _ _ ⟨rfl, rfl⟩
      refine TL.grd fun h4 => ?_
      refine TL.small fun h3 => ?_
      refine TL.mkslice Ei (0 : Int) r_3 Try.underlying78 (info_of Try.type3) (zv := (Try.t3.zero.getD (.bool false))) rfl rfl rfl (by simp [Ei, flat, Seg.cells]) (by decide) (by simpa using h4) (by omega) rfl rfl rfl rfl fun s1 => ?_
      refine TL.assign rfl rfl (v := SV.v s1) rfl ?_
      refine TL.done ?_
      refine TC.seq ?_
      refine TC.seq ?_
      refine TC.region ?_
      refine TL.fa Try.underlying37 rfl Try.sizeOf2 rfl 0 rfl rfl rfl rfl ?_
      refine TL.load1 0 (Src.box 1 rfl) Try.isAgg2 rfl rfl rfl rfl rfl ?_
      refine TL.fa Try.underlying37 rfl Try.sizeOf2 rfl 0 rfl rfl rfl rfl ?_
      refine TL.load1 0 (Src.box 2 rfl) Try.isAgg2 rfl rfl rfl rfl rfl ?_
      refine TL.call (R := G.impl_powerAll.R) Try.call69 rfl rfl rfl (fun w hS => G.impl_powerAll.calls w h1 g1) ?_
      rintro r_4 _ _ ⟨rfl, rfl⟩
      refine TL.move rfl rfl (v := .int .i64 0) rfl ?_
      refine TL.done ?_
      refine TC.loop1 (σ := Int × (List Int) × Int) (γ := Unit) (Γ' := (fun p q => match p, q with | (many_1, f1, x1), _ => [(2, bp b_1 0), (3, bp b_2 0), (6, .int .i64 many_1), (7, SV.v s1), (24, .int .i64 r_4), (25, .int .i64 x1)])) (L' := (fun p q => match p, q with | (many_1, f1, x1), _ => [box b_1 37 [.one (.int .i64 g1), .arr 36 (enf u8v g2)], box b_2 37 [.one (.int .i64 h1), .arr 36 (enf u8v h2)], row Ei 3 s1 f1])) (Γb := (fun p q => match p, q with | (many_1, f1, x1), _ => [(2, bp b_1 0), (3, bp b_2 0), (6, .int .i64 many_1), (7, SV.v s1), (24, .int .i64 r_4), (25, .int .i64 x1)])) (Lb := (fun p q => match p, q with | (many_1, f1, x1), _ => [box b_1 37 [.one (.int .i64 g1), .arr 36 (enf u8v g2)], box b_2 37 [.one (.int .i64 h1), .arr 36 (enf u8v h2)], row Ei 3 s1 f1])) ((0, (List.replicate r_3.toNat (0 : Int)), 0)) (()) ⟨rfl, rfl, rfl, rfl, rfl, rfl, trivial⟩ [2, 1, 0] rfl ?_ ?_
      · rintro ⟨many_1, f1, x1⟩ _
        refine TC.seq ?_
        refine TC.region ?_
        refine TL.bin .i64 x1 r_4 rfl rfl rfl rfl (v := .bool (decide (x1 < r_4))) rfl ?_
        refine TL.done ?_
        refine TC.seq ?_
        refine TC.cond (b := (decide (x1 < r_4))) rfl (fun c5 => ?_) (fun c6 => ?_)
        · refine TC.skip ?_
          refine TC.seq ?_
          refine TC.block (NoEx.loop1 rfl) ?_
          refine TC.seq ?_
          refine TC.region ?_
          refine TL.move rfl rfl (v := .int .i64 x1) rfl ?_
          refine TL.assign rfl rfl (v := .int .i64 x1) rfl ?_
          refine TL.done ?_
          refine TC.seq ?_
          refine TC.seq ?_
          refine TC.region ?_
          refine TL.move rfl rfl (v := SV.v s1) rfl ?_
          refine TL.len (Rd.row 2 rfl) Try.underlying78 rfl rfl rfl ?_
          refine TL.move rfl rfl (v := .int .i64 0) rfl ?_
          refine TL.done ?_
          refine TC.loop1 (σ := (List Int) × Int × Int) (γ := Unit) (Γ' := (fun p q => match p, q with | (f2, x2, x3), _ => [(2, bp b_1 0), (3, bp b_2 0), (6, .int .i64 many_1), (7, SV.v s1), (8, .int .i64 x2), (24, .int .i64 r_4), (25, .int .i64 x1), (29, .int .i64 (f1.length : Int)), (30, .int .i64 x3)])) (L' := (fun p q => match p, q with | (f2, x2, x3), _ => [box b_1 37 [.one (.int .i64 g1), .arr 36 (enf u8v g2)], box b_2 37 [.one (.int .i64 h1), .arr 36 (enf u8v h2)], row Ei 3 s1 f2])) (Γb := (fun p q => match p, q with | (f2, x2, x3), _ => [(2, bp b_1 0), (3, bp b_2 0), (6, .int .i64 many_1), (7, SV.v s1), (8, .int .i64 x2), (24, .int .i64 r_4), (25, .int .i64 x1), (29, .int .i64 (f1.length : Int)), (30, .int .i64 x3)])) (Lb := (fun p q => match p, q with | (f2, x2, x3), _ => [box b_1 37 [.one (.int .i64 g1), .arr 36 (enf u8v g2)], box b_2 37 [.one (.int .i64 h1), .arr 36 (enf u8v h2)], row Ei 3 s1 f2])) ((f1, x1, 0)) (()) ⟨rfl, rfl, rfl, rfl, rfl, rfl, rfl, rfl, rfl, trivial⟩ [0, 0, 0] rfl ?_ ?_
          · rintro ⟨f2, x2, x3⟩ _
            refine TC.seq ?_
            refine TC.region ?_
            refine TL.bin .i64 x3 (f1.length : Int) rfl rfl rfl rfl (v := .bool (decide (x3 < (f1.length : Int)))) rfl ?_
            refine TL.done ?_
            refine TC.seq ?_
            refine TC.cond (b := (decide (x3 < (f1.length : Int)))) rfl (fun c7 => ?_) (fun c8 => ?_)
            · refine TC.skip ?_
              refine TC.seq ?_
              refine TC.block (NoEx.loop1 rfl) ?_
              refine TC.seq ?_
              refine TC.region ?_
              refine TL.move rfl rfl (v := .int .i64 x3) rfl ?_
              refine TL.assign rfl rfl (v := .int .i64 x3) rfl ?_
              refine TL.done ?_
              refine TC.seq ?_
              refine TC.region ?_
              refine TL.move rfl rfl (v := SV.v s1) rfl ?_
              refine TL.move rfl rfl (v := .int .i64 x3) rfl ?_
              refine TL.move rfl rfl (v := .int .i64 x2) rfl ?_
              refine TL.fa Try.underlying37 rfl Try.sizeOf2 rfl 0 rfl rfl rfl rfl ?_
              refine TL.load1 0 (Src.box 1 rfl) Try.isAgg2 rfl rfl rfl rfl rfl ?_
              refine TL.nz fun z1 => ?_
              refine TL.rem .i64 x2 h1 z1 rfl rfl rfl rfl ?_
              refine TL.chk fun h5 => ?_
              refine TL.ixs x3 x3.toNat (Rd.row 2 rfl) h5 Try.underlying78 Try.sizeOf3 rfl rfl rfl rfl (by omega) ?_
              refine TL.stE 2 (x3.toNat) (Int.tmod x2 h1) (v := .int .i64 (Int.tmod x2 h1)) rfl Try.sizeOf3 rfl rfl rfl (by have h_ := h5; omega) (by simp only [show Ei.sz = 1 from rfl]; omega) rfl rfl rfl ?_
              refine TL.done ?_
              refine TC.region ?_
              refine TL.move rfl rfl (v := .int .i64 x2) rfl ?_
              refine TL.fa Try.underlying37 rfl Try.sizeOf2 rfl 0 rfl rfl rfl rfl ?_
              refine TL.load1 0 (Src.box 1 rfl) Try.isAgg2 rfl rfl rfl rfl rfl ?_
              refine TL.quo .i64 x2 h1 z1 rfl rfl rfl rfl ?_
              refine TL.assign rfl rfl (v := .int .i64 (w64 (Int.tdiv x2 h1))) rfl ?_
              refine TL.done ?_
              refine TC.region ?_
              refine TL.bin .i64 x3 1 rfl rfl rfl rfl (v := .int .i64 (w64 (x3 + 1))) rfl ?_
              refine TL.move rfl rfl (v := .int .i64 (w64 (x3 + 1))) rfl ?_
              refine TL.done ?_
              exact TC.next1 (((f2.set x3.toNat (Int.tmod x2 h1)), (w64 (Int.tdiv x2 h1)), (w64 (x3 + 1)))) (()) ⟨rfl, rfl, rfl, rfl, rfl, rfl, rfl, rfl, rfl, trivial⟩ [0, 0, 0] rfl
            · exact TC.brk1 ((f2, x2, x3)) (()) ⟨rfl, rfl, rfl, rfl, rfl, rfl, rfl, rfl, rfl, trivial⟩ [0, 0, 0] rfl
          · rintro ⟨f2, x2, x3⟩ _
            refine TC.seq ?_
            refine TC.region ?_
            refine TL.move rfl rfl (v := SV.v s1) rfl ?_
            refine TL.call (R := G.impl_homomorphism.R) Try.call70 rfl rfl rfl (fun w hS => G.impl_homomorphism.calls w b_1 g1 g2 b_2 h1 h2 s1 f2 ((Src.box 0 rfl) w hS) ((Src.box 1 rfl) w hS) ((Rd.row 2 rfl) w hS)) ?_
            rintro r_5 _ _ ⟨rfl, rfl⟩
            refine TL.done ?_
            refine TC.join1 (σ := Int) (γ := Unit) (Γ' := (fun many_2 _ => [(2, bp b_1 0), (3, bp b_2 0), (6, .int .i64 many_2), (7, SV.v s1), (24, .int .i64 r_4), (25, .int .i64 x1)])) (L' := (fun many_2 _ => [box b_1 37 [.one (.int .i64 g1), .arr 36 (enf u8v g2)], box b_2 37 [.one (.int .i64 h1), .arr 36 (enf u8v h2)], row Ei 3 s1 f2])) ?_ ?_
            · refine TC.cond (b := r_5) rfl (fun c9 => ?_) (fun c10 => ?_)
              · refine TC.region ?_
                refine TL.move rfl rfl (v := .int .i64 many_1) rfl ?_
                refine TL.bin .i64 many_1 1 rfl rfl rfl rfl (v := .int .i64 (w64 (many_1 + 1))) rfl ?_
                refine TL.assign rfl rfl (v := .int .i64 (w64 (many_1 + 1))) rfl ?_
                refine TL.done ?_
                exact TC.nrm ((w64 (many_1 + 1))) (()) ⟨rfl, rfl, rfl, rfl, rfl, rfl, trivial⟩ [0, 0, 0] rfl
              · refine TC.skip ?_
                exact TC.nrm (many_1) (()) ⟨rfl, rfl, rfl, rfl, rfl, rfl, trivial⟩ [0, 0, 0] rfl
            · rintro many_2 _
              refine TC.region ?_
              refine TL.bin .i64 x1 1 rfl rfl rfl rfl (v := .int .i64 (w64 (x1 + 1))) rfl ?_
              refine TL.move rfl rfl (v := .int .i64 (w64 (x1 + 1))) rfl ?_
              refine TL.done ?_
              exact TC.next1 ((many_2, f2, (w64 (x1 + 1)))) (()) ⟨rfl, rfl, rfl, rfl, rfl, rfl, trivial⟩ [0, 0, 0] rfl
        · exact TC.brk1 ((many_1, f1, x1)) (()) ⟨rfl, rfl, rfl, rfl, rfl, rfl, trivial⟩ [0, 0, 0] rfl
      · rintro ⟨many_1, f1, x1⟩ _
        refine TC.seq ?_
        refine TC.region ?_
        refine TL.move rfl rfl (v := .int .i64 many_1) rfl ?_
        refine TL.assign rfl rfl (v := .int .i64 many_1) rfl ?_
        refine TL.assign rfl rfl (v := .int .i64 0) rfl ?_
        refine TL.done ?_
        exact TC.retF (Fin.body (fin2 (.inr rfl) rfl (.tmp rfl) (.tmp rfl) [] rfl ⟨rfl, rfl⟩))

end Go.Proofs.Ytcombgcjgdkbiaa.G
