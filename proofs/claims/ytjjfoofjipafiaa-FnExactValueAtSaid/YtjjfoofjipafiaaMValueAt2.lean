/- Functions of the program, as pure functions. -/
import Derived.Test.YtjjfoofjipafiaaMValueAt1
import Derived.Test.YtjjfoofjipafiaaProg
/- spec.l03Digits, as a pure function. -/
set_option linter.unusedVariables false
namespace Go.Proofs.Ytjjfoofjipafiaa.G
open Go Go.Sx Go.Proofs

def spec_l03Digits.b0 (n_1 : Int) : Int × (List Int) × Int → Option (LB (Int × (List Int) × Int)) := fun p => match p with | (at_2, out1, i1) => (bif (decide (i1 ≥ 0)) then nz n_1 (chk i1 out1.length (some (.next ((w64 (Int.tdiv at_2 n_1)), (out1.set i1.toNat (Int.tmod at_2 n_1)), (w64 (i1 - 1)))))) else some (.brk (at_2, out1, i1)))

def spec_l03Digits.f (at_1 : Int) (n_1 : Int) (count1 : Int) : Option (List Int) := grd (decide (0 ≤ count1)) (small count1.toNat ((loop1 (spec_l03Digits.b0 n_1) (at_1, (List.replicate count1.toNat (0 : Int)), (w64 (count1 - 1)))).bind (fun p => match p with | (at_2, out1, i1) => some out1)))

def spec_l03Digits.R (r : List Int) (v : Value) (L : List Asn) : Prop := ∃ (s0 : SV), v = SV.v s0 ∧ L = [row Ei 2 s0 r]

set_option maxRecDepth 100000 in
set_option maxHeartbeats 4000000 in
theorem spec_l03Digits.calls (w : World) (at_1 : Int) (n_1 : Int) (count1 : Int) :
    ∀ r, spec_l03Digits.f at_1 n_1 count1 = some r → Calls Try.prog 71 #[.int .i64 at_1, .int .i64 n_1, .int .i64 count1] w (Ret w (spec_l03Digits.R r)) := by

  refine calls_T (n := 27) (Γ := [(0, .int .i64 at_1), (1, .int .i64 n_1), (2, .int .i64 count1)]) (R := spec_l03Digits.R) Try.func71 rfl rfl (Nat.le_of_ble_eq_true rfl) ⟨rfl, rfl, rfl, trivial⟩ ?_
  unfold spec_l03Digits.f
  refine TC.seq ?_
  refine TC.region ?_
  refine TL.assign rfl rfl (v := SV.v ⟨none, 0, 0⟩) rfl ?_
  refine TL.done ?_
  refine TC.seq ?_
  refine TC.region ?_
  refine TL.move rfl rfl (v := .int .i64 count1) rfl ?_
  refine TL.grd fun h2 => ?_
  refine TL.small fun h1 => ?_
  refine TL.mkslice Ei (0 : Int) count1 Try.underlying22 (info_of Try.type2) (zv := (Try.t2.zero.getD (.bool false))) rfl rfl rfl (by simp [Ei, flat, Seg.cells]) (by decide) (by simpa using h2) (by omega) rfl rfl rfl rfl fun s1 => ?_
  refine TL.assign rfl rfl (v := SV.v s1) rfl ?_
  refine TL.done ?_
  refine TC.seq ?_
  refine TC.seq ?_
  refine TC.region ?_
  refine TL.move rfl rfl (v := .int .i64 count1) rfl ?_
  refine TL.bin .i64 count1 1 rfl rfl rfl rfl (v := .int .i64 (w64 (count1 - 1))) rfl ?_
  refine TL.assign rfl rfl (v := .int .i64 (w64 (count1 - 1))) rfl ?_
  refine TL.done ?_
  refine TC.loop1 (σ := Int × (List Int) × Int) (γ := Unit) (Γ' := (fun p q => match p, q with | (at_2, out1, i1), _ => [(0, .int .i64 at_2), (1, .int .i64 n_1), (7, SV.v s1), (8, .int .i64 i1)])) (L' := (fun p q => match p, q with | (at_2, out1, i1), _ => [row Ei 2 s1 out1])) (Γb := (fun p q => match p, q with | (at_2, out1, i1), _ => [(0, .int .i64 at_2), (1, .int .i64 n_1), (7, SV.v s1), (8, .int .i64 i1)])) (Lb := (fun p q => match p, q with | (at_2, out1, i1), _ => [row Ei 2 s1 out1])) ((at_1, (List.replicate count1.toNat (0 : Int)), (w64 (count1 - 1)))) (()) ⟨rfl, rfl, rfl, rfl, trivial⟩ [0] rfl ?_ ?_
  · rintro ⟨at_2, out1, i1⟩ _
    refine TC.seq ?_
    refine TC.seq ?_
    refine TC.region ?_
    refine TL.move rfl rfl (v := .int .i64 i1) rfl ?_
    refine TL.bin .i64 i1 0 rfl rfl rfl rfl (v := .bool (decide (i1 ≥ 0))) rfl ?_
    refine TL.done ?_
    refine TC.cond (b := (decide (i1 ≥ 0))) rfl (fun c1 => ?_) (fun c2 => ?_)
    · refine TC.skip ?_
      refine TC.seq ?_
      refine TC.block (NoEx.loop1 rfl) ?_
      refine TC.seq ?_
      refine TC.region ?_
      refine TL.move rfl rfl (v := SV.v s1) rfl ?_
      refine TL.move rfl rfl (v := .int .i64 i1) rfl ?_
      refine TL.move rfl rfl (v := .int .i64 at_2) rfl ?_
      refine TL.move rfl rfl (v := .int .i64 n_1) rfl ?_
      refine TL.nz fun z1 => ?_
      refine TL.rem .i64 at_2 n_1 z1 rfl rfl rfl rfl ?_
      refine TL.chk fun h3 => ?_
      refine TL.ixs i1 i1.toNat (Rd.row 0 rfl) h3 Try.underlying22 Try.sizeOf2 rfl rfl rfl rfl (by omega) ?_
      refine TL.stE 0 (i1.toNat) (Int.tmod at_2 n_1) (v := .int .i64 (Int.tmod at_2 n_1)) rfl Try.sizeOf2 rfl rfl rfl (by have h_ := h3; omega) (by simp only [show Ei.sz = 1 from rfl] <;> omega) rfl rfl rfl ?_
      refine TL.done ?_
      refine TC.region ?_
      refine TL.move rfl rfl (v := .int .i64 at_2) rfl ?_
      refine TL.move rfl rfl (v := .int .i64 n_1) rfl ?_
      refine TL.quo .i64 at_2 n_1 z1 rfl rfl rfl rfl ?_
      refine TL.assign rfl rfl (v := .int .i64 (w64 (Int.tdiv at_2 n_1))) rfl ?_
      refine TL.done ?_
      refine TC.region ?_
      refine TL.move rfl rfl (v := .int .i64 i1) rfl ?_
      refine TL.bin .i64 i1 1 rfl rfl rfl rfl (v := .int .i64 (w64 (i1 - 1))) rfl ?_
      refine TL.assign rfl rfl (v := .int .i64 (w64 (i1 - 1))) rfl ?_
      refine TL.done ?_
      exact TC.next1 (((w64 (Int.tdiv at_2 n_1)), (out1.set i1.toNat (Int.tmod at_2 n_1)), (w64 (i1 - 1)))) (()) ⟨rfl, rfl, rfl, rfl, trivial⟩ [0] rfl
    · exact TC.brk1 ((at_2, out1, i1)) (()) ⟨rfl, rfl, rfl, rfl, trivial⟩ [0] rfl
  · rintro ⟨at_2, out1, i1⟩ _
    refine TC.seq ?_
    refine TC.region ?_
    refine TL.move rfl rfl (v := SV.v s1) rfl ?_
    refine TL.assign rfl rfl (v := SV.v s1) rfl ?_
    refine TL.done ?_
    exact TC.retF (Fin.body (fin1 (.inr rfl) rfl (.tmp rfl) [0] rfl ⟨s1, rfl, rfl⟩))

end Go.Proofs.Ytjjfoofjipafiaa.G

/- spec.ValueAt, as a pure function. -/
set_option linter.unusedVariables false
namespace Go.Proofs.Ytjjfoofjipafiaa.G
open Go Go.Sx Go.Proofs

def spec_ValueAt.b0 (x6 : List (Nat → UInt8)) (x1 : Int) (x2 : Int) : Int → Option (LR Int ((List Int) × Int)) := fun x7 => (bif (decide (x7 < (x6.length : Int))) then chk x7 x6.length ((G.spec_l01Small.f x1 x2 (gt x6 x7)).bind (fun r_2 => (bif (!r_2) then some (.ret ((([] : List Int), 1))) else some (.next (w64 (x7 + 1)))))) else some (.brk x7))

def spec_ValueAt.b1 (r_5 : List Int) (x6 : List (Nat → UInt8)) (x1 : Int) : Int × Int → Option (LB (Int × Int)) := fun p => match p with | (x9, x10) => (bif (decide (x10 < (r_5.length : Int))) then chk x10 r_5.length (chk x10 x6.length (chk (gt r_5 x10) 6 (nz x1 (some (.next ((Int.tmod (w64 (x9 * (((gt x6 x10) ((gt r_5 x10).toNat)).toNat : Int))) x1), (w64 (x10 + 1)))))))) else some (.brk (x9, x10)))

def spec_ValueAt.b2 (r_3 : Int) (x9 : Int) (x8 : Int) (x5 : List Int) (x1 : Int) : (List Int) × Int → Option (LB ((List Int) × Int)) := fun p => match p with | (l2, x11) => (bif ((decide (x11 < r_3)) && (x9 != 0)) then chk x11 l2.length (chk (w64 ((w64 (x8 * r_3)) + x11)) x5.length (nz x1 (some (.next ((l2.set x11.toNat (Int.tmod (w64 ((gt l2 x11) + (w64 (x9 * (gt x5 (w64 ((w64 (x8 * r_3)) + x11))))))) x1)), (w64 (x11 + 1))))))) else some (.brk (l2, x11)))

def spec_ValueAt.b3 (x2 : Int) (x3 : Int) (x6 : List (Nat → UInt8)) (x1 : Int) (r_3 : Int) (x5 : List Int) : (List Int) × Int → Option (LB ((List Int) × Int)) := fun p => match p with | (l1, x8) => (G.spec_l03Power.f x2 x3).bind (fun r_4 => (bif (decide (x8 < r_4)) then (G.spec_l03Digits.f x8 x2 x3).bind (fun r_5 => (loop1 (spec_ValueAt.b1 r_5 x6 x1) (1, 0)).bind (fun p => match p with | (x9, x10) => (loop1 (spec_ValueAt.b2 r_3 x9 x8 x5 x1) (l1, 0)).bind (fun p => match p with | (l2, x11) => some (.next (l2, (w64 (x8 + 1))))))) else some (.brk (l1, x8))))

def spec_ValueAt.f (x1 : Int) (x2 : Int) (x3 : Int) (x4 : Int) (x5 : List Int) (x6 : List (Nat → UInt8)) : Option ((List Int) × Int) := (G.spec_l03Is.f x1 x2 x3 x4 x5).bind (fun r_1 => (bif (!r_1) then some (([] : List Int), 1) else (loop (spec_ValueAt.b0 x6 x1 x2) 0).bind (ln (fun x7 => (bif ((x6.length : Int) != x3) then some (([] : List Int), 2) else (G.spec_l03Power.f x2 x4).bind (fun r_3 => grd (decide (0 ≤ r_3)) (small r_3.toNat ((loop1 (spec_ValueAt.b3 x2 x3 x6 x1 r_3 x5) ((List.replicate r_3.toNat (0 : Int)), 0)).bind (fun p => match p with | (l1, x8) => some (l1, 0))))))))))

def spec_ValueAt.R (r : (List Int) × Int) (v : Value) (L : List Asn) : Prop := ∃ (s0 : SV), v = .tuple #[SV.v s0, .int .i64 r.2] ∧ L = [row Ei 2 s0 r.1]

set_option maxRecDepth 100000 in
set_option maxHeartbeats 4000000 in
theorem spec_ValueAt.calls (w : World) (x1 : Int) (x2 : Int) (x3 : Int) (x4 : Int) (s1 : SV) (x5 : List Int) (s2 : SV) (x6 : List (Nat → UInt8)) (h1 : Reads Ei (hp w) s1 x5) (h2 : Reads (Evec 6) (hp w) s2 x6) :
    ∀ r, spec_ValueAt.f x1 x2 x3 x4 x5 x6 = some r → Calls Try.prog 30 #[sval [.one (.int .i64 x1), .one (.int .i64 x2), .one (.int .i64 x3), .one (.int .i64 x4), .one (SV.v s1)], SV.v s2] w (Ret w (spec_ValueAt.R r)) := by

  refine calls_T (n := 113) (Γ := [(0, sval [.one (.int .i64 x1), .one (.int .i64 x2), .one (.int .i64 x3), .one (.int .i64 x4), .one (SV.v s1)]), (1, SV.v s2)]) (R := spec_ValueAt.R) Try.func30 rfl rfl (Nat.le_of_ble_eq_true rfl) ⟨rfl, rfl, trivial⟩ ?_
  unfold spec_ValueAt.f
  refine TC.seq ?_
  refine TC.region ?_
  refine TL.box [.one (.int .i64 x1), .one (.int .i64 x2), .one (.int .i64 x3), .one (.int .i64 x4), .one (SV.v s1)] rfl rfl rfl rfl fun b_1 => ?_
  refine TL.assign rfl rfl (v := SV.v ⟨none, 0, 0⟩) rfl ?_
  refine TL.assign rfl rfl (v := .int .i64 0) rfl ?_
  refine TL.done ?_
  refine TC.seq ?_
  refine TC.seq ?_
  refine TC.region ?_
  refine TL.loadM 0 5 (Src.box 0 rfl) Try.isAgg24 Try.sizeOf24 (mid := [.one (.int .i64 x1), .one (.int .i64 x2), .one (.int .i64 x3), .one (.int .i64 x4), .one (SV.v s1)]) rfl rfl rfl rfl rfl rfl ?_
  refine TL.call (R := G.spec_l03Is.R) Try.call55 rfl rfl rfl (fun w hS => G.spec_l03Is.calls w x1 x2 x3 x4 s1 x5 ((Rd.old h1) w hS)) ?_
  rintro r_1 _ _ ⟨rfl, rfl⟩
  refine TL.not r_1 rfl rfl rfl ?_
  refine TL.done ?_
  refine TC.cond (b := (!r_1)) rfl (fun c1 => ?_) (fun c2 => ?_)
  · refine TC.seq ?_
    refine TC.region ?_
    refine TL.assign rfl rfl (v := SV.v ⟨none, 0, 0⟩) rfl ?_
    refine TL.assign rfl rfl (v := .int .i64 1) rfl ?_
    refine TL.done ?_
    refine TC.nilrow Ei 2 ?_
    exact TC.retF (Fin.body (fin2 (.inr rfl) rfl (.tmp rfl) (.tmp rfl) [0] rfl ⟨⟨none, 0, 0⟩, rfl, rfl⟩))
  · refine TC.skip ?_
    refine TC.seq ?_
    refine TC.seq ?_
    refine TC.region ?_
    refine TL.assign rfl rfl (v := .int .i64 0) rfl ?_
    refine TL.done ?_
    refine TC.loopK (σ := Int) (γ := Unit) (Γ' := (fun x7 _ => [(1, SV.v s2), (2, bp b_1 0), (6, .int .i64 x7)])) (L' := (fun x7 _ => [box b_1 24 [.one (.int .i64 x1), .one (.int .i64 x2), .one (.int .i64 x3), .one (.int .i64 x4), .one (SV.v s1)]])) (Γb := (fun x7 _ => [(1, SV.v s2), (2, bp b_1 0), (6, .int .i64 x7)])) (Lb := (fun x7 _ => [box b_1 24 [.one (.int .i64 x1), .one (.int .i64 x2), .one (.int .i64 x3), .one (.int .i64 x4), .one (SV.v s1)]])) (0) (()) ⟨rfl, rfl, rfl, trivial⟩ [0] rfl ?_ ?_
    · rintro x7 _
      refine TC.seq ?_
      refine TC.seq ?_
      refine TC.region ?_
      refine TL.move rfl rfl (v := .int .i64 x7) rfl ?_
      refine TL.move rfl rfl (v := SV.v s2) rfl ?_
      refine TL.len (Rd.old h2) Try.underlying45 rfl rfl rfl ?_
      refine TL.bin .i64 x7 (x6.length : Int) rfl rfl rfl rfl (v := .bool (decide (x7 < (x6.length : Int)))) rfl ?_
      refine TL.done ?_
      refine TC.cond (b := (decide (x7 < (x6.length : Int)))) rfl (fun c3 => ?_) (fun c4 => ?_)
      · refine TC.skip ?_
        refine TC.seq ?_
        refine TC.block (NoEx.loop rfl NoEx.body) ?_
        refine TC.seq ?_
        refine TC.wk (Γ' := [(1, SV.v s2), (2, bp b_1 0), (6, .int .i64 x7), (17, .int .i64 x7), (18, SV.v s2), (19, .int .i64 (x6.length : Int)), (20, .bool (decide (x7 < (x6.length : Int))))]) ⟨rfl, rfl, rfl, rfl, rfl, rfl, rfl, trivial⟩ ?_
        refine TC.chk fun h3 => ?_
        refine TC.bindE fun r_2 hr1 => ?_
        refine TC.draw [bp b_1 0, .int .i64 x1, bp b_1 1, .int .i64 x2, SV.v s2, .int .i64 x7, ep s2 (x7.toNat * 6), sval [.arr 6 (enf u8v (gt x6 x7))], .bool r_2, .bool (!r_2)] 10 [box b_1 24 [.one (.int .i64 x1), .one (.int .i64 x2), .one (.int .i64 x3), .one (.int .i64 x4), .one (SV.v s1)]] (by kernel_rfl) rfl rfl rfl rfl ?_ ?_
        · refine ⟨?_, ?_, ?_, ?_, ?_, ?_, ?_, ?_, ?_, ?_, trivial⟩
          · refine TL.fa Try.underlying24 rfl Try.sizeOf2 rfl 0 rfl rfl rfl rfl ?_
            refine TL.done ?_
            exact TC.nrm () () ⟨rfl, trivial⟩ [0] (by kernel_rfl)
          · refine TL.load1 0 (Src.box 0 rfl) Try.isAgg2 rfl rfl rfl rfl rfl ?_
            refine TL.done ?_
            exact TC.nrm () () ⟨rfl, trivial⟩ [0] (by kernel_rfl)
          · refine TL.fa Try.underlying24 rfl Try.sizeOf2 rfl 1 rfl rfl rfl rfl ?_
            refine TL.done ?_
            exact TC.nrm () () ⟨rfl, trivial⟩ [0] (by kernel_rfl)
          · refine TL.load1 1 (Src.box 0 rfl) Try.isAgg2 rfl rfl rfl rfl rfl ?_
            refine TL.done ?_
            exact TC.nrm () () ⟨rfl, trivial⟩ [0] (by kernel_rfl)
          · refine TL.move rfl rfl (v := SV.v s2) rfl ?_
            refine TL.done ?_
            exact TC.nrm () () ⟨rfl, trivial⟩ [0] (by kernel_rfl)
          · refine TL.move rfl rfl (v := .int .i64 x7) rfl ?_
            refine TL.done ?_
            exact TC.nrm () () ⟨rfl, trivial⟩ [0] (by kernel_rfl)
          · refine TL.ixs x7 (x7.toNat * 6) (Rd.old h2) h3 Try.underlying45 Try.sizeOf58 rfl rfl rfl rfl (by omega) ?_
            refine TL.done ?_
            exact TC.nrm () () ⟨rfl, trivial⟩ [0] (by kernel_rfl)
          · refine TL.loadEA (Rd.old h2) Try.isAgg58 Try.sizeOf58 x7.toNat (gt_spec h3) (v := sval [.arr 6 (enf u8v (gt x6 x7))]) rfl (by simp only [show (Evec 6).sz = 6 from rfl] <;> omega) rfl rfl rfl ?_
            refine TL.done ?_
            exact TC.nrm () () ⟨rfl, trivial⟩ [0] (by kernel_rfl)
          · refine TL.callH (R := G.spec_l01Small.R) hr1 Try.call70 rfl rfl rfl (fun w hS => G.spec_l01Small.calls w x1 x2 (gt x6 x7)) ?_
            rintro _ _ ⟨rfl, rfl⟩
            refine TL.done ?_
            exact TC.nrm () () ⟨rfl, trivial⟩ [0] (by kernel_rfl)
          · refine TL.not r_2 rfl rfl rfl ?_
            refine TL.done ?_
            exact TC.nrm () () ⟨rfl, trivial⟩ [0] (by kernel_rfl)
        · refine TC.cond (b := (!r_2)) rfl (fun c5 => ?_) (fun c6 => ?_)
          · refine TC.seq ?_
            refine TC.region ?_
            refine TL.assign rfl rfl (v := SV.v ⟨none, 0, 0⟩) rfl ?_
            refine TL.assign rfl rfl (v := .int .i64 1) rfl ?_
            refine TL.done ?_
            refine TC.nilrow Ei 2 ?_
            exact TC.retF (Fin.loop Far.ret (Fin.body (fin2 (.inr rfl) rfl (.tmp rfl) (.tmp rfl) [0] rfl ⟨⟨none, 0, 0⟩, rfl, rfl⟩)))
          · refine TC.skip ?_
            refine TC.region ?_
            refine TL.move rfl rfl (v := .int .i64 x7) rfl ?_
            refine TL.bin .i64 x7 1 rfl rfl rfl rfl (v := .int .i64 (w64 (x7 + 1))) rfl ?_
            refine TL.assign rfl rfl (v := .int .i64 (w64 (x7 + 1))) rfl ?_
            refine TL.done ?_
            exact TC.next ((w64 (x7 + 1))) (()) ⟨rfl, rfl, rfl, trivial⟩ [0] rfl
      · exact TC.brk (x7) (()) ⟨rfl, rfl, rfl, trivial⟩ [0] rfl
    · rintro x7 _
      refine TC.seq ?_
      refine TC.seq ?_
      refine TC.region ?_
      refine TL.move rfl rfl (v := SV.v s2) rfl ?_
      refine TL.len (Rd.old h2) Try.underlying45 rfl rfl rfl ?_
      refine TL.fa Try.underlying24 rfl Try.sizeOf2 rfl 2 rfl rfl rfl rfl ?_
      refine TL.load1 2 (Src.box 0 rfl) Try.isAgg2 rfl rfl rfl rfl rfl ?_
      refine TL.bin .i64 (x6.length : Int) x3 rfl rfl rfl rfl (v := .bool ((x6.length : Int) != x3)) rfl ?_
      refine TL.done ?_
      refine TC.cond (b := ((x6.length : Int) != x3)) rfl (fun c7 => ?_) (fun c8 => ?_)
      · refine TC.seq ?_
        refine TC.region ?_
        refine TL.assign rfl rfl (v := SV.v ⟨none, 0, 0⟩) rfl ?_
        refine TL.assign rfl rfl (v := .int .i64 2) rfl ?_
        refine TL.done ?_
        refine TC.nilrow Ei 2 ?_
        exact TC.retF (Fin.body (fin2 (.inr rfl) rfl (.tmp rfl) (.tmp rfl) [0] rfl ⟨⟨none, 0, 0⟩, rfl, rfl⟩))
      · refine TC.skip ?_
        refine TC.seq ?_
        refine TC.region ?_
        refine TL.fa Try.underlying24 rfl Try.sizeOf2 rfl 1 rfl rfl rfl rfl ?_
        refine TL.load1 1 (Src.box 0 rfl) Try.isAgg2 rfl rfl rfl rfl rfl ?_
        refine TL.fa Try.underlying24 rfl Try.sizeOf2 rfl 3 rfl rfl rfl rfl ?_
        refine TL.load1 3 (Src.box 0 rfl) Try.isAgg2 rfl rfl rfl rfl rfl ?_
        refine TL.call (R := G.spec_l03Power.R) Try.call56 rfl rfl rfl (fun w hS => G.spec_l03Power.calls w x2 x4) ?_
        rintro r_3 _ _ ⟨rfl, rfl⟩
        refine TL.assign rfl rfl (v := .int .i64 r_3) rfl ?_
        refine TL.done ?_
        refine TC.seq ?_
        refine TC.region ?_
        refine TL.move rfl rfl (v := .int .i64 r_3) rfl ?_
        refine TL.grd fun h5 => ?_
        refine TL.small fun h4 => ?_
        refine TL.mkslice Ei (0 : Int) r_3 Try.underlying22 (info_of Try.type2) (zv := (Try.t2.zero.getD (.bool false))) rfl rfl rfl (by simp [Ei, flat, Seg.cells]) (by decide) (by simpa using h5) (by omega) rfl rfl rfl rfl fun s3 => ?_
        refine TL.assign rfl rfl (v := SV.v s3) rfl ?_
        refine TL.done ?_
        refine TC.seq ?_
        refine TC.seq ?_
        refine TC.region ?_
        refine TL.assign rfl rfl (v := .int .i64 0) rfl ?_
        refine TL.done ?_
        refine TC.loop1 (σ := (List Int) × Int) (γ := Unit) (Γ' := (fun p q => match p, q with | (l1, x8), _ => [(1, SV.v s2), (2, bp b_1 0), (7, .int .i64 r_3), (8, SV.v s3), (9, .int .i64 x8)])) (L' := (fun p q => match p, q with | (l1, x8), _ => [box b_1 24 [.one (.int .i64 x1), .one (.int .i64 x2), .one (.int .i64 x3), .one (.int .i64 x4), .one (SV.v s1)], row Ei 2 s3 l1])) (Γb := (fun p q => match p, q with | (l1, x8), _ => [(1, SV.v s2), (2, bp b_1 0), (7, .int .i64 r_3), (8, SV.v s3), (9, .int .i64 x8)])) (Lb := (fun p q => match p, q with | (l1, x8), _ => [box b_1 24 [.one (.int .i64 x1), .one (.int .i64 x2), .one (.int .i64 x3), .one (.int .i64 x4), .one (SV.v s1)], row Ei 2 s3 l1])) (((List.replicate r_3.toNat (0 : Int)), 0)) (()) ⟨rfl, rfl, rfl, rfl, rfl, trivial⟩ [1, 0] rfl ?_ ?_
        · rintro ⟨l1, x8⟩ _
          refine TC.seq ?_
          refine TC.seq ?_
          refine TC.region ?_
          refine TL.move rfl rfl (v := .int .i64 x8) rfl ?_
          refine TL.fa Try.underlying24 rfl Try.sizeOf2 rfl 1 rfl rfl rfl rfl ?_
          refine TL.load1 1 (Src.box 0 rfl) Try.isAgg2 rfl rfl rfl rfl rfl ?_
          refine TL.fa Try.underlying24 rfl Try.sizeOf2 rfl 2 rfl rfl rfl rfl ?_
          refine TL.load1 2 (Src.box 0 rfl) Try.isAgg2 rfl rfl rfl rfl rfl ?_
          refine TL.call (R := G.spec_l03Power.R) Try.call56 rfl rfl rfl (fun w hS => G.spec_l03Power.calls w x2 x3) ?_
          rintro r_4 _ _ ⟨rfl, rfl⟩
          refine TL.bin .i64 x8 r_4 rfl rfl rfl rfl (v := .bool (decide (x8 < r_4))) rfl ?_
          refine TL.done ?_
          refine TC.cond (b := (decide (x8 < r_4))) rfl (fun c9 => ?_) (fun c10 => ?_)
          · refine TC.skip ?_
            refine TC.seq ?_
            refine TC.block (NoEx.loop1 rfl) ?_
            refine TC.seq ?_
            refine TC.region ?_
            refine TL.move rfl rfl (v := .int .i64 x8) rfl ?_
            refine TL.fa Try.underlying24 rfl Try.sizeOf2 rfl 1 rfl rfl rfl rfl ?_
            refine TL.load1 1 (Src.box 0 rfl) Try.isAgg2 rfl rfl rfl rfl rfl ?_
            refine TL.fa Try.underlying24 rfl Try.sizeOf2 rfl 2 rfl rfl rfl rfl ?_
            refine TL.load1 2 (Src.box 0 rfl) Try.isAgg2 rfl rfl rfl rfl rfl ?_
            refine TL.call (R := G.spec_l03Digits.R) Try.call71 rfl rfl rfl (fun w hS => G.spec_l03Digits.calls w x8 x2 x3) ?_
            rintro r_5 _ _ ⟨s4, rfl, rfl⟩
            refine TL.assign rfl rfl (v := SV.v s4) rfl ?_
            refine TL.assign rfl rfl (v := .int .i64 1) rfl ?_
            refine TL.done ?_
            refine TC.seq ?_
            refine TC.seq ?_
            refine TC.region ?_
            refine TL.assign rfl rfl (v := .int .i64 0) rfl ?_
            refine TL.done ?_
            refine TC.loop1 (σ := Int × Int) (γ := Unit) (Γ' := (fun p q => match p, q with | (x9, x10), _ => [(1, SV.v s2), (2, bp b_1 0), (7, .int .i64 r_3), (8, SV.v s3), (9, .int .i64 x8), (10, SV.v s4), (11, .int .i64 x9), (12, .int .i64 x10)])) (L' := (fun p q => match p, q with | (x9, x10), _ => [box b_1 24 [.one (.int .i64 x1), .one (.int .i64 x2), .one (.int .i64 x3), .one (.int .i64 x4), .one (SV.v s1)], row Ei 2 s3 l1, row Ei 2 s4 r_5])) (Γb := (fun p q => match p, q with | (x9, x10), _ => [(1, SV.v s2), (2, bp b_1 0), (7, .int .i64 r_3), (8, SV.v s3), (9, .int .i64 x8), (10, SV.v s4), (11, .int .i64 x9), (12, .int .i64 x10)])) (Lb := (fun p q => match p, q with | (x9, x10), _ => [box b_1 24 [.one (.int .i64 x1), .one (.int .i64 x2), .one (.int .i64 x3), .one (.int .i64 x4), .one (SV.v s1)], row Ei 2 s3 l1, row Ei 2 s4 r_5])) ((1, 0)) (()) ⟨rfl, rfl, rfl, rfl, rfl, rfl, rfl, rfl, trivial⟩ [1, 1, 0] rfl ?_ ?_
            · rintro ⟨x9, x10⟩ _
              refine TC.seq ?_
              refine TC.seq ?_
              refine TC.region ?_
              refine TL.move rfl rfl (v := .int .i64 x10) rfl ?_
              refine TL.move rfl rfl (v := SV.v s4) rfl ?_
              refine TL.len (Rd.row 2 rfl) Try.underlying22 rfl rfl rfl ?_
              refine TL.bin .i64 x10 (r_5.length : Int) rfl rfl rfl rfl (v := .bool (decide (x10 < (r_5.length : Int)))) rfl ?_
              refine TL.done ?_
              refine TC.cond (b := (decide (x10 < (r_5.length : Int)))) rfl (fun c11 => ?_) (fun c12 => ?_)
              · refine TC.skip ?_
                refine TC.seq ?_
                refine TC.block (NoEx.loop1 rfl) ?_
                refine TC.wk (Γ' := [(1, SV.v s2), (2, bp b_1 0), (7, .int .i64 r_3), (8, SV.v s3), (9, .int .i64 x8), (10, SV.v s4), (12, .int .i64 x10), (60, .int .i64 x10), (61, SV.v s4), (62, .int .i64 (r_5.length : Int)), (63, .bool (decide (x10 < (r_5.length : Int)))), (11, .int .i64 x9)]) ⟨rfl, rfl, rfl, rfl, rfl, rfl, rfl, rfl, rfl, rfl, rfl, rfl, trivial⟩ ?_
                refine TC.chk fun h6 => ?_
                refine TC.chk fun h7 => ?_
                refine TC.chk fun h8 => ?_
                refine TC.nz fun z1 => ?_
                refine TC.drawG [(1, SV.v s2), (2, bp b_1 0), (7, .int .i64 r_3), (8, SV.v s3), (9, .int .i64 x8), (10, SV.v s4), (12, .int .i64 x10), (60, .int .i64 x10), (61, SV.v s4), (62, .int .i64 (r_5.length : Int)), (63, .bool (decide (x10 < (r_5.length : Int))))] [(11, .int .i64 x9, 15)] ⟨rfl, rfl, rfl, rfl, rfl, rfl, rfl, rfl, rfl, rfl, rfl, trivial⟩ ⟨rfl, trivial⟩ (fun l_ g1 => [box b_1 24 [.one (.int .i64 x1), .one (.int .i64 x2), .one (.int .i64 x3), .one (.int .i64 x4), .one (SV.v s1)], row Ei 2 s3 l1, row Ei 2 s4 r_5]) (fun g1 => [.int .i64 x9, SV.v s2, .int .i64 x10, SV.v s4, .int .i64 x10, ep s4 x10.toNat, .int .i64 (gt r_5 x10), ep s2 (x10.toNat * 6), ep s2 (x10.toNat * 6 + (gt r_5 x10).toNat), u8v ((gt x6 x10) ((gt r_5 x10).toNat)), .int .i64 (((gt x6 x10) ((gt r_5 x10).toNat)).toNat : Int), .int .i64 (w64 (x9 * (((gt x6 x10) ((gt r_5 x10).toNat)).toNat : Int))), bp b_1 0, .int .i64 x1, .int .i64 (Int.tmod (w64 (x9 * (((gt x6 x10) ((gt r_5 x10).toNat)).toNat : Int))) x1), .int .i64 (Int.tmod (w64 (x9 * (((gt x6 x10) ((gt r_5 x10).toNat)).toNat : Int))) x1)]) [[], [], [], [], [], [3, 4], [3, 4, 5], [1, 2], [1, 2, 3, 4, 5, 6, 7], [1, 2, 3, 4, 5, 6, 7, 8], [1, 2, 3, 4, 5, 6, 7, 8, 9], [0, 1, 2, 3, 4, 5, 6, 7, 8, 9, 10], [], [12], [0, 1, 2, 3, 4, 5, 6, 7, 8, 9, 10, 11, 12, 13], [0, 1, 2, 3, 4, 5, 6, 7, 8, 9, 10, 11, 12, 13, 14]] [[some false, none, none, none, none, none, none, none, none, none, none, some false, none, none, some false, some false], [none, some false, none, none, none, none, none, some false, some false, some false, some false, some false, none, none, some false, some false], [none, none, some false, none, none, none, none, some false, some false, some false, some false, some false, none, none, some false, some false], [none, none, none, some false, none, some false, some false, none, some false, some false, some false, some false, none, none, some false, some false], [none, none, none, none, some false, some false, some false, none, some false, some false, some false, some false, none, none, some false, some false], [none, none, none, some true, some true, some false, some false, none, some false, some false, some false, some false, none, none, some false, some false], [none, none, none, some true, some true, some true, some false, none, some false, some false, some false, some false, none, none, some false, some false], [none, some true, some true, none, none, none, none, some false, some false, some false, some false, some false, none, none, some false, some false], [none, some true, some true, some true, some true, some true, some true, some true, some false, some false, some false, some false, none, none, some false, some false], [none, some true, some true, some true, some true, some true, some true, some true, some true, some false, some false, some false, none, none, some false, some false], [none, some true, some true, some true, some true, some true, some true, some true, some true, some true, some false, some false, none, none, some false, some false], [some true, some true, some true, some true, some true, some true, some true, some true, some true, some true, some true, some false, none, none, some false, some false], [none, none, none, none, none, none, none, none, none, none, none, none, some false, some false, some false, some false], [none, none, none, none, none, none, none, none, none, none, none, none, some true, some false, some false, some false], [some true, some true, some true, some true, some true, some true, some true, some true, some true, some true, some true, some true, some true, some true, some false, some false], [some true, some true, some true, some true, some true, some true, some true, some true, some true, some true, some true, some true, some true, some true, some true, some false]] (by kernel_rfl) (fun _ => rfl) rfl rfl rfl rfl rfl (fun _ _ => ⟨⟨⟨⟨⟨⟨⟨⟨⟨⟨⟨⟨⟨⟨⟨⟨trivial, rfl⟩, rfl⟩, rfl⟩, rfl⟩, rfl⟩, rfl⟩, rfl⟩, rfl⟩, rfl⟩, rfl⟩, rfl⟩, rfl⟩, rfl⟩, rfl⟩, rfl⟩, rfl⟩) 0 [0, 0, 0] (fun _ => by kernel_rfl) ?_ ?_
                · refine ⟨rfl, ?_, rfl, ?_, rfl, ?_, rfl, ?_, rfl, ?_, rfl, ?_, rfl, ?_, rfl, ?_, rfl, ?_, rfl, ?_, rfl, ?_, rfl, ?_, rfl, ?_, rfl, ?_, rfl, ?_, rfl, ?_, trivial⟩
                  · intro b1_ b2_ b3_ b4_ b5_ b6_ b7_ b8_ b9_ b10_ b12_ b13_ g1
                    refine TL.move rfl rfl (v := .int .i64 x9) rfl ?_
                    refine TL.done ?_
                    exact TC.nrm () [] ⟨rfl, trivial⟩ [0, 0, 0] (by kernel_rfl)
                  · intro b0_ b2_ b3_ b4_ b5_ b6_ b12_ b13_ g1
                    refine TL.move rfl rfl (v := SV.v s2) rfl ?_
                    refine TL.done ?_
                    exact TC.nrm () [] ⟨rfl, trivial⟩ [0, 0, 0] (by kernel_rfl)
                  · intro b0_ b1_ b3_ b4_ b5_ b6_ b12_ b13_ g1
                    refine TL.move rfl rfl (v := .int .i64 x10) rfl ?_
                    refine TL.done ?_
                    exact TC.nrm () [] ⟨rfl, trivial⟩ [0, 0, 0] (by kernel_rfl)
                  · intro b0_ b1_ b2_ b4_ b7_ b12_ b13_ g1
                    refine TL.move rfl rfl (v := SV.v s4) rfl ?_
                    refine TL.done ?_
                    exact TC.nrm () [] ⟨rfl, trivial⟩ [0, 0, 0] (by kernel_rfl)
                  · intro b0_ b1_ b2_ b3_ b7_ b12_ b13_ g1
                    refine TL.move rfl rfl (v := .int .i64 x10) rfl ?_
                    refine TL.done ?_
                    exact TC.nrm () [] ⟨rfl, trivial⟩ [0, 0, 0] (by kernel_rfl)
                  · intro b0_ b1_ b2_ b7_ b12_ b13_ g1
                    refine TL.asL [box b_1 24 [.one (.int .i64 x1), .one (.int .i64 x2), .one (.int .i64 x3), .one (.int .i64 x4), .one (SV.v s1)], row Ei 2 s3 l1, row Ei 2 s4 r_5] (by kernel_rfl) ?_
                    refine TL.ixs x10 x10.toNat (Rd.row 2 rfl) h6 Try.underlying22 Try.sizeOf2 rfl rfl rfl rfl (by omega) ?_
                    refine TL.done ?_
                    exact TC.nrm () [] ⟨rfl, trivial⟩ [0, 0, 0] (by kernel_rfl)
                  · intro b0_ b1_ b2_ b7_ b12_ b13_ g1
                    refine TL.asL [box b_1 24 [.one (.int .i64 x1), .one (.int .i64 x2), .one (.int .i64 x3), .one (.int .i64 x4), .one (SV.v s1)], row Ei 2 s3 l1, row Ei 2 s4 r_5] (by kernel_rfl) ?_
                    refine TL.loadE (Rd.row 2 rfl) Try.isAgg2 x10.toNat 0 (gt_spec h6) (v := .int .i64 (gt r_5 x10)) rfl (by simp only [show Ei.sz = 1 from rfl] <;> omega) rfl rfl rfl ?_
                    refine TL.done ?_
                    exact TC.nrm () [] ⟨rfl, trivial⟩ [0, 0, 0] (by kernel_rfl)
                  · intro b0_ b3_ b4_ b5_ b6_ b12_ b13_ g1
                    refine TL.asL [box b_1 24 [.one (.int .i64 x1), .one (.int .i64 x2), .one (.int .i64 x3), .one (.int .i64 x4), .one (SV.v s1)], row Ei 2 s3 l1, row Ei 2 s4 r_5] (by kernel_rfl) ?_
                    refine TL.ixs x10 (x10.toNat * 6) (Rd.old h2) h7 Try.underlying45 Try.sizeOf58 rfl rfl rfl rfl (by omega) ?_
                    refine TL.done ?_
                    exact TC.nrm () [] ⟨rfl, trivial⟩ [0, 0, 0] (by kernel_rfl)
                  · intro b0_ b12_ b13_ g1
                    refine TL.asL [box b_1 24 [.one (.int .i64 x1), .one (.int .i64 x2), .one (.int .i64 x3), .one (.int .i64 x4), .one (SV.v s1)], row Ei 2 s3 l1, row Ei 2 s4 r_5] (by kernel_rfl) ?_
                    refine TL.ixe (gt r_5 x10) (x10.toNat * 6 + (gt r_5 x10).toNat) (Rd.old h2) (by have h_ := h7; omega) h8 Try.underlying58 Try.sizeOf5 rfl rfl rfl rfl (by omega) ?_
                    refine TL.done ?_
                    exact TC.nrm () [] ⟨rfl, trivial⟩ [0, 0, 0] (by kernel_rfl)
                  · intro b0_ b12_ b13_ g1
                    refine TL.asL [box b_1 24 [.one (.int .i64 x1), .one (.int .i64 x2), .one (.int .i64 x3), .one (.int .i64 x4), .one (SV.v s1)], row Ei 2 s3 l1, row Ei 2 s4 r_5] (by kernel_rfl) ?_
                    refine TL.loadE (Rd.old h2) Try.isAgg5 x10.toNat ((gt r_5 x10).toNat) (gt_spec h7) (v := u8v ((gt x6 x10) ((gt r_5 x10).toNat))) (Evec_at _ (by have h_ := h8; omega)) (by simp only [show (Evec 6).sz = 6 from rfl] <;> omega) rfl rfl rfl ?_
                    refine TL.done ?_
                    exact TC.nrm () [] ⟨rfl, trivial⟩ [0, 0, 0] (by kernel_rfl)
                  · intro b0_ b12_ b13_ g1
                    refine TL.conv .u8 .i64 (((gt x6 x10) ((gt r_5 x10).toNat)).toNat : Int) _ rfl rfl rfl Try.underlying5 Try.underlying2 (v := .int .i64 (((gt x6 x10) ((gt r_5 x10).toNat)).toNat : Int)) (conv_u8_i64 _) ?_
                    refine TL.done ?_
                    exact TC.nrm () [] ⟨rfl, trivial⟩ [0, 0, 0] (by kernel_rfl)
                  · intro b12_ b13_ g1
                    refine TL.bin .i64 x9 (((gt x6 x10) ((gt r_5 x10).toNat)).toNat : Int) rfl rfl rfl rfl (v := .int .i64 (w64 (x9 * (((gt x6 x10) ((gt r_5 x10).toNat)).toNat : Int)))) rfl ?_
                    refine TL.done ?_
                    exact TC.nrm () [] ⟨rfl, trivial⟩ [0, 0, 0] (by kernel_rfl)
                  · intro b0_ b1_ b2_ b3_ b4_ b5_ b6_ b7_ b8_ b9_ b10_ b11_ g1
                    refine TL.asL [box b_1 24 [.one (.int .i64 x1), .one (.int .i64 x2), .one (.int .i64 x3), .one (.int .i64 x4), .one (SV.v s1)], row Ei 2 s3 l1, row Ei 2 s4 r_5] (by kernel_rfl) ?_
                    refine TL.fa Try.underlying24 rfl Try.sizeOf2 rfl 0 rfl rfl rfl rfl ?_
                    refine TL.done ?_
                    exact TC.nrm () [] ⟨rfl, trivial⟩ [0, 0, 0] (by kernel_rfl)
                  · intro b0_ b1_ b2_ b3_ b4_ b5_ b6_ b7_ b8_ b9_ b10_ b11_ g1
                    refine TL.asL [box b_1 24 [.one (.int .i64 x1), .one (.int .i64 x2), .one (.int .i64 x3), .one (.int .i64 x4), .one (SV.v s1)], row Ei 2 s3 l1, row Ei 2 s4 r_5] (by kernel_rfl) ?_
                    refine TL.load1 0 (Src.box 0 rfl) Try.isAgg2 rfl rfl rfl rfl rfl ?_
                    refine TL.done ?_
                    exact TC.nrm () [] ⟨rfl, trivial⟩ [0, 0, 0] (by kernel_rfl)
                  · intro g1
                    refine TL.rem .i64 (w64 (x9 * (((gt x6 x10) ((gt r_5 x10).toNat)).toNat : Int))) x1 z1 rfl rfl rfl rfl ?_
                    refine TL.done ?_
                    exact TC.nrm () [] ⟨rfl, trivial⟩ [0, 0, 0] (by kernel_rfl)
                  · intro g1
                    refine TL.assign rfl rfl (v := .int .i64 (Int.tmod (w64 (x9 * (((gt x6 x10) ((gt r_5 x10).toNat)).toNat : Int))) x1)) rfl ?_
                    refine TL.done ?_
                    exact TC.nrm () [] ⟨rfl, trivial⟩ [0, 0, 0] (by kernel_rfl)
                · intro g1
                  refine TC.asL [box b_1 24 [.one (.int .i64 x1), .one (.int .i64 x2), .one (.int .i64 x3), .one (.int .i64 x4), .one (SV.v s1)], row Ei 2 s3 l1, row Ei 2 s4 r_5] (by kernel_rfl) ?_
                  refine TC.region ?_
                  refine TL.move rfl rfl (v := .int .i64 x10) rfl ?_
                  refine TL.bin .i64 x10 1 rfl rfl rfl rfl (v := .int .i64 (w64 (x10 + 1))) rfl ?_
                  refine TL.assign rfl rfl (v := .int .i64 (w64 (x10 + 1))) rfl ?_
                  refine TL.done ?_
                  exact TC.next1 (((Int.tmod (w64 (x9 * (((gt x6 x10) ((gt r_5 x10).toNat)).toNat : Int))) x1), (w64 (x10 + 1)))) (()) ⟨rfl, rfl, rfl, rfl, rfl, rfl, rfl, rfl, trivial⟩ [0, 0, 0] rfl
              · exact TC.brk1 ((x9, x10)) (()) ⟨rfl, rfl, rfl, rfl, rfl, rfl, rfl, rfl, trivial⟩ [0, 0, 0] rfl
            · rintro ⟨x9, x10⟩ _
              refine TC.seq ?_
              refine TC.region ?_
              refine TL.assign rfl rfl (v := .int .i64 0) rfl ?_
              refine TL.done ?_
              refine TC.loop1 (σ := (List Int) × Int) (γ := Unit) (Γ' := (fun p q => match p, q with | (l2, x11), _ => [(1, SV.v s2), (2, bp b_1 0), (7, .int .i64 r_3), (8, SV.v s3), (9, .int .i64 x8), (11, .int .i64 x9), (13, .int .i64 x11)])) (L' := (fun p q => match p, q with | (l2, x11), _ => [box b_1 24 [.one (.int .i64 x1), .one (.int .i64 x2), .one (.int .i64 x3), .one (.int .i64 x4), .one (SV.v s1)], row Ei 2 s3 l2])) (Γb := (fun p q => match p, q with | (l2, x11), _ => [(1, SV.v s2), (2, bp b_1 0), (7, .int .i64 r_3), (8, SV.v s3), (9, .int .i64 x8), (11, .int .i64 x9), (13, .int .i64 x11)])) (Lb := (fun p q => match p, q with | (l2, x11), _ => [box b_1 24 [.one (.int .i64 x1), .one (.int .i64 x2), .one (.int .i64 x3), .one (.int .i64 x4), .one (SV.v s1)], row Ei 2 s3 l2])) ((l1, 0)) (()) ⟨rfl, rfl, rfl, rfl, rfl, rfl, rfl, trivial⟩ [0, 0] rfl ?_ ?_
              · rintro ⟨l2, x11⟩ _
                refine TC.seq ?_
                refine TC.seq ?_
                refine TC.region ?_
                refine TL.move rfl rfl (v := .int .i64 x11) rfl ?_
                refine TL.move rfl rfl (v := .int .i64 r_3) rfl ?_
                refine TL.bin .i64 x11 r_3 rfl rfl rfl rfl (v := .bool (decide (x11 < r_3))) rfl ?_
                refine TL.move rfl rfl (v := .bool (decide (x11 < r_3))) rfl ?_
                refine TL.cutU 3 [(87, .bool ((decide (x11 < r_3)) && (x9 != 0))), (1, SV.v s2), (2, bp b_1 0), (7, .int .i64 r_3), (8, SV.v s3), (9, .int .i64 x8), (11, .int .i64 x9), (13, .int .i64 x11), (81, .int .i64 x11), (82, .int .i64 r_3), (83, .bool (decide (x11 < r_3))), (84, .bool (decide (x11 < r_3)))] [box b_1 24 [.one (.int .i64 x1), .one (.int .i64 x2), .one (.int .i64 x3), .one (.int .i64 x4), .one (SV.v s1)], row Ei 2 s3 l2] ?_ ?_
                · refine TL.cases (t := 84) (b := (decide (x11 < r_3))) rfl (fun c13 => ?_) (fun c14 => ?_)
                  · refine TL.move rfl rfl (v := .int .i64 x9) rfl ?_
                    refine TL.bin .i64 x9 0 rfl rfl rfl rfl (v := .bool (x9 != 0)) rfl ?_
                    refine TL.pick rfl rfl (b := true) rfl (r := .bool (x9 != 0)) rfl ?_
                    refine TL.done ?_
                    exact TC.nrm () () ⟨(by rw [c13]; rfl), rfl, rfl, rfl, rfl, rfl, rfl, rfl, rfl, rfl, rfl, (by rw [c13]; rfl), trivial⟩ [0, 0] (by kernel_rfl)
                  · refine TL.skip rfl rfl (by decide) ?_
                    refine TL.skip rfl rfl (by decide) ?_
                    refine TL.pick rfl rfl (b := false) rfl (r := .bool false) rfl ?_
                    refine TL.done ?_
                    exact TC.nrm () () ⟨(by rw [c14]; rfl), rfl, rfl, rfl, rfl, rfl, rfl, rfl, rfl, rfl, rfl, (by rw [c14]; rfl), trivial⟩ [0, 0] (by kernel_rfl)
                · refine TL.done ?_
                  refine TC.cond (b := ((decide (x11 < r_3)) && (x9 != 0))) rfl (fun c15 => ?_) (fun c16 => ?_)
                  · refine TC.skip ?_
                    refine TC.seq ?_
                    refine TC.block (NoEx.loop1 rfl) ?_
                    refine TC.wk (Γ' := [(1, SV.v s2), (2, bp b_1 0), (7, .int .i64 r_3), (8, SV.v s3), (9, .int .i64 x8), (11, .int .i64 x9), (13, .int .i64 x11), (81, .int .i64 x11), (82, .int .i64 r_3), (83, .bool (decide (x11 < r_3))), (84, .bool (decide (x11 < r_3))), (87, .bool ((decide (x11 < r_3)) && (x9 != 0)))]) ⟨rfl, rfl, rfl, rfl, rfl, rfl, rfl, rfl, rfl, rfl, rfl, rfl, trivial⟩ ?_
                    refine TC.chk fun h9 => ?_
                    refine TC.chk fun h10 => ?_
                    refine TC.nz fun z2 => ?_
                    refine TC.draw [SV.v s3, .int .i64 x11, SV.v s3, .int .i64 x11, ep s3 x11.toNat, .int .i64 (gt l2 x11), .int .i64 x9, bp b_1 4, SV.v s1, .int .i64 x8, .int .i64 r_3, .int .i64 (w64 (x8 * r_3)), .int .i64 x11, .int .i64 (w64 ((w64 (x8 * r_3)) + x11)), ep s1 ((w64 ((w64 (x8 * r_3)) + x11)).toNat), .int .i64 (gt x5 (w64 ((w64 (x8 * r_3)) + x11))), .int .i64 (w64 (x9 * (gt x5 (w64 ((w64 (x8 * r_3)) + x11))))), .int .i64 (w64 ((gt l2 x11) + (w64 (x9 * (gt x5 (w64 ((w64 (x8 * r_3)) + x11))))))), bp b_1 0, .int .i64 x1, .int .i64 (Int.tmod (w64 ((gt l2 x11) + (w64 (x9 * (gt x5 (w64 ((w64 (x8 * r_3)) + x11))))))) x1), ep s3 x11.toNat, undef] 22 [box b_1 24 [.one (.int .i64 x1), .one (.int .i64 x2), .one (.int .i64 x3), .one (.int .i64 x4), .one (SV.v s1)], row Ei 2 s3 (l2.set x11.toNat (Int.tmod (w64 ((gt l2 x11) + (w64 (x9 * (gt x5 (w64 ((w64 (x8 * r_3)) + x11))))))) x1))] (by kernel_rfl) rfl rfl rfl rfl ?_ ?_
                    · refine ⟨?_, ?_, ?_, ?_, ?_, ?_, ?_, ?_, ?_, ?_, ?_, ?_, ?_, ?_, ?_, ?_, ?_, ?_, ?_, ?_, ?_, ?_, ?_, trivial⟩
                      · refine TL.move rfl rfl (v := SV.v s3) rfl ?_
                        refine TL.done ?_
                        exact TC.nrm () () ⟨rfl, trivial⟩ [0, 0] (by kernel_rfl)
                      · refine TL.move rfl rfl (v := .int .i64 x11) rfl ?_
                        refine TL.done ?_
                        exact TC.nrm () () ⟨rfl, trivial⟩ [0, 0] (by kernel_rfl)
                      · refine TL.move rfl rfl (v := SV.v s3) rfl ?_
                        refine TL.done ?_
                        exact TC.nrm () () ⟨rfl, trivial⟩ [0, 0] (by kernel_rfl)
                      · refine TL.move rfl rfl (v := .int .i64 x11) rfl ?_
                        refine TL.done ?_
                        exact TC.nrm () () ⟨rfl, trivial⟩ [0, 0] (by kernel_rfl)
                      · refine TL.ixs x11 x11.toNat (Rd.row 1 rfl) h9 Try.underlying22 Try.sizeOf2 rfl rfl rfl rfl (by omega) ?_
                        refine TL.done ?_
                        exact TC.nrm () () ⟨rfl, trivial⟩ [0, 0] (by kernel_rfl)
                      · refine TL.loadE (Rd.row 1 rfl) Try.isAgg2 x11.toNat 0 (gt_spec h9) (v := .int .i64 (gt l2 x11)) rfl (by simp only [show Ei.sz = 1 from rfl] <;> omega) rfl rfl rfl ?_
                        refine TL.done ?_
                        exact TC.nrm () () ⟨rfl, trivial⟩ [0, 0] (by kernel_rfl)
                      · refine TL.move rfl rfl (v := .int .i64 x9) rfl ?_
                        refine TL.done ?_
                        exact TC.nrm () () ⟨rfl, trivial⟩ [0, 0] (by kernel_rfl)
                      · refine TL.fa Try.underlying24 rfl Try.sizeOf22 rfl 4 rfl rfl rfl rfl ?_
                        refine TL.done ?_
                        exact TC.nrm () () ⟨rfl, trivial⟩ [0, 0] (by kernel_rfl)
                      · refine TL.load1 4 (Src.box 0 rfl) Try.isAgg22 rfl rfl rfl rfl rfl ?_
                        refine TL.done ?_
                        exact TC.nrm () () ⟨rfl, trivial⟩ [0, 0] (by kernel_rfl)
                      · refine TL.move rfl rfl (v := .int .i64 x8) rfl ?_
                        refine TL.done ?_
                        exact TC.nrm () () ⟨rfl, trivial⟩ [0, 0] (by kernel_rfl)
                      · refine TL.move rfl rfl (v := .int .i64 r_3) rfl ?_
                        refine TL.done ?_
                        exact TC.nrm () () ⟨rfl, trivial⟩ [0, 0] (by kernel_rfl)
                      · refine TL.bin .i64 x8 r_3 rfl rfl rfl rfl (v := .int .i64 (w64 (x8 * r_3))) rfl ?_
                        refine TL.done ?_
                        exact TC.nrm () () ⟨rfl, trivial⟩ [0, 0] (by kernel_rfl)
                      · refine TL.move rfl rfl (v := .int .i64 x11) rfl ?_
                        refine TL.done ?_
                        exact TC.nrm () () ⟨rfl, trivial⟩ [0, 0] (by kernel_rfl)
                      · refine TL.bin .i64 (w64 (x8 * r_3)) x11 rfl rfl rfl rfl (v := .int .i64 (w64 ((w64 (x8 * r_3)) + x11))) rfl ?_
                        refine TL.done ?_
                        exact TC.nrm () () ⟨rfl, trivial⟩ [0, 0] (by kernel_rfl)
                      · refine TL.ixs (w64 ((w64 (x8 * r_3)) + x11)) ((w64 ((w64 (x8 * r_3)) + x11)).toNat) (Rd.old h1) h10 Try.underlying22 Try.sizeOf2 rfl rfl rfl rfl (by omega) ?_
                        refine TL.done ?_
                        exact TC.nrm () () ⟨rfl, trivial⟩ [0, 0] (by kernel_rfl)
                      · refine TL.loadE (Rd.old h1) Try.isAgg2 (w64 ((w64 (x8 * r_3)) + x11)).toNat 0 (gt_spec h10) (v := .int .i64 (gt x5 (w64 ((w64 (x8 * r_3)) + x11)))) rfl (by simp only [show Ei.sz = 1 from rfl] <;> omega) rfl rfl rfl ?_
                        refine TL.done ?_
                        exact TC.nrm () () ⟨rfl, trivial⟩ [0, 0] (by kernel_rfl)
                      · refine TL.bin .i64 x9 (gt x5 (w64 ((w64 (x8 * r_3)) + x11))) rfl rfl rfl rfl (v := .int .i64 (w64 (x9 * (gt x5 (w64 ((w64 (x8 * r_3)) + x11)))))) rfl ?_
                        refine TL.done ?_
                        exact TC.nrm () () ⟨rfl, trivial⟩ [0, 0] (by kernel_rfl)
                      · refine TL.bin .i64 (gt l2 x11) (w64 (x9 * (gt x5 (w64 ((w64 (x8 * r_3)) + x11))))) rfl rfl rfl rfl (v := .int .i64 (w64 ((gt l2 x11) + (w64 (x9 * (gt x5 (w64 ((w64 (x8 * r_3)) + x11)))))))) rfl ?_
                        refine TL.done ?_
                        exact TC.nrm () () ⟨rfl, trivial⟩ [0, 0] (by kernel_rfl)
                      · refine TL.fa Try.underlying24 rfl Try.sizeOf2 rfl 0 rfl rfl rfl rfl ?_
                        refine TL.done ?_
                        exact TC.nrm () () ⟨rfl, trivial⟩ [0, 0] (by kernel_rfl)
                      · refine TL.load1 0 (Src.box 0 rfl) Try.isAgg2 rfl rfl rfl rfl rfl ?_
                        refine TL.done ?_
                        exact TC.nrm () () ⟨rfl, trivial⟩ [0, 0] (by kernel_rfl)
                      · refine TL.rem .i64 (w64 ((gt l2 x11) + (w64 (x9 * (gt x5 (w64 ((w64 (x8 * r_3)) + x11))))))) x1 z2 rfl rfl rfl rfl ?_
                        refine TL.done ?_
                        exact TC.nrm () () ⟨rfl, trivial⟩ [0, 0] (by kernel_rfl)
                      · refine TL.ixs x11 x11.toNat (Rd.row 1 rfl) h9 Try.underlying22 Try.sizeOf2 rfl rfl rfl rfl (by omega) ?_
                        refine TL.done ?_
                        exact TC.nrm () () ⟨rfl, trivial⟩ [0, 0] (by kernel_rfl)
                      · refine TL.stE 1 (x11.toNat) (Int.tmod (w64 ((gt l2 x11) + (w64 (x9 * (gt x5 (w64 ((w64 (x8 * r_3)) + x11))))))) x1) (v := .int .i64 (Int.tmod (w64 ((gt l2 x11) + (w64 (x9 * (gt x5 (w64 ((w64 (x8 * r_3)) + x11))))))) x1)) rfl Try.sizeOf2 rfl rfl rfl (by have h_ := h9; omega) (by simp only [show Ei.sz = 1 from rfl] <;> omega) rfl rfl rfl ?_
                        refine TL.done ?_
                        exact TC.nrm () () trivial [0, 0] (by kernel_rfl)
                    · refine TC.region ?_
                      refine TL.move rfl rfl (v := .int .i64 x11) rfl ?_
                      refine TL.bin .i64 x11 1 rfl rfl rfl rfl (v := .int .i64 (w64 (x11 + 1))) rfl ?_
                      refine TL.assign rfl rfl (v := .int .i64 (w64 (x11 + 1))) rfl ?_
                      refine TL.done ?_
                      exact TC.next1 (((l2.set x11.toNat (Int.tmod (w64 ((gt l2 x11) + (w64 (x9 * (gt x5 (w64 ((w64 (x8 * r_3)) + x11))))))) x1)), (w64 (x11 + 1)))) (()) ⟨rfl, rfl, rfl, rfl, rfl, rfl, rfl, trivial⟩ [0, 0] rfl
                  · exact TC.brk1 ((l2, x11)) (()) ⟨rfl, rfl, rfl, rfl, rfl, rfl, rfl, trivial⟩ [0, 0] rfl
              · rintro ⟨l2, x11⟩ _
                refine TC.region ?_
                refine TL.move rfl rfl (v := .int .i64 x8) rfl ?_
                refine TL.bin .i64 x8 1 rfl rfl rfl rfl (v := .int .i64 (w64 (x8 + 1))) rfl ?_
                refine TL.assign rfl rfl (v := .int .i64 (w64 (x8 + 1))) rfl ?_
                refine TL.done ?_
                exact TC.next1 ((l2, (w64 (x8 + 1)))) (()) ⟨rfl, rfl, rfl, rfl, rfl, trivial⟩ [0, 0] rfl
          · exact TC.brk1 ((l1, x8)) (()) ⟨rfl, rfl, rfl, rfl, rfl, trivial⟩ [0, 0] rfl
        · rintro ⟨l1, x8⟩ _
          refine TC.seq ?_
          refine TC.region ?_
          refine TL.move rfl rfl (v := SV.v s3) rfl ?_
          refine TL.assign rfl rfl (v := SV.v s3) rfl ?_
          refine TL.assign rfl rfl (v := .int .i64 0) rfl ?_
          refine TL.done ?_
          exact TC.retF (Fin.body (fin2 (.inr rfl) rfl (.tmp rfl) (.tmp rfl) [1] rfl ⟨s3, rfl, rfl⟩))

end Go.Proofs.Ytjjfoofjipafiaa.G

/- laws.toVector, as a pure function. -/
set_option linter.unusedVariables false
namespace Go.Proofs.Ytjjfoofjipafiaa.G
open Go Go.Sx Go.Proofs

def laws_toVector.b0 (a_1 : Nat → UInt8) : (Nat → UInt8) × Int → Option (LB ((Nat → UInt8) × Int)) := fun p => match p with | (out1, i1) => (bif (decide (i1 < 6)) then chk i1 6 (some (.next ((upd out1 i1.toNat (a_1 i1.toNat)), (w64 (i1 + 1))))) else some (.brk (out1, i1)))

def laws_toVector.f (a_1 : Nat → UInt8) : Option (Nat → UInt8) := (loop1 (laws_toVector.b0 a_1) ((fun _ => (0 : UInt8)), 0)).bind (fun p => match p with | (out1, i1) => some out1)

def laws_toVector.R (r : Nat → UInt8) (v : Value) (L : List Asn) : Prop := v = sval [.arr 6 (enf u8v r)] ∧ L = []

set_option maxRecDepth 100000 in
set_option maxHeartbeats 4000000 in
theorem laws_toVector.calls (w : World) (a_1 : Nat → UInt8) :
    ∀ r, laws_toVector.f a_1 = some r → Calls Try.prog 72 #[sval [.arr 6 (enf u8v a_1)]] w (Ret w (laws_toVector.R r)) := by

  refine calls_T (n := 15) (Γ := [(0, sval [.arr 6 (enf u8v a_1)])]) (R := laws_toVector.R) Try.func72 rfl rfl (Nat.le_of_ble_eq_true rfl) ⟨rfl, trivial⟩ ?_
  unfold laws_toVector.f
  refine TC.seq ?_
  refine TC.region ?_
  refine TL.box [.arr 6 (enf u8v a_1)] rfl rfl rfl rfl fun b_1 => ?_
  refine TL.alloc [.arr 6 (enf u8v (fun _ => (0 : UInt8)))] rfl rfl Try.zeroValue58 rfl fun b_2 => ?_
  refine TL.done ?_
  refine TC.seq ?_
  refine TC.region ?_
  refine TL.alloc [.arr 6 (enf u8v (fun _ => (0 : UInt8)))] rfl rfl Try.zeroValue58 rfl fun b_3 => ?_
  refine TL.done ?_
  refine TC.seq ?_
  refine TC.seq ?_
  refine TC.region ?_
  refine TL.assign rfl rfl (v := .int .i64 0) rfl ?_
  refine TL.done ?_
  refine TC.loop1 (σ := (Nat → UInt8) × Int) (γ := Unit) (Γ' := (fun p q => match p, q with | (out1, i1), _ => [(1, bp b_1 0), (2, bp b_2 0), (3, bp b_3 0), (4, .int .i64 i1)])) (L' := (fun p q => match p, q with | (out1, i1), _ => [box b_1 55 [.arr 6 (enf u8v a_1)], box b_2 58 [.arr 6 (enf u8v (fun _ => (0 : UInt8)))], box b_3 58 [.arr 6 (enf u8v out1)]])) (Γb := (fun p q => match p, q with | (out1, i1), _ => [(1, bp b_1 0), (2, bp b_2 0), (3, bp b_3 0), (4, .int .i64 i1)])) (Lb := (fun p q => match p, q with | (out1, i1), _ => [box b_1 55 [.arr 6 (enf u8v a_1)], box b_2 58 [.arr 6 (enf u8v (fun _ => (0 : UInt8)))], box b_3 58 [.arr 6 (enf u8v out1)]])) (((fun _ => (0 : UInt8)), 0)) (()) ⟨rfl, rfl, rfl, rfl, trivial⟩ [2, 1, 0] rfl ?_ ?_
  · rintro ⟨out1, i1⟩ _
    refine TC.seq ?_
    refine TC.seq ?_
    refine TC.region ?_
    refine TL.move rfl rfl (v := .int .i64 i1) rfl ?_
    refine TL.bin .i64 i1 6 rfl rfl rfl rfl (v := .bool (decide (i1 < 6))) rfl ?_
    refine TL.done ?_
    refine TC.cond (b := (decide (i1 < 6))) rfl (fun c1 => ?_) (fun c2 => ?_)
    · refine TC.skip ?_
      refine TC.seq ?_
      refine TC.block (NoEx.loop1 rfl) ?_
      refine TC.region ?_
      refine TL.move rfl rfl (v := .int .i64 i1) rfl ?_
      refine TL.move rfl rfl (v := .int .i64 i1) rfl ?_
      refine TL.chk fun h1 => ?_
      refine TL.ixa i1 i1.toNat h1 Try.underlying55 Try.sizeOf5 rfl rfl rfl rfl (by omega) ?_
      refine TL.loadA i1.toNat 0 (Src.box 0 rfl) Try.isAgg5 rfl (by omega) (v := u8v (a_1 i1.toNat)) rfl (st := 0) rfl (by omega) rfl rfl rfl ?_
      refine TL.ixa i1 i1.toNat h1 Try.underlying58 Try.sizeOf5 rfl rfl rfl rfl (by omega) ?_
      refine TL.stA (e := u8v) (z := (a_1 i1.toNat)) 2 0 i1.toNat rfl Try.sizeOf5 rfl (by omega) (s := 0) rfl (by omega) rfl rfl rfl rfl rfl ?_
      refine TL.done ?_
      refine TC.region ?_
      refine TL.move rfl rfl (v := .int .i64 i1) rfl ?_
      refine TL.bin .i64 i1 1 rfl rfl rfl rfl (v := .int .i64 (w64 (i1 + 1))) rfl ?_
      refine TL.assign rfl rfl (v := .int .i64 (w64 (i1 + 1))) rfl ?_
      refine TL.done ?_
      exact TC.next1 (((upd out1 i1.toNat (a_1 i1.toNat)), (w64 (i1 + 1)))) (()) ⟨rfl, rfl, rfl, rfl, trivial⟩ [0, 0, 0] rfl
    · exact TC.brk1 ((out1, i1)) (()) ⟨rfl, rfl, rfl, rfl, trivial⟩ [0, 0, 0] rfl
  · rintro ⟨out1, i1⟩ _
    refine TC.seq ?_
    refine TC.region ?_
    refine TL.loadM 0 1 (Src.box 2 rfl) Try.isAgg58 Try.sizeOf58 (mid := [.arr 6 (enf u8v out1)]) rfl rfl rfl rfl rfl rfl ?_
    refine TL.stM (news := [.arr 6 (enf u8v out1)]) 1 0 1 rfl Try.sizeOf58 (ones_arr (fun _ => rfl) ones_nil) rfl rfl rfl rfl rfl rfl ?_
    refine TL.done ?_
    exact TC.retF (Fin.body (fin1 (.inr rfl) rfl (.cellN rfl (Src.box 1 rfl) Try.isAgg58 Try.sizeOf58 rfl) [] rfl ⟨rfl, rfl⟩))

end Go.Proofs.Ytjjfoofjipafiaa.G

/- laws.toVectorS, as a pure function. -/
set_option linter.unusedVariables false
namespace Go.Proofs.Ytjjfoofjipafiaa.G
open Go Go.Sx Go.Proofs

def laws_toVectorS.b0 (a_1 : List (Nat → UInt8)) : (List (Nat → UInt8)) × Int → Option (LB ((List (Nat → UInt8)) × Int)) := fun p => match p with | (out1, i1) => (bif (decide (i1 < (a_1.length : Int))) then chk i1 a_1.length ((G.laws_toVector.f (gt a_1 i1)).bind (fun r_1 => chk i1 out1.length (some (.next ((out1.set i1.toNat r_1), (w64 (i1 + 1))))))) else some (.brk (out1, i1)))

def laws_toVectorS.f (a_1 : List (Nat → UInt8)) : Option (List (Nat → UInt8)) := small a_1.length ((loop1 (laws_toVectorS.b0 a_1) ((List.replicate (a_1.length : Int).toNat ((fun _ => (0 : UInt8)) : Nat → UInt8)), 0)).bind (fun p => match p with | (out1, i1) => some out1))

def laws_toVectorS.R (r : List (Nat → UInt8)) (v : Value) (L : List Asn) : Prop := ∃ (s0 : SV), v = SV.v s0 ∧ L = [row (Evec 6) 58 s0 r]

set_option maxRecDepth 100000 in
set_option maxHeartbeats 4000000 in
theorem laws_toVectorS.calls (w : World) (s1 : SV) (a_1 : List (Nat → UInt8)) (h1 : Reads (Evec 6) (hp w) s1 a_1) :
    ∀ r, laws_toVectorS.f a_1 = some r → Calls Try.prog 31 #[SV.v s1] w (Ret w (laws_toVectorS.R r)) := by

  refine calls_T (n := 23) (Γ := [(0, SV.v s1)]) (R := laws_toVectorS.R) Try.func31 rfl rfl (Nat.le_of_ble_eq_true rfl) ⟨rfl, trivial⟩ ?_
  unfold laws_toVectorS.f
  refine TC.seq ?_
  refine TC.region ?_
  refine TL.assign rfl rfl (v := SV.v ⟨none, 0, 0⟩) rfl ?_
  refine TL.done ?_
  refine TC.seq ?_
  refine TC.region ?_
  refine TL.move rfl rfl (v := SV.v s1) rfl ?_
  refine TL.len (Rd.old h1) Try.underlying41 rfl rfl rfl ?_
  refine TL.small fun h2 => ?_
  refine TL.mkslice (Evec 6) ((fun _ => (0 : UInt8)) : Nat → UInt8) (a_1.length : Int) Try.underlying45 (info_of Try.type58) (zv := (Try.t58.zero.getD (.bool false))) rfl rfl rfl (by simp [Evec, flat, Seg.cells]) (by decide) (by omega) (by omega) rfl rfl rfl rfl fun s2 => ?_
  refine TL.assign rfl rfl (v := SV.v s2) rfl ?_
  refine TL.done ?_
  refine TC.seq ?_
  refine TC.seq ?_
  refine TC.region ?_
  refine TL.assign rfl rfl (v := .int .i64 0) rfl ?_
  refine TL.done ?_
  refine TC.loop1 (σ := (List (Nat → UInt8)) × Int) (γ := Unit) (Γ' := (fun p q => match p, q with | (out1, i1), _ => [(0, SV.v s1), (3, SV.v s2), (4, .int .i64 i1)])) (L' := (fun p q => match p, q with | (out1, i1), _ => [row (Evec 6) 58 s2 out1])) (Γb := (fun p q => match p, q with | (out1, i1), _ => [(0, SV.v s1), (3, SV.v s2), (4, .int .i64 i1)])) (Lb := (fun p q => match p, q with | (out1, i1), _ => [row (Evec 6) 58 s2 out1])) (((List.replicate (a_1.length : Int).toNat ((fun _ => (0 : UInt8)) : Nat → UInt8)), 0)) (()) ⟨rfl, rfl, rfl, trivial⟩ [0] rfl ?_ ?_
  · rintro ⟨out1, i1⟩ _
    refine TC.seq ?_
    refine TC.seq ?_
    refine TC.region ?_
    refine TL.move rfl rfl (v := .int .i64 i1) rfl ?_
    refine TL.move rfl rfl (v := SV.v s1) rfl ?_
    refine TL.len (Rd.old h1) Try.underlying41 rfl rfl rfl ?_
    refine TL.bin .i64 i1 (a_1.length : Int) rfl rfl rfl rfl (v := .bool (decide (i1 < (a_1.length : Int)))) rfl ?_
    refine TL.done ?_
    refine TC.cond (b := (decide (i1 < (a_1.length : Int)))) rfl (fun c1 => ?_) (fun c2 => ?_)
    · refine TC.skip ?_
      refine TC.seq ?_
      refine TC.block (NoEx.loop1 rfl) ?_
      refine TC.region ?_
      refine TL.move rfl rfl (v := SV.v s2) rfl ?_
      refine TL.move rfl rfl (v := .int .i64 i1) rfl ?_
      refine TL.move rfl rfl (v := SV.v s1) rfl ?_
      refine TL.move rfl rfl (v := .int .i64 i1) rfl ?_
      refine TL.chk fun h4 => ?_
      refine TL.ixs i1 (i1.toNat * 6) (Rd.old h1) h4 Try.underlying41 Try.sizeOf55 rfl rfl rfl rfl (by omega) ?_
      refine TL.loadEA (Rd.old h1) Try.isAgg55 Try.sizeOf55 i1.toNat (gt_spec h4) (v := sval [.arr 6 (enf u8v (gt a_1 i1))]) rfl (by simp only [show (Evec 6).sz = 6 from rfl] <;> omega) rfl rfl rfl ?_
      refine TL.call (R := G.laws_toVector.R) Try.call72 rfl rfl rfl (fun w hS => G.laws_toVector.calls w (gt a_1 i1)) ?_
      rintro r_1 _ _ ⟨rfl, rfl⟩
      refine TL.chk fun h5 => ?_
      refine TL.ixs i1 (i1.toNat * 6) (Rd.row 0 rfl) h5 Try.underlying45 Try.sizeOf58 rfl rfl rfl rfl (by omega) ?_
      refine TL.stEA 0 (i1.toNat) r_1 rfl Try.sizeOf58 rfl (by have h_ := h5; omega) (by simp only [show (Evec 6).sz = 6 from rfl] <;> omega) rfl rfl rfl ?_
      refine TL.done ?_
      refine TC.region ?_
      refine TL.move rfl rfl (v := .int .i64 i1) rfl ?_
      refine TL.bin .i64 i1 1 rfl rfl rfl rfl (v := .int .i64 (w64 (i1 + 1))) rfl ?_
      refine TL.assign rfl rfl (v := .int .i64 (w64 (i1 + 1))) rfl ?_
      refine TL.done ?_
      exact TC.next1 (((out1.set i1.toNat r_1), (w64 (i1 + 1)))) (()) ⟨rfl, rfl, rfl, trivial⟩ [0] rfl
    · exact TC.brk1 ((out1, i1)) (()) ⟨rfl, rfl, rfl, trivial⟩ [0] rfl
  · rintro ⟨out1, i1⟩ _
    refine TC.seq ?_
    refine TC.region ?_
    refine TL.move rfl rfl (v := SV.v s2) rfl ?_
    refine TL.assign rfl rfl (v := SV.v s2) rfl ?_
    refine TL.done ?_
    exact TC.retF (Fin.body (fin1 (.inr rfl) rfl (.tmp rfl) [0] rfl ⟨s2, rfl, rfl⟩))

end Go.Proofs.Ytjjfoofjipafiaa.G

/- impl.in, as a pure function. -/
set_option linter.unusedVariables false
namespace Go.Proofs.Ytjjfoofjipafiaa.G
open Go Go.Sx Go.Proofs

def impl_in.f (n_1 : Int) (low1 : Int) (high1 : Int) : Option Bool := some ((decide (n_1 ≥ low1)) && (decide (n_1 ≤ high1)))

def impl_in.R (r : Bool) (v : Value) (L : List Asn) : Prop := v = .bool r ∧ L = []

set_option maxRecDepth 100000 in
set_option maxHeartbeats 4000000 in
theorem impl_in.calls (w : World) (n_1 : Int) (low1 : Int) (high1 : Int) :
    ∀ r, impl_in.f n_1 low1 high1 = some r → Calls Try.prog 62 #[.int .i64 n_1, .int .i64 low1, .int .i64 high1] w (Ret w (impl_in.R r)) := by

  refine calls_T (n := 15) (Γ := [(0, .int .i64 n_1), (1, .int .i64 low1), (2, .int .i64 high1)]) (R := impl_in.R) Try.func62 rfl rfl (Nat.le_of_ble_eq_true rfl) ⟨rfl, rfl, rfl, trivial⟩ ?_
  unfold impl_in.f
  refine TC.seq ?_
  refine TC.region ?_
  refine TL.assign rfl rfl (v := .bool false) rfl ?_
  refine TL.done ?_
  refine TC.seq ?_
  refine TC.region ?_
  refine TL.move rfl rfl (v := .int .i64 n_1) rfl ?_
  refine TL.move rfl rfl (v := .int .i64 low1) rfl ?_
  refine TL.bin .i64 n_1 low1 rfl rfl rfl rfl (v := .bool (decide (n_1 ≥ low1))) rfl ?_
  refine TL.move rfl rfl (v := .bool (decide (n_1 ≥ low1))) rfl ?_
  refine TL.cutU 4 [(14, .bool ((decide (n_1 ≥ low1)) && (decide (n_1 ≤ high1)))), (0, .int .i64 n_1), (1, .int .i64 low1), (2, .int .i64 high1), (6, .bool false), (7, .int .i64 n_1), (8, .int .i64 low1), (9, .bool (decide (n_1 ≥ low1))), (10, .bool (decide (n_1 ≥ low1)))] [] ?_ ?_
  · refine TL.cases (t := 10) (b := (decide (n_1 ≥ low1))) rfl (fun c1 => ?_) (fun c2 => ?_)
    · refine TL.move rfl rfl (v := .int .i64 n_1) rfl ?_
      refine TL.move rfl rfl (v := .int .i64 high1) rfl ?_
      refine TL.bin .i64 n_1 high1 rfl rfl rfl rfl (v := .bool (decide (n_1 ≤ high1))) rfl ?_
      refine TL.pick rfl rfl (b := true) rfl (r := .bool (decide (n_1 ≤ high1))) rfl ?_
      refine TL.done ?_
      exact TC.nrm () () ⟨(by rw [c1]; rfl), rfl, rfl, rfl, rfl, rfl, rfl, rfl, (by rw [c1]; rfl), trivial⟩ [] (by kernel_rfl)
    · refine TL.skip rfl rfl (by decide) ?_
      refine TL.skip rfl rfl (by decide) ?_
      refine TL.skip rfl rfl (by decide) ?_
      refine TL.pick rfl rfl (b := false) rfl (r := .bool false) rfl ?_
      refine TL.done ?_
      exact TC.nrm () () ⟨(by rw [c2]; rfl), rfl, rfl, rfl, rfl, rfl, rfl, rfl, (by rw [c2]; rfl), trivial⟩ [] (by kernel_rfl)
  · refine TL.assign rfl rfl (v := .bool ((decide (n_1 ≥ low1)) && (decide (n_1 ≤ high1)))) rfl ?_
    refine TL.done ?_
    exact TC.retF (Fin.body (fin1 (.inr rfl) rfl (.tmp rfl) [] rfl ⟨rfl, rfl⟩))

end Go.Proofs.Ytjjfoofjipafiaa.G

/- slices.Index[[]int64,int64], as a pure function. -/
set_option linter.unusedVariables false
namespace Go.Proofs.Ytjjfoofjipafiaa.G
open Go Go.Sx Go.Proofs

def slices_Index_int64_int64.b0 (s1 : List Int) (v_1 : Int) : Int → Option (LR Int Int) := fun x1 => (bif (decide (x1 < (s1.length : Int))) then chk x1 s1.length ((bif (v_1 == (gt s1 x1)) then some (.ret (x1)) else some (.next (w64 (x1 + 1))))) else some (.brk x1))

def slices_Index_int64_int64.f (s1 : List Int) (v_1 : Int) : Option Int := (loop (slices_Index_int64_int64.b0 s1 v_1) 0).bind (ln (fun x1 => some (-1)))

def slices_Index_int64_int64.R (r : Int) (v : Value) (L : List Asn) : Prop := v = .int .i64 r ∧ L = []

set_option maxRecDepth 100000 in
set_option maxHeartbeats 4000000 in
theorem slices_Index_int64_int64.calls (w : World) (s2 : SV) (s1 : List Int) (v_1 : Int) (h1 : Reads Ei (hp w) s2 s1) :
    ∀ r, slices_Index_int64_int64.f s1 v_1 = some r → Calls Try.prog 112 #[SV.v s2, .int .i64 v_1] w (Ret w (slices_Index_int64_int64.R r)) := by

  refine calls_T (n := 19) (Γ := [(0, SV.v s2), (1, .int .i64 v_1)]) (R := slices_Index_int64_int64.R) Try.func112 rfl rfl (Nat.le_of_ble_eq_true rfl) ⟨rfl, rfl, trivial⟩ ?_
  unfold slices_Index_int64_int64.f
  refine TC.seq ?_
  refine TC.region ?_
  refine TL.assign rfl rfl (v := .int .i64 0) rfl ?_
  refine TL.done ?_
  refine TC.seq ?_
  refine TC.seq ?_
  refine TC.region ?_
  refine TL.move rfl rfl (v := SV.v s2) rfl ?_
  refine TL.len (Rd.old h1) Try.underlying22 rfl rfl rfl ?_
  refine TL.move rfl rfl (v := .int .i64 0) rfl ?_
  refine TL.done ?_
  refine TC.loopK (σ := Int) (γ := Unit) (Γ' := (fun x1 _ => [(0, SV.v s2), (1, .int .i64 v_1), (7, .int .i64 (s1.length : Int)), (8, .int .i64 x1)])) (L' := (fun x1 _ => [])) (Γb := (fun x1 _ => [(0, SV.v s2), (1, .int .i64 v_1), (7, .int .i64 (s1.length : Int)), (8, .int .i64 x1)])) (Lb := (fun x1 _ => [])) (0) (()) ⟨rfl, rfl, rfl, rfl, trivial⟩ [] rfl ?_ ?_
  · rintro x1 _
    refine TC.seq ?_
    refine TC.region ?_
    refine TL.bin .i64 x1 (s1.length : Int) rfl rfl rfl rfl (v := .bool (decide (x1 < (s1.length : Int)))) rfl ?_
    refine TL.done ?_
    refine TC.seq ?_
    refine TC.cond (b := (decide (x1 < (s1.length : Int)))) rfl (fun c1 => ?_) (fun c2 => ?_)
    · refine TC.skip ?_
      refine TC.seq ?_
      refine TC.block (NoEx.loop rfl NoEx.body) ?_
      refine TC.seq ?_
      refine TC.region ?_
      refine TL.move rfl rfl (v := .int .i64 x1) rfl ?_
      refine TL.assign rfl rfl (v := .int .i64 x1) rfl ?_
      refine TL.done ?_
      refine TC.seq ?_
      refine TC.region ?_
      refine TL.move rfl rfl (v := .int .i64 v_1) rfl ?_
      refine TL.move rfl rfl (v := SV.v s2) rfl ?_
      refine TL.move rfl rfl (v := .int .i64 x1) rfl ?_
      refine TL.chk fun h2 => ?_
      refine TL.ixs x1 x1.toNat (Rd.old h1) h2 Try.underlying22 Try.sizeOf2 rfl rfl rfl rfl (by omega) ?_
      refine TL.loadE (Rd.old h1) Try.isAgg2 x1.toNat 0 (gt_spec h2) (v := .int .i64 (gt s1 x1)) rfl (by simp only [show Ei.sz = 1 from rfl] <;> omega) rfl rfl rfl ?_
      refine TL.bin .i64 v_1 (gt s1 x1) rfl rfl rfl rfl (v := .bool (v_1 == (gt s1 x1))) rfl ?_
      refine TL.done ?_
      refine TC.cond (b := (v_1 == (gt s1 x1))) rfl (fun c3 => ?_) (fun c4 => ?_)
      · refine TC.seq ?_
        refine TC.region ?_
        refine TL.move rfl rfl (v := .int .i64 x1) rfl ?_
        refine TL.assign rfl rfl (v := .int .i64 x1) rfl ?_
        refine TL.done ?_
        exact TC.retF (Fin.loop Far.ret (Fin.body (fin1 (.inr rfl) rfl (.tmp rfl) [] rfl ⟨rfl, rfl⟩)))
      · refine TC.skip ?_
        refine TC.region ?_
        refine TL.bin .i64 x1 1 rfl rfl rfl rfl (v := .int .i64 (w64 (x1 + 1))) rfl ?_
        refine TL.move rfl rfl (v := .int .i64 (w64 (x1 + 1))) rfl ?_
        refine TL.done ?_
        exact TC.next ((w64 (x1 + 1))) (()) ⟨rfl, rfl, rfl, rfl, trivial⟩ [] rfl
    · exact TC.brk (x1) (()) ⟨rfl, rfl, rfl, rfl, trivial⟩ [] rfl
  · rintro x1 _
    refine TC.seq ?_
    refine TC.region ?_
    refine TL.assign rfl rfl (v := .int .i64 (-1)) rfl ?_
    refine TL.done ?_
    exact TC.retF (Fin.body (fin1 (.inr rfl) rfl (.tmp rfl) [] rfl ⟨rfl, rfl⟩))

end Go.Proofs.Ytjjfoofjipafiaa.G

/- slices.Contains[[]int64,int64], as a pure function. -/
set_option linter.unusedVariables false
namespace Go.Proofs.Ytjjfoofjipafiaa.G
open Go Go.Sx Go.Proofs

def slices_Contains_int64_int64.f (s1 : List Int) (v_1 : Int) : Option Bool := (G.slices_Index_int64_int64.f s1 v_1).bind (fun r_1 => some (decide (r_1 ≥ 0)))

def slices_Contains_int64_int64.R (r : Bool) (v : Value) (L : List Asn) : Prop := v = .bool r ∧ L = []

set_option maxRecDepth 100000 in
set_option maxHeartbeats 4000000 in
theorem slices_Contains_int64_int64.calls (w : World) (s2 : SV) (s1 : List Int) (v_1 : Int) (h1 : Reads Ei (hp w) s2 s1) :
    ∀ r, slices_Contains_int64_int64.f s1 v_1 = some r → Calls Try.prog 97 #[SV.v s2, .int .i64 v_1] w (Ret w (slices_Contains_int64_int64.R r)) := by

  refine calls_T (n := 9) (Γ := [(0, SV.v s2), (1, .int .i64 v_1)]) (R := slices_Contains_int64_int64.R) Try.func97 rfl rfl (Nat.le_of_ble_eq_true rfl) ⟨rfl, rfl, trivial⟩ ?_
  unfold slices_Contains_int64_int64.f
  refine TC.seq ?_
  refine TC.region ?_
  refine TL.assign rfl rfl (v := .bool false) rfl ?_
  refine TL.done ?_
  refine TC.seq ?_
  refine TC.region ?_
  refine TL.move rfl rfl (v := SV.v s2) rfl ?_
  refine TL.move rfl rfl (v := .int .i64 v_1) rfl ?_
  refine TL.call (R := G.slices_Index_int64_int64.R) Try.call112 rfl rfl rfl (fun w hS => G.slices_Index_int64_int64.calls w s2 s1 v_1 ((Rd.old h1) w hS)) ?_
  rintro r_1 _ _ ⟨rfl, rfl⟩
  refine TL.bin .i64 r_1 0 rfl rfl rfl rfl (v := .bool (decide (r_1 ≥ 0))) rfl ?_
  refine TL.assign rfl rfl (v := .bool (decide (r_1 ≥ 0))) rfl ?_
  refine TL.done ?_
  exact TC.retF (Fin.body (fin1 (.inr rfl) rfl (.tmp rfl) [] rfl ⟨rfl, rfl⟩))

end Go.Proofs.Ytjjfoofjipafiaa.G

/- impl.isPrime, as a pure function. -/
set_option linter.unusedVariables false
namespace Go.Proofs.Ytjjfoofjipafiaa.G
open Go Go.Sx Go.Proofs

def impl_isPrime.f (p1 : Int) : Option Bool := (G.slices_Contains_int64_int64.f ([2, 3, 5, 7, 11, 13] : List Int) p1).bind (fun r_1 => some r_1)

def impl_isPrime.R (r : Bool) (v : Value) (L : List Asn) : Prop := v = .bool r ∧ L = []

set_option maxRecDepth 100000 in
set_option maxHeartbeats 4000000 in
theorem impl_isPrime.calls (w : World) (p1 : Int) :
    ∀ r, impl_isPrime.f p1 = some r → Calls Try.prog 84 #[.int .i64 p1] w (Ret w (impl_isPrime.R r)) := by

  refine calls_T (n := 6) (Γ := [(0, .int .i64 p1)]) (R := impl_isPrime.R) Try.func84 rfl rfl (Nat.le_of_ble_eq_true rfl) ⟨rfl, trivial⟩ ?_
  unfold impl_isPrime.f
  refine TC.seq ?_
  refine TC.region ?_
  refine TL.assign rfl rfl (v := .bool false) rfl ?_
  refine TL.done ?_
  refine TC.seq ?_
  refine TC.region ?_
  refine TL.blit Ei ([2, 3, 5, 7, 11, 13] : List Int) Try.underlying22 Try.sizeOf2 Try.zeroValue2 rfl rfl rfl [(0, .int .i64 2), (1, .int .i64 3), (2, .int .i64 5), (3, .int .i64 7), (4, .int .i64 11), (5, .int .i64 13)] rfl ⟨rfl, rfl, rfl, rfl, rfl, rfl, rfl, rfl, rfl, rfl, rfl, rfl, trivial⟩ rfl rfl fun s1 => ?_
  refine TL.move rfl rfl (v := .int .i64 p1) rfl ?_
  refine TL.call (R := G.slices_Contains_int64_int64.R) Try.call97 rfl rfl rfl (fun w hS => G.slices_Contains_int64_int64.calls w s1 ([2, 3, 5, 7, 11, 13] : List Int) p1 ((Rd.row 0 rfl) w hS)) ?_
  rintro r_1 _ _ ⟨rfl, rfl⟩
  refine TL.assign rfl rfl (v := .bool r_1) rfl ?_
  refine TL.done ?_
  exact TC.retF (Fin.body (fin1 (.inr rfl) rfl (.tmp rfl) [] rfl ⟨rfl, rfl⟩))

end Go.Proofs.Ytjjfoofjipafiaa.G

/- impl.shapeOk, as a pure function. -/
set_option linter.unusedVariables false
namespace Go.Proofs.Ytjjfoofjipafiaa.G
open Go Go.Sx Go.Proofs

def impl_shapeOk.f (p1 : Int) (n_1 : Int) : Option Bool := (G.impl_isPrime.f p1).bind (fun r_1 => (bif r_1 then (G.impl_in.f n_1 1 6).bind (fun r_2 => some r_2) else some false).bind (fun b_1 => some b_1))

def impl_shapeOk.R (r : Bool) (v : Value) (L : List Asn) : Prop := v = .bool r ∧ L = []

set_option maxRecDepth 100000 in
set_option maxHeartbeats 4000000 in
theorem impl_shapeOk.calls (w : World) (p1 : Int) (n_1 : Int) :
    ∀ r, impl_shapeOk.f p1 n_1 = some r → Calls Try.prog 46 #[.int .i64 p1, .int .i64 n_1] w (Ret w (impl_shapeOk.R r)) := by

  refine calls_T (n := 11) (Γ := [(0, .int .i64 p1), (1, .int .i64 n_1)]) (R := impl_shapeOk.R) Try.func46 rfl rfl (Nat.le_of_ble_eq_true rfl) ⟨rfl, rfl, trivial⟩ ?_
  unfold impl_shapeOk.f
  refine TC.seq ?_
  refine TC.region ?_
  refine TL.assign rfl rfl (v := .bool false) rfl ?_
  refine TL.done ?_
  refine TC.seq ?_
  refine TC.region ?_
  refine TL.move rfl rfl (v := .int .i64 p1) rfl ?_
  refine TL.call (R := G.impl_isPrime.R) Try.call84 rfl rfl rfl (fun w hS => G.impl_isPrime.calls w p1) ?_
  rintro r_1 _ _ ⟨rfl, rfl⟩
  refine TL.move rfl rfl (v := .bool r_1) rfl ?_
  refine TL.cutJ (σ := Bool) (γ := Unit) (Γ' := fun b_1 _ => [(10, .bool b_1), (0, .int .i64 p1), (1, .int .i64 n_1), (4, .bool false), (5, .int .i64 p1), (6, .bool r_1), (7, .bool r_1)]) (L' := fun _ _ => []) 3 ?_ ?_
  · refine TL.ifb (t := 7) (b := r_1) rfl (fun c1 => ?_) (fun c2 => ?_)
    · refine TL.move rfl rfl (v := .int .i64 n_1) rfl ?_
      refine TL.call (R := G.impl_in.R) Try.call62 rfl rfl rfl (fun w hS => G.impl_in.calls w n_1 1 6) ?_
      rintro r_2 _ _ ⟨rfl, rfl⟩
      refine TL.pick rfl rfl (b := true) rfl (r := .bool r_2) rfl ?_
      refine TL.done ?_
      exact TC.nrm (r_2) () ⟨rfl, rfl, rfl, rfl, rfl, rfl, (by rw [c1]; rfl), trivial⟩ [] (by kernel_rfl)
    · refine TL.skip rfl rfl (by decide) ?_
      refine TL.skip rfl rfl (by decide) ?_
      refine TL.pick rfl rfl (b := false) rfl (r := .bool false) rfl ?_
      refine TL.done ?_
      exact TC.nrm (false) () ⟨rfl, rfl, rfl, rfl, rfl, rfl, (by rw [c2]; rfl), trivial⟩ [] (by kernel_rfl)
  · rintro b_1 _
    refine TL.assign rfl rfl (v := .bool b_1) rfl ?_
    refine TL.done ?_
    exact TC.retF (Fin.body (fin1 (.inr rfl) rfl (.tmp rfl) [] rfl ⟨rfl, rfl⟩))

end Go.Proofs.Ytjjfoofjipafiaa.G

/- impl.endsOk, as a pure function. -/
set_option linter.unusedVariables false
namespace Go.Proofs.Ytjjfoofjipafiaa.G
open Go Go.Sx Go.Proofs

def impl_endsOk.f (k_1 : Int) : Option Bool := (G.impl_in.f k_1 0 8).bind (fun r_1 => some r_1)

def impl_endsOk.R (r : Bool) (v : Value) (L : List Asn) : Prop := v = .bool r ∧ L = []

set_option maxRecDepth 100000 in
set_option maxHeartbeats 4000000 in
theorem impl_endsOk.calls (w : World) (k_1 : Int) :
    ∀ r, impl_endsOk.f k_1 = some r → Calls Try.prog 51 #[.int .i64 k_1] w (Ret w (impl_endsOk.R r)) := by

  refine calls_T (n := 5) (Γ := [(0, .int .i64 k_1)]) (R := impl_endsOk.R) Try.func51 rfl rfl (Nat.le_of_ble_eq_true rfl) ⟨rfl, trivial⟩ ?_
  unfold impl_endsOk.f
  refine TC.seq ?_
  refine TC.region ?_
  refine TL.assign rfl rfl (v := .bool false) rfl ?_
  refine TL.done ?_
  refine TC.seq ?_
  refine TC.region ?_
  refine TL.move rfl rfl (v := .int .i64 k_1) rfl ?_
  refine TL.call (R := G.impl_in.R) Try.call62 rfl rfl rfl (fun w hS => G.impl_in.calls w k_1 0 8) ?_
  rintro r_1 _ _ ⟨rfl, rfl⟩
  refine TL.assign rfl rfl (v := .bool r_1) rfl ?_
  refine TL.done ?_
  exact TC.retF (Fin.body (fin1 (.inr rfl) rfl (.tmp rfl) [] rfl ⟨rfl, rfl⟩))

end Go.Proofs.Ytjjfoofjipafiaa.G

/- impl.powerOf, as a pure function. -/
set_option linter.unusedVariables false
namespace Go.Proofs.Ytjjfoofjipafiaa.G
open Go Go.Sx Go.Proofs

def impl_powerOf.b0 (k_1 : Int) (n_1 : Int) : Int × Int → Option (LR (Int × Int) Int) := fun p => match p with | (out1, x1) => (bif (decide (x1 < k_1)) then (bif (decide ((w64 (out1 * n_1)) > 1296)) then some (.ret ((w64 (out1 * n_1)))) else some (.next ((w64 (out1 * n_1)), (w64 (x1 + 1))))) else some (.brk (out1, x1)))

def impl_powerOf.f (n_1 : Int) (k_1 : Int) : Option Int := (loop (impl_powerOf.b0 k_1 n_1) (1, 0)).bind (ln (fun p => match p with | (out1, x1) => some out1))

def impl_powerOf.R (r : Int) (v : Value) (L : List Asn) : Prop := v = .int .i64 r ∧ L = []

set_option maxRecDepth 100000 in
set_option maxHeartbeats 4000000 in
theorem impl_powerOf.calls (w : World) (n_1 : Int) (k_1 : Int) :
    ∀ r, impl_powerOf.f n_1 k_1 = some r → Calls Try.prog 67 #[.int .i64 n_1, .int .i64 k_1] w (Ret w (impl_powerOf.R r)) := by

  refine calls_T (n := 17) (Γ := [(0, .int .i64 n_1), (1, .int .i64 k_1)]) (R := impl_powerOf.R) Try.func67 rfl rfl (Nat.le_of_ble_eq_true rfl) ⟨rfl, rfl, trivial⟩ ?_
  unfold impl_powerOf.f
  refine TC.seq ?_
  refine TC.region ?_
  refine TL.assign rfl rfl (v := .int .i64 0) rfl ?_
  refine TL.done ?_
  refine TC.seq ?_
  refine TC.region ?_
  refine TL.assign rfl rfl (v := .int .i64 1) rfl ?_
  refine TL.done ?_
  refine TC.seq ?_
  refine TC.seq ?_
  refine TC.region ?_
  refine TL.move rfl rfl (v := .int .i64 k_1) rfl ?_
  refine TL.move rfl rfl (v := .int .i64 0) rfl ?_
  refine TL.done ?_
  refine TC.loopK (σ := Int × Int) (γ := Unit) (Γ' := (fun p q => match p, q with | (out1, x1), _ => [(0, .int .i64 n_1), (5, .int .i64 out1), (6, .int .i64 k_1), (7, .int .i64 x1)])) (L' := (fun p q => match p, q with | (out1, x1), _ => [])) (Γb := (fun p q => match p, q with | (out1, x1), _ => [(0, .int .i64 n_1), (5, .int .i64 out1), (6, .int .i64 k_1), (7, .int .i64 x1)])) (Lb := (fun p q => match p, q with | (out1, x1), _ => [])) ((1, 0)) (()) ⟨rfl, rfl, rfl, rfl, trivial⟩ [] rfl ?_ ?_
  · rintro ⟨out1, x1⟩ _
    refine TC.seq ?_
    refine TC.region ?_
    refine TL.bin .i64 x1 k_1 rfl rfl rfl rfl (v := .bool (decide (x1 < k_1))) rfl ?_
    refine TL.done ?_
    refine TC.seq ?_
    refine TC.cond (b := (decide (x1 < k_1))) rfl (fun c1 => ?_) (fun c2 => ?_)
    · refine TC.skip ?_
      refine TC.seq ?_
      refine TC.block (NoEx.loop rfl NoEx.body) ?_
      refine TC.seq ?_
      refine TC.region ?_
      refine TL.move rfl rfl (v := .int .i64 out1) rfl ?_
      refine TL.move rfl rfl (v := .int .i64 n_1) rfl ?_
      refine TL.bin .i64 out1 n_1 rfl rfl rfl rfl (v := .int .i64 (w64 (out1 * n_1))) rfl ?_
      refine TL.assign rfl rfl (v := .int .i64 (w64 (out1 * n_1))) rfl ?_
      refine TL.done ?_
      refine TC.seq ?_
      refine TC.region ?_
      refine TL.move rfl rfl (v := .int .i64 (w64 (out1 * n_1))) rfl ?_
      refine TL.bin .i64 (w64 (out1 * n_1)) 1296 rfl rfl rfl rfl (v := .bool (decide ((w64 (out1 * n_1)) > 1296))) rfl ?_
      refine TL.done ?_
      refine TC.cond (b := (decide ((w64 (out1 * n_1)) > 1296))) rfl (fun c3 => ?_) (fun c4 => ?_)
      · refine TC.seq ?_
        refine TC.region ?_
        refine TL.move rfl rfl (v := .int .i64 (w64 (out1 * n_1))) rfl ?_
        refine TL.assign rfl rfl (v := .int .i64 (w64 (out1 * n_1))) rfl ?_
        refine TL.done ?_
        exact TC.retF (Fin.loop Far.ret (Fin.body (fin1 (.inr rfl) rfl (.tmp rfl) [] rfl ⟨rfl, rfl⟩)))
      · refine TC.skip ?_
        refine TC.region ?_
        refine TL.bin .i64 x1 1 rfl rfl rfl rfl (v := .int .i64 (w64 (x1 + 1))) rfl ?_
        refine TL.move rfl rfl (v := .int .i64 (w64 (x1 + 1))) rfl ?_
        refine TL.done ?_
        exact TC.next (((w64 (out1 * n_1)), (w64 (x1 + 1)))) (()) ⟨rfl, rfl, rfl, rfl, trivial⟩ [] rfl
    · exact TC.brk ((out1, x1)) (()) ⟨rfl, rfl, rfl, rfl, trivial⟩ [] rfl
  · rintro ⟨out1, x1⟩ _
    refine TC.seq ?_
    refine TC.region ?_
    refine TL.move rfl rfl (v := .int .i64 out1) rfl ?_
    refine TL.assign rfl rfl (v := .int .i64 out1) rfl ?_
    refine TL.done ?_
    exact TC.retF (Fin.body (fin1 (.inr rfl) rfl (.tmp rfl) [] rfl ⟨rfl, rfl⟩))

end Go.Proofs.Ytjjfoofjipafiaa.G

/- slices.IndexFunc[[]int64,int64], as a pure function. -/
set_option linter.unusedVariables false
namespace Go.Proofs.Ytjjfoofjipafiaa.G
open Go Go.Sx Go.Proofs

def slices_IndexFunc_int64_int64.b0 (s1 : List Int) (f2 : Int → Option Bool) : Int → Option (LR Int Int) := fun x1 => (bif (decide (x1 < (s1.length : Int))) then chk x1 s1.length ((f2 (gt s1 x1)).bind (fun r_1 => (bif r_1 then some (.ret (x1)) else some (.next (w64 (x1 + 1)))))) else some (.brk x1))

def slices_IndexFunc_int64_int64.f (s1 : List Int) (f2 : Int → Option Bool) : Option Int := (loop (slices_IndexFunc_int64_int64.b0 s1 f2) 0).bind (ln (fun x1 => some (-1)))

def slices_IndexFunc_int64_int64.R (r : Int) (v : Value) (L : List Asn) : Prop := v = .int .i64 r ∧ L = []

set_option maxRecDepth 100000 in
set_option maxHeartbeats 4000000 in
theorem slices_IndexFunc_int64_int64.calls (w : World) (s2 : SV) (s1 : List Int) (f1 : Nat) (fst1 : List Value) (cap1 : List Value) (f2 : Int → Option Bool) (h1 : Reads Ei (hp w) s2 s1) (hc1 : ∀ (args_ : Array Value) (w_ : World), (callFunc f1 args_).run Try.prog w_ = .ok (.enter f1 args_) w_) (hf1 : ∀ w_, Hle (hp w) (hp w_) → ∀ (x0_ : Int), ∀ r_, f2 x0_ = some r_ → Calls Try.prog f1 (fst1 ++ ([.int .i64 x0_] : List Value) ++ cap1).toArray w_ (Ret w_ (fun (v_ : Value) (L_ : List Asn) => v_ = .bool r_ ∧ L_ = []))) :
    ∀ r, slices_IndexFunc_int64_int64.f s1 f2 = some r → Calls Try.prog 106 #[SV.v s2, .func (.func f1) fst1.toArray cap1.toArray] w (Ret w (slices_IndexFunc_int64_int64.R r)) := by

  refine calls_T (n := 19) (Γ := [(0, SV.v s2), (1, .func (.func f1) fst1.toArray cap1.toArray)]) (R := slices_IndexFunc_int64_int64.R) Try.func106 rfl rfl (Nat.le_of_ble_eq_true rfl) ⟨rfl, rfl, trivial⟩ ?_
  unfold slices_IndexFunc_int64_int64.f
  refine TC.seq ?_
  refine TC.region ?_
  refine TL.assign rfl rfl (v := .int .i64 0) rfl ?_
  refine TL.done ?_
  refine TC.seq ?_
  refine TC.seq ?_
  refine TC.region ?_
  refine TL.move rfl rfl (v := SV.v s2) rfl ?_
  refine TL.len (Rd.old h1) Try.underlying22 rfl rfl rfl ?_
  refine TL.move rfl rfl (v := .int .i64 0) rfl ?_
  refine TL.done ?_
  refine TC.loopK (σ := Int) (γ := Unit) (Γ' := (fun x1 _ => [(0, SV.v s2), (1, .func (.func f1) fst1.toArray cap1.toArray), (7, .int .i64 (s1.length : Int)), (8, .int .i64 x1)])) (L' := (fun x1 _ => [])) (Γb := (fun x1 _ => [(0, SV.v s2), (1, .func (.func f1) fst1.toArray cap1.toArray), (7, .int .i64 (s1.length : Int)), (8, .int .i64 x1)])) (Lb := (fun x1 _ => [])) (0) (()) ⟨rfl, rfl, rfl, rfl, trivial⟩ [] rfl ?_ ?_
  · rintro x1 _
    refine TC.seq ?_
    refine TC.region ?_
    refine TL.bin .i64 x1 (s1.length : Int) rfl rfl rfl rfl (v := .bool (decide (x1 < (s1.length : Int)))) rfl ?_
    refine TL.done ?_
    refine TC.seq ?_
    refine TC.cond (b := (decide (x1 < (s1.length : Int)))) rfl (fun c1 => ?_) (fun c2 => ?_)
    · refine TC.skip ?_
      refine TC.seq ?_
      refine TC.block (NoEx.loop rfl NoEx.body) ?_
      refine TC.seq ?_
      refine TC.region ?_
      refine TL.move rfl rfl (v := .int .i64 x1) rfl ?_
      refine TL.assign rfl rfl (v := .int .i64 x1) rfl ?_
      refine TL.done ?_
      refine TC.seq ?_
      refine TC.region ?_
      refine TL.move rfl rfl (v := .func (.func f1) fst1.toArray cap1.toArray) rfl ?_
      refine TL.move rfl rfl (v := SV.v s2) rfl ?_
      refine TL.move rfl rfl (v := .int .i64 x1) rfl ?_
      refine TL.chk fun h2 => ?_
      refine TL.ixs x1 x1.toNat (Rd.old h1) h2 Try.underlying22 Try.sizeOf2 rfl rfl rfl rfl (by omega) ?_
      refine TL.loadE (Rd.old h1) Try.isAgg2 x1.toNat 0 (gt_spec h2) (v := .int .i64 (gt s1 x1)) rfl (by simp only [show Ei.sz = 1 from rfl] <;> omega) rfl rfl rfl ?_
      refine TL.callv (R := (fun r_ => (fun (v_ : Value) (L_ : List Asn) => v_ = .bool r_ ∧ L_ = []))) (vs := [.int .i64 (gt s1 x1)]) hc1 rfl rfl rfl rfl (fun w hS => hf1 w hS.iw (gt s1 x1)) ?_
      rintro r_1 _ _ ⟨rfl, rfl⟩
      refine TL.done ?_
      refine TC.cond (b := r_1) rfl (fun c3 => ?_) (fun c4 => ?_)
      · refine TC.seq ?_
        refine TC.region ?_
        refine TL.move rfl rfl (v := .int .i64 x1) rfl ?_
        refine TL.assign rfl rfl (v := .int .i64 x1) rfl ?_
        refine TL.done ?_
        exact TC.retF (Fin.loop Far.ret (Fin.body (fin1 (.inr rfl) rfl (.tmp rfl) [] rfl ⟨rfl, rfl⟩)))
      · refine TC.skip ?_
        refine TC.region ?_
        refine TL.bin .i64 x1 1 rfl rfl rfl rfl (v := .int .i64 (w64 (x1 + 1))) rfl ?_
        refine TL.move rfl rfl (v := .int .i64 (w64 (x1 + 1))) rfl ?_
        refine TL.done ?_
        exact TC.next ((w64 (x1 + 1))) (()) ⟨rfl, rfl, rfl, rfl, trivial⟩ [] rfl
    · exact TC.brk (x1) (()) ⟨rfl, rfl, rfl, rfl, trivial⟩ [] rfl
  · rintro x1 _
    refine TC.seq ?_
    refine TC.region ?_
    refine TL.assign rfl rfl (v := .int .i64 (-1)) rfl ?_
    refine TL.done ?_
    exact TC.retF (Fin.body (fin1 (.inr rfl) rfl (.tmp rfl) [] rfl ⟨rfl, rfl⟩))

end Go.Proofs.Ytjjfoofjipafiaa.G

/- slices.ContainsFunc[[]int64,int64], as a pure function. -/
set_option linter.unusedVariables false
namespace Go.Proofs.Ytjjfoofjipafiaa.G
open Go Go.Sx Go.Proofs

def slices_ContainsFunc_int64_int64.f (s1 : List Int) (f2 : Int → Option Bool) : Option Bool := (G.slices_IndexFunc_int64_int64.f s1 f2).bind (fun r_1 => some (decide (r_1 ≥ 0)))

def slices_ContainsFunc_int64_int64.R (r : Bool) (v : Value) (L : List Asn) : Prop := v = .bool r ∧ L = []

set_option maxRecDepth 100000 in
set_option maxHeartbeats 4000000 in
theorem slices_ContainsFunc_int64_int64.calls (w : World) (s2 : SV) (s1 : List Int) (f1 : Nat) (fst1 : List Value) (cap1 : List Value) (f2 : Int → Option Bool) (h1 : Reads Ei (hp w) s2 s1) (hc1 : ∀ (args_ : Array Value) (w_ : World), (callFunc f1 args_).run Try.prog w_ = .ok (.enter f1 args_) w_) (hf1 : ∀ w_, Hle (hp w) (hp w_) → ∀ (x0_ : Int), ∀ r_, f2 x0_ = some r_ → Calls Try.prog f1 (fst1 ++ ([.int .i64 x0_] : List Value) ++ cap1).toArray w_ (Ret w_ (fun (v_ : Value) (L_ : List Asn) => v_ = .bool r_ ∧ L_ = []))) :
    ∀ r, slices_ContainsFunc_int64_int64.f s1 f2 = some r → Calls Try.prog 89 #[SV.v s2, .func (.func f1) fst1.toArray cap1.toArray] w (Ret w (slices_ContainsFunc_int64_int64.R r)) := by

  refine calls_T (n := 9) (Γ := [(0, SV.v s2), (1, .func (.func f1) fst1.toArray cap1.toArray)]) (R := slices_ContainsFunc_int64_int64.R) Try.func89 rfl rfl (Nat.le_of_ble_eq_true rfl) ⟨rfl, rfl, trivial⟩ ?_
  unfold slices_ContainsFunc_int64_int64.f
  refine TC.seq ?_
  refine TC.region ?_
  refine TL.assign rfl rfl (v := .bool false) rfl ?_
  refine TL.done ?_
  refine TC.seq ?_
  refine TC.region ?_
  refine TL.move rfl rfl (v := SV.v s2) rfl ?_
  refine TL.move rfl rfl (v := .func (.func f1) fst1.toArray cap1.toArray) rfl ?_
  refine TL.call (R := G.slices_IndexFunc_int64_int64.R) Try.call106 rfl rfl rfl (fun w hS => G.slices_IndexFunc_int64_int64.calls w s2 s1 f1 fst1 cap1 f2 ((Rd.old h1) w hS) hc1 (fun w_ hle_ => hf1 w_ (hS.iw.trans hle_))) ?_
  rintro r_1 _ _ ⟨rfl, rfl⟩
  refine TL.bin .i64 r_1 0 rfl rfl rfl rfl (v := .bool (decide (r_1 ≥ 0))) rfl ?_
  refine TL.assign rfl rfl (v := .bool (decide (r_1 ≥ 0))) rfl ?_
  refine TL.done ?_
  exact TC.retF (Fin.body (fin1 (.inr rfl) rfl (.tmp rfl) [] rfl ⟨rfl, rfl⟩))

end Go.Proofs.Ytjjfoofjipafiaa.G

/- impl.IsTensor$1, as a pure function. -/
set_option linter.unusedVariables false
namespace Go.Proofs.Ytjjfoofjipafiaa.G
open Go Go.Sx Go.Proofs

def impl_IsTensor_1.f (x1 : Int) (c1 : Int) (c2 : Int) (c3 : Int) (c4 : Int) (c5 : List Int) : Option Bool := (G.impl_in.f x1 0 (w64 (c1 - 1))).bind (fun r_1 => some (!r_1))

def impl_IsTensor_1.R (r : Bool) (v : Value) (L : List Asn) : Prop := v = .bool r ∧ L = []

set_option maxRecDepth 100000 in
set_option maxHeartbeats 4000000 in
theorem impl_IsTensor_1.calls (w : World) (x1 : Int) (b_1 : Nat) (c1 : Int) (c2 : Int) (c3 : Int) (c4 : Int) (s1 : SV) (c5 : List Int) (h2 : At (hp w) b_1 [.one (.int .i64 c1), .one (.int .i64 c2), .one (.int .i64 c3), .one (.int .i64 c4), .one (SV.v s1)]) (h1 : Reads Ei (hp w) s1 c5) :
    ∀ r, impl_IsTensor_1.f x1 c1 c2 c3 c4 c5 = some r → Calls Try.prog 90 #[.int .i64 x1, bp b_1 0] w (Ret w (impl_IsTensor_1.R r)) := by

  refine calls_T (n := 10) (Γ := [(0, .int .i64 x1), (1, bp b_1 0)]) (R := impl_IsTensor_1.R) Try.func90 rfl rfl (Nat.le_of_ble_eq_true rfl) ⟨rfl, rfl, trivial⟩ ?_
  unfold impl_IsTensor_1.f
  refine TC.seq ?_
  refine TC.region ?_
  refine TL.assign rfl rfl (v := .bool false) rfl ?_
  refine TL.done ?_
  refine TC.seq ?_
  refine TC.region ?_
  refine TL.move rfl rfl (v := .int .i64 x1) rfl ?_
  refine TL.fa Try.underlying24 rfl Try.sizeOf2 rfl 0 rfl rfl rfl rfl ?_
  refine TL.load1 0 (Src.at h2) Try.isAgg2 rfl rfl rfl rfl rfl ?_
  refine TL.bin .i64 c1 1 rfl rfl rfl rfl (v := .int .i64 (w64 (c1 - 1))) rfl ?_
  refine TL.call (R := G.impl_in.R) Try.call62 rfl rfl rfl (fun w hS => G.impl_in.calls w x1 0 (w64 (c1 - 1))) ?_
  rintro r_1 _ _ ⟨rfl, rfl⟩
  refine TL.not r_1 rfl rfl rfl ?_
  refine TL.assign rfl rfl (v := .bool (!r_1)) rfl ?_
  refine TL.done ?_
  exact TC.retF (Fin.body (fin1 (.inr rfl) rfl (.tmp rfl) [] rfl ⟨rfl, rfl⟩))

end Go.Proofs.Ytjjfoofjipafiaa.G
