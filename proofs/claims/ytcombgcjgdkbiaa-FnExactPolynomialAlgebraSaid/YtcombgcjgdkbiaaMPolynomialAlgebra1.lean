/- Functions of the program, as pure functions. -/
import Derived.Test.YtcombgcjgdkbiaaSy2
import Derived.Test.YtcombgcjgdkbiaaProg
/- laws.toInt64S, as a pure function. -/
set_option linter.unusedVariables false
namespace Go.Proofs.Ytcombgcjgdkbiaa.G
open Go Go.Sx Go.Proofs

def laws_toInt64S.b0 (a_1 : List Int) : (List Int) × Int → Option (LB ((List Int) × Int)) := fun p => match p with | (out1, i1) => (bif (decide (i1 < (a_1.length : Int))) then chk i1 a_1.length (chk i1 out1.length (some (.next ((out1.set i1.toNat (gt a_1 i1)), (w64 (i1 + 1)))))) else some (.brk (out1, i1)))

def laws_toInt64S.f (a_1 : List Int) : Option (List Int) := small a_1.length ((loop1 (laws_toInt64S.b0 a_1) ((List.replicate (a_1.length : Int).toNat (0 : Int)), 0)).bind (fun p => match p with | (out1, i1) => some out1))

def laws_toInt64S.R (r : List Int) (v : Value) (L : List Asn) : Prop := ∃ (s0 : SV), v = SV.v s0 ∧ L = [row Ei 2 s0 r]

set_option maxRecDepth 100000 in
set_option maxHeartbeats 4000000 in
theorem laws_toInt64S.calls (w : World) (s1 : SV) (a_1 : List Int) (h1 : Reads Ei (hp w) s1 a_1) :
    ∀ r, laws_toInt64S.f a_1 = some r → Calls Try.prog 16 #[SV.v s1] w (Ret w (laws_toInt64S.R r)) := by

  refine calls_T (n := 22) (Γ := [(0, SV.v s1)]) (R := laws_toInt64S.R) Try.func16 rfl rfl (Nat.le_of_ble_eq_true rfl) ⟨rfl, trivial⟩ ?_
  unfold laws_toInt64S.f
  refine TC.seq ?_
  refine TC.region ?_
  refine TL.assign rfl rfl (v := SV.v ⟨none, 0, 0⟩) rfl ?_
  refine TL.done ?_
  refine TC.seq ?_
  refine TC.region ?_
  refine TL.move rfl rfl (v := SV.v s1) rfl ?_
  refine TL.len (Rd.old h1) Try.underlying22 rfl rfl rfl ?_
  refine TL.small fun h2 => ?_
  refine TL.mkslice Ei (0 : Int) (a_1.length : Int) Try.underlying22 (info_of Try.type2) (zv := (Try.t2.zero.getD (.bool false))) rfl rfl rfl (by simp [Ei, flat, Seg.cells]) (by decide) (by omega) (by omega) rfl rfl rfl rfl fun s2 => ?_
  refine TL.assign rfl rfl (v := SV.v s2) rfl ?_
  refine TL.done ?_
  refine TC.seq ?_
  refine TC.seq ?_
  refine TC.region ?_
  refine TL.assign rfl rfl (v := .int .i64 0) rfl ?_
  refine TL.done ?_
  refine TC.loop1 (σ := (List Int) × Int) (γ := Unit) (Γ' := (fun p q => match p, q with | (out1, i1), _ => [(0, SV.v s1), (3, SV.v s2), (4, .int .i64 i1)])) (L' := (fun p q => match p, q with | (out1, i1), _ => [row Ei 2 s2 out1])) (Γb := (fun p q => match p, q with | (out1, i1), _ => [(0, SV.v s1), (3, SV.v s2), (4, .int .i64 i1)])) (Lb := (fun p q => match p, q with | (out1, i1), _ => [row Ei 2 s2 out1])) (((List.replicate (a_1.length : Int).toNat (0 : Int)), 0)) (()) ⟨rfl, rfl, rfl, trivial⟩ [0] rfl ?_ ?_
  · rintro ⟨out1, i1⟩ _
    refine TC.seq ?_
    refine TC.seq ?_
    refine TC.region ?_
    refine TL.move rfl rfl (v := .int .i64 i1) rfl ?_
    refine TL.move rfl rfl (v := SV.v s1) rfl ?_
    refine TL.len (Rd.old h1) Try.underlying22 rfl rfl rfl ?_
    refine TL.bin .i64 i1 (a_1.length : Int) rfl rfl rfl rfl (v := .bool (decide (i1 < (a_1.length : Int)))) rfl ?_
    refine TL.done ?_
    refine TC.cond (b := (decide (i1 < (a_1.length : Int)))) rfl (fun c1 => ?_) (fun c2 => ?_)
    · refine TC.skip ?_
      refine TC.seq ?_
      refine TC.block (NoEx.loop1 rfl) ?_
      refine TC.region ?_
      refine TL.move rfl rfl (v := SV.v s2) rfl ?_
      refine TL.move rfl rfl (v := .int .i64 i1) rfl ?_
      refine TL.move rfl rfl (v := SV.v s1) rfl ?_
      refine TL.move rfl rfl (v := .int .i64 i1) rfl ?_
      refine TL.chk fun h4 => ?_
      refine TL.ixs i1 i1.toNat (Rd.old h1) h4 Try.underlying22 Try.sizeOf2 rfl rfl rfl rfl (by omega) ?_
      refine TL.loadE (Rd.old h1) Try.isAgg2 i1.toNat 0 (gt_spec h4) (v := .int .i64 (gt a_1 i1)) rfl (by simp only [show Ei.sz = 1 from rfl]; omega) rfl rfl rfl ?_
      refine TL.chk fun h5 => ?_
      refine TL.ixs i1 i1.toNat (Rd.row 0 rfl) h5 Try.underlying22 Try.sizeOf2 rfl rfl rfl rfl (by omega) ?_
      refine TL.stE 0 (i1.toNat) (gt a_1 i1) (v := .int .i64 (gt a_1 i1)) rfl Try.sizeOf2 rfl rfl rfl (by have h_ := h5; omega) (by simp only [show Ei.sz = 1 from rfl]; omega) rfl rfl rfl ?_
      refine TL.done ?_
      refine TC.region ?_
      refine TL.move rfl rfl (v := .int .i64 i1) rfl ?_
      refine TL.bin .i64 i1 1 rfl rfl rfl rfl (v := .int .i64 (w64 (i1 + 1))) rfl ?_
      refine TL.assign rfl rfl (v := .int .i64 (w64 (i1 + 1))) rfl ?_
      refine TL.done ?_
      exact TC.next1 (((out1.set i1.toNat (gt a_1 i1)), (w64 (i1 + 1)))) (()) ⟨rfl, rfl, rfl, trivial⟩ [0] rfl
    · exact TC.brk1 ((out1, i1)) (()) ⟨rfl, rfl, rfl, trivial⟩ [0] rfl
  · rintro ⟨out1, i1⟩ _
    refine TC.seq ?_
    refine TC.region ?_
    refine TL.move rfl rfl (v := SV.v s2) rfl ?_
    refine TL.assign rfl rfl (v := SV.v s2) rfl ?_
    refine TL.done ?_
    exact TC.retF (Fin.body (fin1 (.inr rfl) rfl (.tmp rfl) [0] rfl ⟨s2, rfl, rfl⟩))

end Go.Proofs.Ytcombgcjgdkbiaa.G

/- laws.eqInt64S, as a pure function. -/
set_option linter.unusedVariables false
namespace Go.Proofs.Ytcombgcjgdkbiaa.G
open Go Go.Sx Go.Proofs

def laws_eqInt64S.b0 (a_1 : List Int) (b_1 : List Int) : Int → Option (LR Int Bool) := fun i1 => (bif (decide (i1 < (a_1.length : Int))) then chk i1 a_1.length (chk i1 b_1.length ((bif ((gt a_1 i1) != (gt b_1 i1)) then some (.ret (false)) else some (.next (w64 (i1 + 1)))))) else some (.brk i1))

def laws_eqInt64S.f (a_1 : List Int) (b_1 : List Int) : Option Bool := (bif ((a_1.length : Int) != (b_1.length : Int)) then some false else (loop (laws_eqInt64S.b0 a_1 b_1) 0).bind (ln (fun i1 => some true)))

def laws_eqInt64S.R (r : Bool) (v : Value) (L : List Asn) : Prop := v = .bool r ∧ L = []

set_option maxRecDepth 100000 in
set_option maxHeartbeats 4000000 in
theorem laws_eqInt64S.calls (w : World) (s1 : SV) (a_1 : List Int) (s2 : SV) (b_1 : List Int) (h1 : Reads Ei (hp w) s1 a_1) (h2 : Reads Ei (hp w) s2 b_1) :
    ∀ r, laws_eqInt64S.f a_1 b_1 = some r → Calls Try.prog 18 #[SV.v s1, SV.v s2] w (Ret w (laws_eqInt64S.R r)) := by

  refine calls_T (n := 26) (Γ := [(0, SV.v s1), (1, SV.v s2)]) (R := laws_eqInt64S.R) Try.func18 rfl rfl (Nat.le_of_ble_eq_true rfl) ⟨rfl, rfl, trivial⟩ ?_
  unfold laws_eqInt64S.f
  refine TC.seq ?_
  refine TC.region ?_
  refine TL.assign rfl rfl (v := .bool false) rfl ?_
  refine TL.done ?_
  refine TC.seq ?_
  refine TC.seq ?_
  refine TC.region ?_
  refine TL.move rfl rfl (v := SV.v s1) rfl ?_
  refine TL.len (Rd.old h1) Try.underlying22 rfl rfl rfl ?_
  refine TL.move rfl rfl (v := SV.v s2) rfl ?_
  refine TL.len (Rd.old h2) Try.underlying22 rfl rfl rfl ?_
  refine TL.bin .i64 (a_1.length : Int) (b_1.length : Int) rfl rfl rfl rfl (v := .bool ((a_1.length : Int) != (b_1.length : Int))) rfl ?_
  refine TL.done ?_
  refine TC.cond (b := ((a_1.length : Int) != (b_1.length : Int))) rfl (fun c1 => ?_) (fun c2 => ?_)
  · refine TC.seq ?_
    refine TC.region ?_
    refine TL.assign rfl rfl (v := .bool false) rfl ?_
    refine TL.done ?_
    exact TC.retF (Fin.body (fin1 (.inr rfl) rfl (.tmp rfl) [] rfl ⟨rfl, rfl⟩))
  · refine TC.skip ?_
    refine TC.seq ?_
    refine TC.seq ?_
    refine TC.region ?_
    refine TL.assign rfl rfl (v := .int .i64 0) rfl ?_
    refine TL.done ?_
    refine TC.loopK (σ := Int) (γ := Unit) (Γ' := (fun i1 _ => [(0, SV.v s1), (1, SV.v s2), (5, .int .i64 i1)])) (L' := (fun i1 _ => [])) (Γb := (fun i1 _ => [(0, SV.v s1), (1, SV.v s2), (5, .int .i64 i1)])) (Lb := (fun i1 _ => [])) (0) (()) ⟨rfl, rfl, rfl, trivial⟩ [] rfl ?_ ?_
    · rintro i1 _
      refine TC.seq ?_
      refine TC.seq ?_
      refine TC.region ?_
      refine TL.move rfl rfl (v := .int .i64 i1) rfl ?_
      refine TL.move rfl rfl (v := SV.v s1) rfl ?_
      refine TL.len (Rd.old h1) Try.underlying22 rfl rfl rfl ?_
      refine TL.bin .i64 i1 (a_1.length : Int) rfl rfl rfl rfl (v := .bool (decide (i1 < (a_1.length : Int)))) rfl ?_
      refine TL.done ?_
      refine TC.cond (b := (decide (i1 < (a_1.length : Int)))) rfl (fun c3 => ?_) (fun c4 => ?_)
      · refine TC.skip ?_
        refine TC.seq ?_
        refine TC.block (NoEx.loop rfl NoEx.body) ?_
        refine TC.seq ?_
        refine TC.wk (Γ' := [(0, SV.v s1), (1, SV.v s2), (5, .int .i64 i1), (11, .int .i64 i1), (12, SV.v s1), (13, .int .i64 (a_1.length : Int)), (14, .bool (decide (i1 < (a_1.length : Int))))]) ⟨rfl, rfl, rfl, rfl, rfl, rfl, rfl, trivial⟩ ?_
        refine TC.chk fun h3 => ?_
        refine TC.chk fun h4 => ?_
        refine TC.draw [SV.v s1, .int .i64 i1, ep s1 i1.toNat, .int .i64 (gt a_1 i1), SV.v s2, .int .i64 i1, ep s2 i1.toNat, .int .i64 (gt b_1 i1), .bool ((gt a_1 i1) != (gt b_1 i1))] 9 [] (by kernel_rfl) rfl rfl rfl rfl ?_ ?_
        · refine ⟨?_, ?_, ?_, ?_, ?_, ?_, ?_, ?_, ?_, trivial⟩
          · refine TL.move rfl rfl (v := SV.v s1) rfl ?_
            refine TL.done ?_
            exact TC.nrm () () ⟨rfl, trivial⟩ [] rfl
          · refine TL.move rfl rfl (v := .int .i64 i1) rfl ?_
            refine TL.done ?_
            exact TC.nrm () () ⟨rfl, trivial⟩ [] rfl
          · refine TL.ixs i1 i1.toNat (Rd.old h1) h3 Try.underlying22 Try.sizeOf2 rfl rfl rfl rfl (by omega) ?_
            refine TL.done ?_
            exact TC.nrm () () ⟨rfl, trivial⟩ [] rfl
          · refine TL.loadE (Rd.old h1) Try.isAgg2 i1.toNat 0 (gt_spec h3) (v := .int .i64 (gt a_1 i1)) rfl (by simp only [show Ei.sz = 1 from rfl]; omega) rfl rfl rfl ?_
            refine TL.done ?_
            exact TC.nrm () () ⟨rfl, trivial⟩ [] rfl
          · refine TL.move rfl rfl (v := SV.v s2) rfl ?_
            refine TL.done ?_
            exact TC.nrm () () ⟨rfl, trivial⟩ [] rfl
          · refine TL.move rfl rfl (v := .int .i64 i1) rfl ?_
            refine TL.done ?_
            exact TC.nrm () () ⟨rfl, trivial⟩ [] rfl
          · refine TL.ixs i1 i1.toNat (Rd.old h2) h4 Try.underlying22 Try.sizeOf2 rfl rfl rfl rfl (by omega) ?_
            refine TL.done ?_
            exact TC.nrm () () ⟨rfl, trivial⟩ [] rfl
          · refine TL.loadE (Rd.old h2) Try.isAgg2 i1.toNat 0 (gt_spec h4) (v := .int .i64 (gt b_1 i1)) rfl (by simp only [show Ei.sz = 1 from rfl]; omega) rfl rfl rfl ?_
            refine TL.done ?_
            exact TC.nrm () () ⟨rfl, trivial⟩ [] rfl
          · refine TL.bin .i64 (gt a_1 i1) (gt b_1 i1) rfl rfl rfl rfl (v := .bool ((gt a_1 i1) != (gt b_1 i1))) rfl ?_
            refine TL.done ?_
            exact TC.nrm () () ⟨rfl, trivial⟩ [] rfl
        · refine TC.cond (b := ((gt a_1 i1) != (gt b_1 i1))) rfl (fun c5 => ?_) (fun c6 => ?_)
          · refine TC.seq ?_
            refine TC.region ?_
            refine TL.assign rfl rfl (v := .bool false) rfl ?_
            refine TL.done ?_
            exact TC.retF (Fin.loop Far.ret (Fin.body (fin1 (.inr rfl) rfl (.tmp rfl) [] rfl ⟨rfl, rfl⟩)))
          · refine TC.skip ?_
            refine TC.region ?_
            refine TL.move rfl rfl (v := .int .i64 i1) rfl ?_
            refine TL.bin .i64 i1 1 rfl rfl rfl rfl (v := .int .i64 (w64 (i1 + 1))) rfl ?_
            refine TL.assign rfl rfl (v := .int .i64 (w64 (i1 + 1))) rfl ?_
            refine TL.done ?_
            exact TC.next ((w64 (i1 + 1))) (()) ⟨rfl, rfl, rfl, trivial⟩ [] rfl
      · exact TC.brk (i1) (()) ⟨rfl, rfl, rfl, trivial⟩ [] rfl
    · rintro i1 _
      refine TC.seq ?_
      refine TC.region ?_
      refine TL.assign rfl rfl (v := .bool true) rfl ?_
      refine TL.done ?_
      exact TC.retF (Fin.body (fin1 (.inr rfl) rfl (.tmp rfl) [] rfl ⟨rfl, rfl⟩))

end Go.Proofs.Ytcombgcjgdkbiaa.G

/- laws.eqByteA6, as a pure function. -/
set_option linter.unusedVariables false
namespace Go.Proofs.Ytcombgcjgdkbiaa.G
open Go Go.Sx Go.Proofs

def laws_eqByteA6.b0 (a_1 : Nat → UInt8) (b_1 : Nat → UInt8) : Int → Option (LR Int Bool) := fun i1 => (bif (decide (i1 < 6)) then chk i1 6 ((bif (((a_1 i1.toNat).toNat : Int) != ((b_1 i1.toNat).toNat : Int)) then some (.ret (false)) else some (.next (w64 (i1 + 1))))) else some (.brk i1))

def laws_eqByteA6.f (a_1 : Nat → UInt8) (b_1 : Nat → UInt8) : Option Bool := (loop (laws_eqByteA6.b0 a_1 b_1) 0).bind (ln (fun i1 => some true))

def laws_eqByteA6.R (r : Bool) (v : Value) (L : List Asn) : Prop := v = .bool r ∧ L = []

set_option maxRecDepth 100000 in
set_option maxHeartbeats 4000000 in
theorem laws_eqByteA6.calls (w : World) (a_1 : Nat → UInt8) (b_1 : Nat → UInt8) :
    ∀ r, laws_eqByteA6.f a_1 b_1 = some r → Calls Try.prog 127 #[sval [.arr 6 (enf u8v a_1)], sval [.arr 6 (enf u8v b_1)]] w (Ret w (laws_eqByteA6.R r)) := by

  refine calls_T (n := 17) (Γ := [(0, sval [.arr 6 (enf u8v a_1)]), (1, sval [.arr 6 (enf u8v b_1)])]) (R := laws_eqByteA6.R) Try.func127 rfl rfl (Nat.le_of_ble_eq_true rfl) ⟨rfl, rfl, trivial⟩ ?_
  unfold laws_eqByteA6.f
  refine TC.seq ?_
  refine TC.region ?_
  refine TL.box [.arr 6 (enf u8v a_1)] rfl rfl rfl rfl fun b_2 => ?_
  refine TL.box [.arr 6 (enf u8v b_1)] rfl rfl rfl rfl fun b_3 => ?_
  refine TL.assign rfl rfl (v := .bool false) rfl ?_
  refine TL.done ?_
  refine TC.seq ?_
  refine TC.seq ?_
  refine TC.region ?_
  refine TL.assign rfl rfl (v := .int .i64 0) rfl ?_
  refine TL.done ?_
  refine TC.loopK (σ := Int) (γ := Unit) (Γ' := (fun i1 _ => [(2, bp b_2 0), (3, bp b_3 0), (5, .int .i64 i1)])) (L' := (fun i1 _ => [box b_2 32 [.arr 6 (enf u8v a_1)], box b_3 32 [.arr 6 (enf u8v b_1)]])) (Γb := (fun i1 _ => [(2, bp b_2 0), (3, bp b_3 0), (5, .int .i64 i1)])) (Lb := (fun i1 _ => [box b_2 32 [.arr 6 (enf u8v a_1)], box b_3 32 [.arr 6 (enf u8v b_1)]])) (0) (()) ⟨rfl, rfl, rfl, trivial⟩ [1, 0] rfl ?_ ?_
  · rintro i1 _
    refine TC.seq ?_
    refine TC.seq ?_
    refine TC.region ?_
    refine TL.move rfl rfl (v := .int .i64 i1) rfl ?_
    refine TL.bin .i64 i1 6 rfl rfl rfl rfl (v := .bool (decide (i1 < 6))) rfl ?_
    refine TL.done ?_
    refine TC.cond (b := (decide (i1 < 6))) rfl (fun c1 => ?_) (fun c2 => ?_)
    · refine TC.skip ?_
      refine TC.seq ?_
      refine TC.block (NoEx.loop rfl NoEx.body) ?_
      refine TC.seq ?_
      refine TC.wk (Γ' := [(2, bp b_2 0), (3, bp b_3 0), (5, .int .i64 i1), (6, .int .i64 i1), (7, .bool (decide (i1 < 6)))]) ⟨rfl, rfl, rfl, rfl, rfl, trivial⟩ ?_
      refine TC.chk fun h1 => ?_
      refine TC.draw [.int .i64 i1, bp b_2 i1.toNat, u8v (a_1 i1.toNat), .int .i64 i1, bp b_3 i1.toNat, u8v (b_1 i1.toNat), .bool (((a_1 i1.toNat).toNat : Int) != ((b_1 i1.toNat).toNat : Int))] 7 [box b_2 32 [.arr 6 (enf u8v a_1)], box b_3 32 [.arr 6 (enf u8v b_1)]] (by kernel_rfl) rfl rfl rfl rfl ?_ ?_
      · refine ⟨?_, ?_, ?_, ?_, ?_, ?_, ?_, trivial⟩
        · refine TL.move rfl rfl (v := .int .i64 i1) rfl ?_
          refine TL.done ?_
          exact TC.nrm () () ⟨rfl, trivial⟩ [0, 0] rfl
        · refine TL.ixa i1 i1.toNat h1 Try.underlying32 Try.sizeOf5 rfl rfl rfl rfl (by omega) ?_
          refine TL.done ?_
          exact TC.nrm () () ⟨rfl, trivial⟩ [0, 0] rfl
        · refine TL.loadA i1.toNat 0 (Src.box 0 rfl) Try.isAgg5 rfl (by omega) (v := u8v (a_1 i1.toNat)) rfl (st := 0) rfl (by omega) rfl rfl rfl ?_
          refine TL.done ?_
          exact TC.nrm () () ⟨rfl, trivial⟩ [0, 0] rfl
        · refine TL.move rfl rfl (v := .int .i64 i1) rfl ?_
          refine TL.done ?_
          exact TC.nrm () () ⟨rfl, trivial⟩ [0, 0] rfl
        · refine TL.ixa i1 i1.toNat h1 Try.underlying32 Try.sizeOf5 rfl rfl rfl rfl (by omega) ?_
          refine TL.done ?_
          exact TC.nrm () () ⟨rfl, trivial⟩ [0, 0] rfl
        · refine TL.loadA i1.toNat 0 (Src.box 1 rfl) Try.isAgg5 rfl (by omega) (v := u8v (b_1 i1.toNat)) rfl (st := 0) rfl (by omega) rfl rfl rfl ?_
          refine TL.done ?_
          exact TC.nrm () () ⟨rfl, trivial⟩ [0, 0] rfl
        · refine TL.bin .u8 ((a_1 i1.toNat).toNat : Int) ((b_1 i1.toNat).toNat : Int) rfl rfl rfl rfl (v := .bool (((a_1 i1.toNat).toNat : Int) != ((b_1 i1.toNat).toNat : Int))) rfl ?_
          refine TL.done ?_
          exact TC.nrm () () ⟨rfl, trivial⟩ [0, 0] rfl
      · refine TC.cond (b := (((a_1 i1.toNat).toNat : Int) != ((b_1 i1.toNat).toNat : Int))) rfl (fun c3 => ?_) (fun c4 => ?_)
        · refine TC.seq ?_
          refine TC.region ?_
          refine TL.assign rfl rfl (v := .bool false) rfl ?_
          refine TL.done ?_
          exact TC.retF (Fin.loop Far.ret (Fin.body (fin1 (.inr rfl) rfl (.tmp rfl) [] rfl ⟨rfl, rfl⟩)))
        · refine TC.skip ?_
          refine TC.region ?_
          refine TL.move rfl rfl (v := .int .i64 i1) rfl ?_
          refine TL.bin .i64 i1 1 rfl rfl rfl rfl (v := .int .i64 (w64 (i1 + 1))) rfl ?_
          refine TL.assign rfl rfl (v := .int .i64 (w64 (i1 + 1))) rfl ?_
          refine TL.done ?_
          exact TC.next ((w64 (i1 + 1))) (()) ⟨rfl, rfl, rfl, trivial⟩ [0, 0] rfl
    · exact TC.brk (i1) (()) ⟨rfl, rfl, rfl, trivial⟩ [0, 0] rfl
  · rintro i1 _
    refine TC.seq ?_
    refine TC.region ?_
    refine TL.assign rfl rfl (v := .bool true) rfl ?_
    refine TL.done ?_
    exact TC.retF (Fin.body (fin1 (.inr rfl) rfl (.tmp rfl) [] rfl ⟨rfl, rfl⟩))

end Go.Proofs.Ytcombgcjgdkbiaa.G

/- laws.eqByteA6A6, as a pure function. -/
set_option linter.unusedVariables false
namespace Go.Proofs.Ytcombgcjgdkbiaa.G
open Go Go.Sx Go.Proofs

def laws_eqByteA6A6.b0 (a_1 : Nat → UInt8) (b_1 : Nat → UInt8) : Int → Option (LR Int Bool) := fun i1 => (bif (decide (i1 < 6)) then chk i1 6 ((G.laws_eqByteA6.f (sub a_1 (i1.toNat * 6)) (sub b_1 (i1.toNat * 6))).bind (fun r_1 => (bif (!r_1) then some (.ret (false)) else some (.next (w64 (i1 + 1)))))) else some (.brk i1))

def laws_eqByteA6A6.f (a_1 : Nat → UInt8) (b_1 : Nat → UInt8) : Option Bool := (loop (laws_eqByteA6A6.b0 a_1 b_1) 0).bind (ln (fun i1 => some true))

def laws_eqByteA6A6.R (r : Bool) (v : Value) (L : List Asn) : Prop := v = .bool r ∧ L = []

set_option maxRecDepth 100000 in
set_option maxHeartbeats 4000000 in
theorem laws_eqByteA6A6.calls (w : World) (a_1 : Nat → UInt8) (b_1 : Nat → UInt8) :
    ∀ r, laws_eqByteA6A6.f a_1 b_1 = some r → Calls Try.prog 118 #[sval [.arr 36 (enf u8v a_1)], sval [.arr 36 (enf u8v b_1)]] w (Ret w (laws_eqByteA6A6.R r)) := by

  refine calls_T (n := 18) (Γ := [(0, sval [.arr 36 (enf u8v a_1)]), (1, sval [.arr 36 (enf u8v b_1)])]) (R := laws_eqByteA6A6.R) Try.func118 rfl rfl (Nat.le_of_ble_eq_true rfl) ⟨rfl, rfl, trivial⟩ ?_
  unfold laws_eqByteA6A6.f
  refine TC.seq ?_
  refine TC.region ?_
  refine TL.box [.arr 36 (enf u8v a_1)] rfl rfl rfl rfl fun b_2 => ?_
  refine TL.box [.arr 36 (enf u8v b_1)] rfl rfl rfl rfl fun b_3 => ?_
  refine TL.assign rfl rfl (v := .bool false) rfl ?_
  refine TL.done ?_
  refine TC.seq ?_
  refine TC.seq ?_
  refine TC.region ?_
  refine TL.assign rfl rfl (v := .int .i64 0) rfl ?_
  refine TL.done ?_
  refine TC.loopK (σ := Int) (γ := Unit) (Γ' := (fun i1 _ => [(2, bp b_2 0), (3, bp b_3 0), (5, .int .i64 i1)])) (L' := (fun i1 _ => [box b_2 33 [.arr 36 (enf u8v a_1)], box b_3 33 [.arr 36 (enf u8v b_1)]])) (Γb := (fun i1 _ => [(2, bp b_2 0), (3, bp b_3 0), (5, .int .i64 i1)])) (Lb := (fun i1 _ => [box b_2 33 [.arr 36 (enf u8v a_1)], box b_3 33 [.arr 36 (enf u8v b_1)]])) (0) (()) ⟨rfl, rfl, rfl, trivial⟩ [1, 0] rfl ?_ ?_
  · rintro i1 _
    refine TC.seq ?_
    refine TC.seq ?_
    refine TC.region ?_
    refine TL.move rfl rfl (v := .int .i64 i1) rfl ?_
    refine TL.bin .i64 i1 6 rfl rfl rfl rfl (v := .bool (decide (i1 < 6))) rfl ?_
    refine TL.done ?_
    refine TC.cond (b := (decide (i1 < 6))) rfl (fun c1 => ?_) (fun c2 => ?_)
    · refine TC.skip ?_
      refine TC.seq ?_
      refine TC.block (NoEx.loop rfl NoEx.body) ?_
      refine TC.seq ?_
      refine TC.wk (Γ' := [(2, bp b_2 0), (3, bp b_3 0), (5, .int .i64 i1), (6, .int .i64 i1), (7, .bool (decide (i1 < 6)))]) ⟨rfl, rfl, rfl, rfl, rfl, trivial⟩ ?_
      refine TC.chk fun h1 => ?_
      refine TC.bindE fun r_1 hr1 => ?_
      refine TC.draw [.int .i64 i1, bp b_2 (i1.toNat * 6), sval [.arr 6 (enf u8v (sub a_1 (i1.toNat * 6)))], .int .i64 i1, bp b_3 (i1.toNat * 6), sval [.arr 6 (enf u8v (sub b_1 (i1.toNat * 6)))], .bool r_1, .bool (!r_1)] 8 [box b_2 33 [.arr 36 (enf u8v a_1)], box b_3 33 [.arr 36 (enf u8v b_1)]] (by kernel_rfl) rfl rfl rfl rfl ?_ ?_
      · refine ⟨?_, ?_, ?_, ?_, ?_, ?_, ?_, ?_, trivial⟩
        · refine TL.move rfl rfl (v := .int .i64 i1) rfl ?_
          refine TL.done ?_
          exact TC.nrm () () ⟨rfl, trivial⟩ [0, 0] rfl
        · refine TL.ixa i1 (i1.toNat * 6) h1 Try.underlying33 Try.sizeOf32 rfl rfl rfl rfl (by omega) ?_
          refine TL.done ?_
          exact TC.nrm () () ⟨rfl, trivial⟩ [0, 0] rfl
        · refine TL.loadS (i1.toNat * 6) 0 (Src.box 0 rfl) Try.isAgg32 Try.sizeOf32 rfl (by omega) (v := sval [.arr 6 (enf u8v (sub a_1 (i1.toNat * 6)))]) rfl (st := 0) rfl (by omega) rfl rfl rfl ?_
          refine TL.done ?_
          exact TC.nrm () () ⟨rfl, trivial⟩ [0, 0] rfl
        · refine TL.move rfl rfl (v := .int .i64 i1) rfl ?_
          refine TL.done ?_
          exact TC.nrm () () ⟨rfl, trivial⟩ [0, 0] rfl
        · refine TL.ixa i1 (i1.toNat * 6) h1 Try.underlying33 Try.sizeOf32 rfl rfl rfl rfl (by omega) ?_
          refine TL.done ?_
          exact TC.nrm () () ⟨rfl, trivial⟩ [0, 0] rfl
        · refine TL.loadS (i1.toNat * 6) 0 (Src.box 1 rfl) Try.isAgg32 Try.sizeOf32 rfl (by omega) (v := sval [.arr 6 (enf u8v (sub b_1 (i1.toNat * 6)))]) rfl (st := 0) rfl (by omega) rfl rfl rfl ?_
          refine TL.done ?_
          exact TC.nrm () () ⟨rfl, trivial⟩ [0, 0] rfl
        · refine TL.callH (R := G.laws_eqByteA6.R) hr1 Try.call127 rfl rfl rfl (fun w hS => G.laws_eqByteA6.calls w (sub a_1 (i1.toNat * 6)) (sub b_1 (i1.toNat * 6))) ?_
          rintro _ _ ⟨rfl, rfl⟩
          refine TL.done ?_
          exact TC.nrm () () ⟨rfl, trivial⟩ [0, 0] rfl
        · refine TL.not r_1 rfl rfl rfl ?_
          refine TL.done ?_
          exact TC.nrm () () ⟨rfl, trivial⟩ [0, 0] rfl
      · refine TC.cond (b := (!r_1)) rfl (fun c3 => ?_) (fun c4 => ?_)
        · refine TC.seq ?_
          refine TC.region ?_
          refine TL.assign rfl rfl (v := .bool false) rfl ?_
          refine TL.done ?_
          exact TC.retF (Fin.loop Far.ret (Fin.body (fin1 (.inr rfl) rfl (.tmp rfl) [] rfl ⟨rfl, rfl⟩)))
        · refine TC.skip ?_
          refine TC.region ?_
          refine TL.move rfl rfl (v := .int .i64 i1) rfl ?_
          refine TL.bin .i64 i1 1 rfl rfl rfl rfl (v := .int .i64 (w64 (i1 + 1))) rfl ?_
          refine TL.assign rfl rfl (v := .int .i64 (w64 (i1 + 1))) rfl ?_
          refine TL.done ?_
          exact TC.next ((w64 (i1 + 1))) (()) ⟨rfl, rfl, rfl, trivial⟩ [0, 0] rfl
    · exact TC.brk (i1) (()) ⟨rfl, rfl, rfl, trivial⟩ [0, 0] rfl
  · rintro i1 _
    refine TC.seq ?_
    refine TC.region ?_
    refine TL.assign rfl rfl (v := .bool true) rfl ?_
    refine TL.done ?_
    exact TC.retF (Fin.body (fin1 (.inr rfl) rfl (.tmp rfl) [] rfl ⟨rfl, rfl⟩))

end Go.Proofs.Ytcombgcjgdkbiaa.G

/- laws.eqByteA6A6A6, as a pure function. -/
set_option linter.unusedVariables false
namespace Go.Proofs.Ytcombgcjgdkbiaa.G
open Go Go.Sx Go.Proofs

def laws_eqByteA6A6A6.b0 (a_1 : Nat → UInt8) (b_1 : Nat → UInt8) : Int → Option (LR Int Bool) := fun i1 => (bif (decide (i1 < 6)) then chk i1 6 ((G.laws_eqByteA6A6.f (sub a_1 (i1.toNat * 36)) (sub b_1 (i1.toNat * 36))).bind (fun r_1 => (bif (!r_1) then some (.ret (false)) else some (.next (w64 (i1 + 1)))))) else some (.brk i1))

def laws_eqByteA6A6A6.f (a_1 : Nat → UInt8) (b_1 : Nat → UInt8) : Option Bool := (loop (laws_eqByteA6A6A6.b0 a_1 b_1) 0).bind (ln (fun i1 => some true))

def laws_eqByteA6A6A6.R (r : Bool) (v : Value) (L : List Asn) : Prop := v = .bool r ∧ L = []

set_option maxRecDepth 100000 in
set_option maxHeartbeats 4000000 in
theorem laws_eqByteA6A6A6.calls (w : World) (a_1 : Nat → UInt8) (b_1 : Nat → UInt8) :
    ∀ r, laws_eqByteA6A6A6.f a_1 b_1 = some r → Calls Try.prog 83 #[sval [.arr 216 (enf u8v a_1)], sval [.arr 216 (enf u8v b_1)]] w (Ret w (laws_eqByteA6A6A6.R r)) := by

  refine calls_T (n := 18) (Γ := [(0, sval [.arr 216 (enf u8v a_1)]), (1, sval [.arr 216 (enf u8v b_1)])]) (R := laws_eqByteA6A6A6.R) Try.func83 rfl rfl (Nat.le_of_ble_eq_true rfl) ⟨rfl, rfl, trivial⟩ ?_
  unfold laws_eqByteA6A6A6.f
  refine TC.seq ?_
  refine TC.region ?_
  refine TL.box [.arr 216 (enf u8v a_1)] rfl rfl rfl rfl fun b_2 => ?_
  refine TL.box [.arr 216 (enf u8v b_1)] rfl rfl rfl rfl fun b_3 => ?_
  refine TL.assign rfl rfl (v := .bool false) rfl ?_
  refine TL.done ?_
  refine TC.seq ?_
  refine TC.seq ?_
  refine TC.region ?_
  refine TL.assign rfl rfl (v := .int .i64 0) rfl ?_
  refine TL.done ?_
  refine TC.loopK (σ := Int) (γ := Unit) (Γ' := (fun i1 _ => [(2, bp b_2 0), (3, bp b_3 0), (5, .int .i64 i1)])) (L' := (fun i1 _ => [box b_2 42 [.arr 216 (enf u8v a_1)], box b_3 42 [.arr 216 (enf u8v b_1)]])) (Γb := (fun i1 _ => [(2, bp b_2 0), (3, bp b_3 0), (5, .int .i64 i1)])) (Lb := (fun i1 _ => [box b_2 42 [.arr 216 (enf u8v a_1)], box b_3 42 [.arr 216 (enf u8v b_1)]])) (0) (()) ⟨rfl, rfl, rfl, trivial⟩ [1, 0] rfl ?_ ?_
  · rintro i1 _
    refine TC.seq ?_
    refine TC.seq ?_
    refine TC.region ?_
    refine TL.move rfl rfl (v := .int .i64 i1) rfl ?_
    refine TL.bin .i64 i1 6 rfl rfl rfl rfl (v := .bool (decide (i1 < 6))) rfl ?_
    refine TL.done ?_
    refine TC.cond (b := (decide (i1 < 6))) rfl (fun c1 => ?_) (fun c2 => ?_)
    · refine TC.skip ?_
      refine TC.seq ?_
      refine TC.block (NoEx.loop rfl NoEx.body) ?_
      refine TC.seq ?_
      refine TC.wk (Γ' := [(2, bp b_2 0), (3, bp b_3 0), (5, .int .i64 i1), (6, .int .i64 i1), (7, .bool (decide (i1 < 6)))]) ⟨rfl, rfl, rfl, rfl, rfl, trivial⟩ ?_
      refine TC.chk fun h1 => ?_
      refine TC.bindE fun r_1 hr1 => ?_
      refine TC.draw [.int .i64 i1, bp b_2 (i1.toNat * 36), sval [.arr 36 (enf u8v (sub a_1 (i1.toNat * 36)))], .int .i64 i1, bp b_3 (i1.toNat * 36), sval [.arr 36 (enf u8v (sub b_1 (i1.toNat * 36)))], .bool r_1, .bool (!r_1)] 8 [box b_2 42 [.arr 216 (enf u8v a_1)], box b_3 42 [.arr 216 (enf u8v b_1)]] (by kernel_rfl) rfl rfl rfl rfl ?_ ?_
      · refine ⟨?_, ?_, ?_, ?_, ?_, ?_, ?_, ?_, trivial⟩
        · refine TL.move rfl rfl (v := .int .i64 i1) rfl ?_
          refine TL.done ?_
          exact TC.nrm () () ⟨rfl, trivial⟩ [0, 0] rfl
        · refine TL.ixa i1 (i1.toNat * 36) h1 Try.underlying42 Try.sizeOf33 rfl rfl rfl rfl (by omega) ?_
          refine TL.done ?_
          exact TC.nrm () () ⟨rfl, trivial⟩ [0, 0] rfl
        · refine TL.loadS (i1.toNat * 36) 0 (Src.box 0 rfl) Try.isAgg33 Try.sizeOf33 rfl (by omega) (v := sval [.arr 36 (enf u8v (sub a_1 (i1.toNat * 36)))]) rfl (st := 0) rfl (by omega) rfl rfl rfl ?_
          refine TL.done ?_
          exact TC.nrm () () ⟨rfl, trivial⟩ [0, 0] rfl
        · refine TL.move rfl rfl (v := .int .i64 i1) rfl ?_
          refine TL.done ?_
          exact TC.nrm () () ⟨rfl, trivial⟩ [0, 0] rfl
        · refine TL.ixa i1 (i1.toNat * 36) h1 Try.underlying42 Try.sizeOf33 rfl rfl rfl rfl (by omega) ?_
          refine TL.done ?_
          exact TC.nrm () () ⟨rfl, trivial⟩ [0, 0] rfl
        · refine TL.loadS (i1.toNat * 36) 0 (Src.box 1 rfl) Try.isAgg33 Try.sizeOf33 rfl (by omega) (v := sval [.arr 36 (enf u8v (sub b_1 (i1.toNat * 36)))]) rfl (st := 0) rfl (by omega) rfl rfl rfl ?_
          refine TL.done ?_
          exact TC.nrm () () ⟨rfl, trivial⟩ [0, 0] rfl
        · refine TL.callH (R := G.laws_eqByteA6A6.R) hr1 Try.call118 rfl rfl rfl (fun w hS => G.laws_eqByteA6A6.calls w (sub a_1 (i1.toNat * 36)) (sub b_1 (i1.toNat * 36))) ?_
          rintro _ _ ⟨rfl, rfl⟩
          refine TL.done ?_
          exact TC.nrm () () ⟨rfl, trivial⟩ [0, 0] rfl
        · refine TL.not r_1 rfl rfl rfl ?_
          refine TL.done ?_
          exact TC.nrm () () ⟨rfl, trivial⟩ [0, 0] rfl
      · refine TC.cond (b := (!r_1)) rfl (fun c3 => ?_) (fun c4 => ?_)
        · refine TC.seq ?_
          refine TC.region ?_
          refine TL.assign rfl rfl (v := .bool false) rfl ?_
          refine TL.done ?_
          exact TC.retF (Fin.loop Far.ret (Fin.body (fin1 (.inr rfl) rfl (.tmp rfl) [] rfl ⟨rfl, rfl⟩)))
        · refine TC.skip ?_
          refine TC.region ?_
          refine TL.move rfl rfl (v := .int .i64 i1) rfl ?_
          refine TL.bin .i64 i1 1 rfl rfl rfl rfl (v := .int .i64 (w64 (i1 + 1))) rfl ?_
          refine TL.assign rfl rfl (v := .int .i64 (w64 (i1 + 1))) rfl ?_
          refine TL.done ?_
          exact TC.next ((w64 (i1 + 1))) (()) ⟨rfl, rfl, rfl, trivial⟩ [0, 0] rfl
    · exact TC.brk (i1) (()) ⟨rfl, rfl, rfl, trivial⟩ [0, 0] rfl
  · rintro i1 _
    refine TC.seq ?_
    refine TC.region ?_
    refine TL.assign rfl rfl (v := .bool true) rfl ?_
    refine TL.done ?_
    exact TC.retF (Fin.body (fin1 (.inr rfl) rfl (.tmp rfl) [] rfl ⟨rfl, rfl⟩))

end Go.Proofs.Ytcombgcjgdkbiaa.G

/- laws.eqVector, as a pure function. -/
set_option linter.unusedVariables false
namespace Go.Proofs.Ytcombgcjgdkbiaa.G
open Go Go.Sx Go.Proofs

def laws_eqVector.b0 (a_1 : Nat → UInt8) (b_1 : Nat → UInt8) : Int → Option (LR Int Bool) := fun i1 => (bif (decide (i1 < 6)) then chk i1 6 ((bif (((a_1 i1.toNat).toNat : Int) != ((b_1 i1.toNat).toNat : Int)) then some (.ret (false)) else some (.next (w64 (i1 + 1))))) else some (.brk i1))

def laws_eqVector.f (a_1 : Nat → UInt8) (b_1 : Nat → UInt8) : Option Bool := (loop (laws_eqVector.b0 a_1 b_1) 0).bind (ln (fun i1 => some true))

def laws_eqVector.R (r : Bool) (v : Value) (L : List Asn) : Prop := v = .bool r ∧ L = []

set_option maxRecDepth 100000 in
set_option maxHeartbeats 4000000 in
theorem laws_eqVector.calls (w : World) (a_1 : Nat → UInt8) (b_1 : Nat → UInt8) :
    ∀ r, laws_eqVector.f a_1 b_1 = some r → Calls Try.prog 84 #[sval [.arr 6 (enf u8v a_1)], sval [.arr 6 (enf u8v b_1)]] w (Ret w (laws_eqVector.R r)) := by

  refine calls_T (n := 17) (Γ := [(0, sval [.arr 6 (enf u8v a_1)]), (1, sval [.arr 6 (enf u8v b_1)])]) (R := laws_eqVector.R) Try.func84 rfl rfl (Nat.le_of_ble_eq_true rfl) ⟨rfl, rfl, trivial⟩ ?_
  unfold laws_eqVector.f
  refine TC.seq ?_
  refine TC.region ?_
  refine TL.box [.arr 6 (enf u8v a_1)] rfl rfl rfl rfl fun b_2 => ?_
  refine TL.box [.arr 6 (enf u8v b_1)] rfl rfl rfl rfl fun b_3 => ?_
  refine TL.assign rfl rfl (v := .bool false) rfl ?_
  refine TL.done ?_
  refine TC.seq ?_
  refine TC.seq ?_
  refine TC.region ?_
  refine TL.assign rfl rfl (v := .int .i64 0) rfl ?_
  refine TL.done ?_
  refine TC.loopK (σ := Int) (γ := Unit) (Γ' := (fun i1 _ => [(2, bp b_2 0), (3, bp b_3 0), (5, .int .i64 i1)])) (L' := (fun i1 _ => [box b_2 43 [.arr 6 (enf u8v a_1)], box b_3 43 [.arr 6 (enf u8v b_1)]])) (Γb := (fun i1 _ => [(2, bp b_2 0), (3, bp b_3 0), (5, .int .i64 i1)])) (Lb := (fun i1 _ => [box b_2 43 [.arr 6 (enf u8v a_1)], box b_3 43 [.arr 6 (enf u8v b_1)]])) (0) (()) ⟨rfl, rfl, rfl, trivial⟩ [1, 0] rfl ?_ ?_
  · rintro i1 _
    refine TC.seq ?_
    refine TC.seq ?_
    refine TC.region ?_
    refine TL.move rfl rfl (v := .int .i64 i1) rfl ?_
    refine TL.bin .i64 i1 6 rfl rfl rfl rfl (v := .bool (decide (i1 < 6))) rfl ?_
    refine TL.done ?_
    refine TC.cond (b := (decide (i1 < 6))) rfl (fun c1 => ?_) (fun c2 => ?_)
    · refine TC.skip ?_
      refine TC.seq ?_
      refine TC.block (NoEx.loop rfl NoEx.body) ?_
      refine TC.seq ?_
      refine TC.wk (Γ' := [(2, bp b_2 0), (3, bp b_3 0), (5, .int .i64 i1), (6, .int .i64 i1), (7, .bool (decide (i1 < 6)))]) ⟨rfl, rfl, rfl, rfl, rfl, trivial⟩ ?_
      refine TC.chk fun h1 => ?_
      refine TC.draw [.int .i64 i1, bp b_2 i1.toNat, u8v (a_1 i1.toNat), .int .i64 i1, bp b_3 i1.toNat, u8v (b_1 i1.toNat), .bool (((a_1 i1.toNat).toNat : Int) != ((b_1 i1.toNat).toNat : Int))] 7 [box b_2 43 [.arr 6 (enf u8v a_1)], box b_3 43 [.arr 6 (enf u8v b_1)]] (by kernel_rfl) rfl rfl rfl rfl ?_ ?_
      · refine ⟨?_, ?_, ?_, ?_, ?_, ?_, ?_, trivial⟩
        · refine TL.move rfl rfl (v := .int .i64 i1) rfl ?_
          refine TL.done ?_
          exact TC.nrm () () ⟨rfl, trivial⟩ [0, 0] rfl
        · refine TL.ixa i1 i1.toNat h1 Try.underlying43 Try.sizeOf5 rfl rfl rfl rfl (by omega) ?_
          refine TL.done ?_
          exact TC.nrm () () ⟨rfl, trivial⟩ [0, 0] rfl
        · refine TL.loadA i1.toNat 0 (Src.box 0 rfl) Try.isAgg5 rfl (by omega) (v := u8v (a_1 i1.toNat)) rfl (st := 0) rfl (by omega) rfl rfl rfl ?_
          refine TL.done ?_
          exact TC.nrm () () ⟨rfl, trivial⟩ [0, 0] rfl
        · refine TL.move rfl rfl (v := .int .i64 i1) rfl ?_
          refine TL.done ?_
          exact TC.nrm () () ⟨rfl, trivial⟩ [0, 0] rfl
        · refine TL.ixa i1 i1.toNat h1 Try.underlying43 Try.sizeOf5 rfl rfl rfl rfl (by omega) ?_
          refine TL.done ?_
          exact TC.nrm () () ⟨rfl, trivial⟩ [0, 0] rfl
        · refine TL.loadA i1.toNat 0 (Src.box 1 rfl) Try.isAgg5 rfl (by omega) (v := u8v (b_1 i1.toNat)) rfl (st := 0) rfl (by omega) rfl rfl rfl ?_
          refine TL.done ?_
          exact TC.nrm () () ⟨rfl, trivial⟩ [0, 0] rfl
        · refine TL.bin .u8 ((a_1 i1.toNat).toNat : Int) ((b_1 i1.toNat).toNat : Int) rfl rfl rfl rfl (v := .bool (((a_1 i1.toNat).toNat : Int) != ((b_1 i1.toNat).toNat : Int))) rfl ?_
          refine TL.done ?_
          exact TC.nrm () () ⟨rfl, trivial⟩ [0, 0] rfl
      · refine TC.cond (b := (((a_1 i1.toNat).toNat : Int) != ((b_1 i1.toNat).toNat : Int))) rfl (fun c3 => ?_) (fun c4 => ?_)
        · refine TC.seq ?_
          refine TC.region ?_
          refine TL.assign rfl rfl (v := .bool false) rfl ?_
          refine TL.done ?_
          exact TC.retF (Fin.loop Far.ret (Fin.body (fin1 (.inr rfl) rfl (.tmp rfl) [] rfl ⟨rfl, rfl⟩)))
        · refine TC.skip ?_
          refine TC.region ?_
          refine TL.move rfl rfl (v := .int .i64 i1) rfl ?_
          refine TL.bin .i64 i1 1 rfl rfl rfl rfl (v := .int .i64 (w64 (i1 + 1))) rfl ?_
          refine TL.assign rfl rfl (v := .int .i64 (w64 (i1 + 1))) rfl ?_
          refine TL.done ?_
          exact TC.next ((w64 (i1 + 1))) (()) ⟨rfl, rfl, rfl, trivial⟩ [0, 0] rfl
    · exact TC.brk (i1) (()) ⟨rfl, rfl, rfl, trivial⟩ [0, 0] rfl
  · rintro i1 _
    refine TC.seq ?_
    refine TC.region ?_
    refine TL.assign rfl rfl (v := .bool true) rfl ?_
    refine TL.done ?_
    exact TC.retF (Fin.body (fin1 (.inr rfl) rfl (.tmp rfl) [] rfl ⟨rfl, rfl⟩))

end Go.Proofs.Ytcombgcjgdkbiaa.G

/- laws.eqAlgebra, as a pure function. -/
set_option linter.unusedVariables false
namespace Go.Proofs.Ytcombgcjgdkbiaa.G
open Go Go.Sx Go.Proofs

def laws_eqAlgebra.f (a_1 : Int) (a_2 : Int) (a_3 : Nat → UInt8) (a_4 : Nat → UInt8) (b_1 : Int) (b_2 : Int) (b_3 : Nat → UInt8) (b_4 : Nat → UInt8) : Option Bool := (bif (a_1 != b_1) then some false else (bif (a_2 != b_2) then some false else (G.laws_eqByteA6A6A6.f a_3 b_3).bind (fun r_1 => (bif (!r_1) then some false else (G.laws_eqVector.f a_4 b_4).bind (fun r_2 => (bif (!r_2) then some false else some true))))))

def laws_eqAlgebra.R (r : Bool) (v : Value) (L : List Asn) : Prop := v = .bool r ∧ L = []

set_option maxRecDepth 100000 in
set_option maxHeartbeats 4000000 in
theorem laws_eqAlgebra.calls (w : World) (a_1 : Int) (a_2 : Int) (a_3 : Nat → UInt8) (a_4 : Nat → UInt8) (b_1 : Int) (b_2 : Int) (b_3 : Nat → UInt8) (b_4 : Nat → UInt8) :
    ∀ r, laws_eqAlgebra.f a_1 a_2 a_3 a_4 b_1 b_2 b_3 b_4 = some r → Calls Try.prog 32 #[sval [.one (.int .i64 a_1), .one (.int .i64 a_2), .arr 216 (enf u8v a_3), .arr 6 (enf u8v a_4)], sval [.one (.int .i64 b_1), .one (.int .i64 b_2), .arr 216 (enf u8v b_3), .arr 6 (enf u8v b_4)]] w (Ret w (laws_eqAlgebra.R r)) := by

  refine calls_T (n := 27) (Γ := [(0, sval [.one (.int .i64 a_1), .one (.int .i64 a_2), .arr 216 (enf u8v a_3), .arr 6 (enf u8v a_4)]), (1, sval [.one (.int .i64 b_1), .one (.int .i64 b_2), .arr 216 (enf u8v b_3), .arr 6 (enf u8v b_4)])]) (R := laws_eqAlgebra.R) Try.func32 rfl rfl (Nat.le_of_ble_eq_true rfl) ⟨rfl, rfl, trivial⟩ ?_
  unfold laws_eqAlgebra.f
  refine TC.seq ?_
  refine TC.region ?_
  refine TL.box [.one (.int .i64 a_1), .one (.int .i64 a_2), .arr 216 (enf u8v a_3), .arr 6 (enf u8v a_4)] rfl rfl rfl rfl fun b_5 => ?_
  refine TL.box [.one (.int .i64 b_1), .one (.int .i64 b_2), .arr 216 (enf u8v b_3), .arr 6 (enf u8v b_4)] rfl rfl rfl rfl fun b_6 => ?_
  refine TL.assign rfl rfl (v := .bool false) rfl ?_
  refine TL.done ?_
  refine TC.seq ?_
  refine TC.seq ?_
  refine TC.region ?_
  refine TL.fa Try.underlying45 rfl Try.sizeOf2 rfl 0 rfl rfl rfl rfl ?_
  refine TL.load1 0 (Src.box 1 rfl) Try.isAgg2 rfl rfl rfl rfl rfl ?_
  refine TL.fa Try.underlying45 rfl Try.sizeOf2 rfl 0 rfl rfl rfl rfl ?_
  refine TL.load1 0 (Src.box 0 rfl) Try.isAgg2 rfl rfl rfl rfl rfl ?_
  refine TL.bin .i64 a_1 b_1 rfl rfl rfl rfl (v := .bool (a_1 != b_1)) rfl ?_
  refine TL.done ?_
  refine TC.cond (b := (a_1 != b_1)) rfl (fun c1 => ?_) (fun c2 => ?_)
  · refine TC.seq ?_
    refine TC.region ?_
    refine TL.assign rfl rfl (v := .bool false) rfl ?_
    refine TL.done ?_
    exact TC.retF (Fin.body (fin1 (.inr rfl) rfl (.tmp rfl) [] rfl ⟨rfl, rfl⟩))
  · refine TC.skip ?_
    refine TC.seq ?_
    refine TC.seq ?_
    refine TC.region ?_
    refine TL.fa Try.underlying45 rfl Try.sizeOf2 rfl 1 rfl rfl rfl rfl ?_
    refine TL.load1 1 (Src.box 1 rfl) Try.isAgg2 rfl rfl rfl rfl rfl ?_
    refine TL.fa Try.underlying45 rfl Try.sizeOf2 rfl 1 rfl rfl rfl rfl ?_
    refine TL.load1 1 (Src.box 0 rfl) Try.isAgg2 rfl rfl rfl rfl rfl ?_
    refine TL.bin .i64 a_2 b_2 rfl rfl rfl rfl (v := .bool (a_2 != b_2)) rfl ?_
    refine TL.done ?_
    refine TC.cond (b := (a_2 != b_2)) rfl (fun c3 => ?_) (fun c4 => ?_)
    · refine TC.seq ?_
      refine TC.region ?_
      refine TL.assign rfl rfl (v := .bool false) rfl ?_
      refine TL.done ?_
      exact TC.retF (Fin.body (fin1 (.inr rfl) rfl (.tmp rfl) [] rfl ⟨rfl, rfl⟩))
    · refine TC.skip ?_
      refine TC.seq ?_
      refine TC.seq ?_
      refine TC.region ?_
      refine TL.fa Try.underlying45 rfl Try.sizeOf42 rfl 2 rfl rfl rfl rfl ?_
      refine TL.loadM 2 1 (Src.box 1 rfl) Try.isAgg42 Try.sizeOf42 (mid := [.arr 216 (enf u8v a_3)]) rfl rfl rfl rfl rfl rfl ?_
      refine TL.fa Try.underlying45 rfl Try.sizeOf42 rfl 2 rfl rfl rfl rfl ?_
      refine TL.loadM 2 1 (Src.box 0 rfl) Try.isAgg42 Try.sizeOf42 (mid := [.arr 216 (enf u8v b_3)]) rfl rfl rfl rfl rfl rfl ?_
      refine TL.call (R := G.laws_eqByteA6A6A6.R) Try.call83 rfl rfl rfl (fun w hS => G.laws_eqByteA6A6A6.calls w a_3 b_3) ?_
      rintro r_1 _ _ ⟨rfl, rfl⟩
      refine TL.not r_1 rfl rfl rfl ?_
      refine TL.done ?_
      refine TC.cond (b := (!r_1)) rfl (fun c5 => ?_) (fun c6 => ?_)
      · refine TC.seq ?_
        refine TC.region ?_
        refine TL.assign rfl rfl (v := .bool false) rfl ?_
        refine TL.done ?_
        exact TC.retF (Fin.body (fin1 (.inr rfl) rfl (.tmp rfl) [] rfl ⟨rfl, rfl⟩))
      · refine TC.skip ?_
        refine TC.seq ?_
        refine TC.seq ?_
        refine TC.region ?_
        refine TL.fa Try.underlying45 rfl Try.sizeOf43 rfl 218 rfl rfl rfl rfl ?_
        refine TL.loadM 3 1 (Src.box 1 rfl) Try.isAgg43 Try.sizeOf43 (mid := [.arr 6 (enf u8v a_4)]) rfl rfl rfl rfl rfl rfl ?_
        refine TL.fa Try.underlying45 rfl Try.sizeOf43 rfl 218 rfl rfl rfl rfl ?_
        refine TL.loadM 3 1 (Src.box 0 rfl) Try.isAgg43 Try.sizeOf43 (mid := [.arr 6 (enf u8v b_4)]) rfl rfl rfl rfl rfl rfl ?_
        refine TL.call (R := G.laws_eqVector.R) Try.call84 rfl rfl rfl (fun w hS => G.laws_eqVector.calls w a_4 b_4) ?_
        rintro r_2 _ _ ⟨rfl, rfl⟩
        refine TL.not r_2 rfl rfl rfl ?_
        refine TL.done ?_
        refine TC.cond (b := (!r_2)) rfl (fun c7 => ?_) (fun c8 => ?_)
        · refine TC.seq ?_
          refine TC.region ?_
          refine TL.assign rfl rfl (v := .bool false) rfl ?_
          refine TL.done ?_
          exact TC.retF (Fin.body (fin1 (.inr rfl) rfl (.tmp rfl) [] rfl ⟨rfl, rfl⟩))
        · refine TC.skip ?_
          refine TC.seq ?_
          refine TC.region ?_
          refine TL.assign rfl rfl (v := .bool true) rfl ?_
          refine TL.done ?_
          exact TC.retF (Fin.body (fin1 (.inr rfl) rfl (.tmp rfl) [] rfl ⟨rfl, rfl⟩))

end Go.Proofs.Ytcombgcjgdkbiaa.G

/- spec.l01In, as a pure function. -/
set_option linter.unusedVariables false
namespace Go.Proofs.Ytcombgcjgdkbiaa.G
open Go Go.Sx Go.Proofs

def spec_l01In.f (n_1 : Int) (low1 : Int) (high1 : Int) : Option Bool := some ((decide (n_1 ≥ low1)) && (decide (n_1 ≤ high1)))

def spec_l01In.R (r : Bool) (v : Value) (L : List Asn) : Prop := v = .bool r ∧ L = []

set_option maxRecDepth 100000 in
set_option maxHeartbeats 4000000 in
theorem spec_l01In.calls (w : World) (n_1 : Int) (low1 : Int) (high1 : Int) :
    ∀ r, spec_l01In.f n_1 low1 high1 = some r → Calls Try.prog 54 #[.int .i64 n_1, .int .i64 low1, .int .i64 high1] w (Ret w (spec_l01In.R r)) := by

  refine calls_T (n := 15) (Γ := [(0, .int .i64 n_1), (1, .int .i64 low1), (2, .int .i64 high1)]) (R := spec_l01In.R) Try.func54 rfl rfl (Nat.le_of_ble_eq_true rfl) ⟨rfl, rfl, rfl, trivial⟩ ?_
  unfold spec_l01In.f
  refine TC.seq ?_
  refine TC.region ?_
  refine TL.assign rfl rfl (v := .bool false) rfl ?_
  refine TL.done ?_
  refine TC.seq ?_
  refine TC.region ?_
  refine TL.move rfl rfl (v := .int .i64 n_1) rfl ?_
  refine TL.move rfl rfl (v := .int .i64 low1) rfl ?_
  refine TL.bin .i64 n_1 low1 rfl rfl rfl rfl (v := .bool (decide (n_1 ≥ low1))) rfl ?_
  refine TL.move rfl rfl (v := .bool (decide (n_1 ≥ low1))) rfl ?_
  refine TL.cutU 4 [(14, .bool ((decide (n_1 ≥ low1)) && (decide (n_1 ≤ high1)))), (0, .int .i64 n_1), (1, .int .i64 low1), (2, .int .i64 high1), (6, .bool false), (7, .int .i64 n_1), (8, .int .i64 low1), (9, .bool (decide (n_1 ≥ low1))), (10, .bool (decide (n_1 ≥ low1)))] [] ?_ ?_
  · refine TL.cases (t := 10) (b := (decide (n_1 ≥ low1))) rfl (fun c1 => ?_) (fun c2 => ?_)
    · refine TL.move rfl rfl (v := .int .i64 n_1) rfl ?_
      refine TL.move rfl rfl (v := .int .i64 high1) rfl ?_
      refine TL.bin .i64 n_1 high1 rfl rfl rfl rfl (v := .bool (decide (n_1 ≤ high1))) rfl ?_
      refine TL.pick rfl rfl (b := true) rfl (r := .bool (decide (n_1 ≤ high1))) rfl ?_
      refine TL.done ?_
      exact TC.nrm () () ⟨(by rw [c1]; rfl), rfl, rfl, rfl, rfl, rfl, rfl, rfl, (by rw [c1]; rfl), trivial⟩ [] rfl
    · refine TL.skip rfl rfl (by decide) ?_
      refine TL.skip rfl rfl (by decide) ?_
      refine TL.skip rfl rfl (by decide) ?_
      refine TL.pick rfl rfl (b := false) rfl (r := .bool false) rfl ?_
      refine TL.done ?_
      exact TC.nrm () () ⟨(by rw [c2]; rfl), rfl, rfl, rfl, rfl, rfl, rfl, rfl, (by rw [c2]; rfl), trivial⟩ [] rfl
  · refine TL.assign rfl rfl (v := .bool ((decide (n_1 ≥ low1)) && (decide (n_1 ≤ high1)))) rfl ?_
    refine TL.done ?_
    exact TC.retF (Fin.body (fin1 (.inr rfl) rfl (.tmp rfl) [] rfl ⟨rfl, rfl⟩))

end Go.Proofs.Ytcombgcjgdkbiaa.G

/- spec.l01Prime, as a pure function. -/
set_option linter.unusedVariables false
namespace Go.Proofs.Ytcombgcjgdkbiaa.G
open Go Go.Sx Go.Proofs

def spec_l01Prime.f (p1 : Int) : Option Bool := some ((((((p1 == 2) || (p1 == 3)) || (p1 == 5)) || (p1 == 7)) || (p1 == 11)) || (p1 == 13))

def spec_l01Prime.R (r : Bool) (v : Value) (L : List Asn) : Prop := v = .bool r ∧ L = []

set_option maxRecDepth 100000 in
set_option maxHeartbeats 4000000 in
theorem spec_l01Prime.calls (w : World) (p1 : Int) :
    ∀ r, spec_l01Prime.f p1 = some r → Calls Try.prog 73 #[.int .i64 p1] w (Ret w (spec_l01Prime.R r)) := by

  refine calls_T (n := 25) (Γ := [(0, .int .i64 p1)]) (R := spec_l01Prime.R) Try.func73 rfl rfl (Nat.le_of_ble_eq_true rfl) ⟨rfl, trivial⟩ ?_
  unfold spec_l01Prime.f
  refine TC.seq ?_
  refine TC.region ?_
  refine TL.assign rfl rfl (v := .bool false) rfl ?_
  refine TL.done ?_
  refine TC.seq ?_
  refine TC.region ?_
  refine TL.move rfl rfl (v := .int .i64 p1) rfl ?_
  refine TL.bin .i64 p1 2 rfl rfl rfl rfl (v := .bool (p1 == 2)) rfl ?_
  refine TL.move rfl rfl (v := .bool (p1 == 2)) rfl ?_
  refine TL.cutU 3 [(8, .bool ((p1 == 2) || (p1 == 3))), (0, .int .i64 p1), (2, .bool false), (3, .int .i64 p1), (4, .bool (p1 == 2)), (5, .bool (p1 == 2))] [] ?_ ?_
  · refine TL.cases (t := 5) (b := (p1 == 2)) rfl (fun c1 => ?_) (fun c2 => ?_)
    · refine TL.skip rfl rfl (by decide) ?_
      refine TL.skip rfl rfl (by decide) ?_
      refine TL.pick rfl rfl (b := true) rfl (r := .bool true) rfl ?_
      refine TL.done ?_
      exact TC.nrm () () ⟨(by rw [c1]; rfl), rfl, rfl, rfl, rfl, (by rw [c1]; rfl), trivial⟩ [] rfl
    · refine TL.move rfl rfl (v := .int .i64 p1) rfl ?_
      refine TL.bin .i64 p1 3 rfl rfl rfl rfl (v := .bool (p1 == 3)) rfl ?_
      refine TL.pick rfl rfl (b := false) rfl (r := .bool (p1 == 3)) rfl ?_
      refine TL.done ?_
      exact TC.nrm () () ⟨(by rw [c2]; rfl), rfl, rfl, rfl, rfl, (by rw [c2]; rfl), trivial⟩ [] rfl
  · refine TL.move rfl rfl (v := .bool ((p1 == 2) || (p1 == 3))) rfl ?_
    refine TL.cutU 3 [(12, .bool (((p1 == 2) || (p1 == 3)) || (p1 == 5))), (0, .int .i64 p1), (2, .bool false), (3, .int .i64 p1), (4, .bool (p1 == 2)), (5, .bool (p1 == 2)), (8, .bool ((p1 == 2) || (p1 == 3))), (9, .bool ((p1 == 2) || (p1 == 3)))] [] ?_ ?_
    · refine TL.cases (t := 9) (b := ((p1 == 2) || (p1 == 3))) rfl (fun c3 => ?_) (fun c4 => ?_)
      · refine TL.skip rfl rfl (by decide) ?_
        refine TL.skip rfl rfl (by decide) ?_
        refine TL.pick rfl rfl (b := true) rfl (r := .bool true) rfl ?_
        refine TL.done ?_
        exact TC.nrm () () ⟨(by rw [c3]; rfl), rfl, rfl, rfl, rfl, rfl, rfl, (by rw [c3]; rfl), trivial⟩ [] rfl
      · refine TL.move rfl rfl (v := .int .i64 p1) rfl ?_
        refine TL.bin .i64 p1 5 rfl rfl rfl rfl (v := .bool (p1 == 5)) rfl ?_
        refine TL.pick rfl rfl (b := false) rfl (r := .bool (p1 == 5)) rfl ?_
        refine TL.done ?_
        exact TC.nrm () () ⟨(by rw [c4]; rfl), rfl, rfl, rfl, rfl, rfl, rfl, (by rw [c4]; rfl), trivial⟩ [] rfl
    · refine TL.move rfl rfl (v := .bool (((p1 == 2) || (p1 == 3)) || (p1 == 5))) rfl ?_
      refine TL.cutU 3 [(16, .bool ((((p1 == 2) || (p1 == 3)) || (p1 == 5)) || (p1 == 7))), (0, .int .i64 p1), (2, .bool false), (3, .int .i64 p1), (4, .bool (p1 == 2)), (5, .bool (p1 == 2)), (8, .bool ((p1 == 2) || (p1 == 3))), (9, .bool ((p1 == 2) || (p1 == 3))), (12, .bool (((p1 == 2) || (p1 == 3)) || (p1 == 5))), (13, .bool (((p1 == 2) || (p1 == 3)) || (p1 == 5)))] [] ?_ ?_
      · refine TL.cases (t := 13) (b := (((p1 == 2) || (p1 == 3)) || (p1 == 5))) rfl (fun c5 => ?_) (fun c6 => ?_)
        · refine TL.skip rfl rfl (by decide) ?_
          refine TL.skip rfl rfl (by decide) ?_
          refine TL.pick rfl rfl (b := true) rfl (r := .bool true) rfl ?_
          refine TL.done ?_
          exact TC.nrm () () ⟨(by rw [c5]; rfl), rfl, rfl, rfl, rfl, rfl, rfl, rfl, rfl, (by rw [c5]; rfl), trivial⟩ [] rfl
        · refine TL.move rfl rfl (v := .int .i64 p1) rfl ?_
          refine TL.bin .i64 p1 7 rfl rfl rfl rfl (v := .bool (p1 == 7)) rfl ?_
          refine TL.pick rfl rfl (b := false) rfl (r := .bool (p1 == 7)) rfl ?_
          refine TL.done ?_
          exact TC.nrm () () ⟨(by rw [c6]; rfl), rfl, rfl, rfl, rfl, rfl, rfl, rfl, rfl, (by rw [c6]; rfl), trivial⟩ [] rfl
      · refine TL.move rfl rfl (v := .bool ((((p1 == 2) || (p1 == 3)) || (p1 == 5)) || (p1 == 7))) rfl ?_
        refine TL.cutU 3 [(20, .bool (((((p1 == 2) || (p1 == 3)) || (p1 == 5)) || (p1 == 7)) || (p1 == 11))), (0, .int .i64 p1), (2, .bool false), (3, .int .i64 p1), (4, .bool (p1 == 2)), (5, .bool (p1 == 2)), (8, .bool ((p1 == 2) || (p1 == 3))), (9, .bool ((p1 == 2) || (p1 == 3))), (12, .bool (((p1 == 2) || (p1 == 3)) || (p1 == 5))), (13, .bool (((p1 == 2) || (p1 == 3)) || (p1 == 5))), (16, .bool ((((p1 == 2) || (p1 == 3)) || (p1 == 5)) || (p1 == 7))), (17, .bool ((((p1 == 2) || (p1 == 3)) || (p1 == 5)) || (p1 == 7)))] [] ?_ ?_
        · refine TL.cases (t := 17) (b := ((((p1 == 2) || (p1 == 3)) || (p1 == 5)) || (p1 == 7))) rfl (fun c7 => ?_) (fun c8 => ?_)
          · refine TL.skip rfl rfl (by decide) ?_
            refine TL.skip rfl rfl (by decide) ?_
            refine TL.pick rfl rfl (b := true) rfl (r := .bool true) rfl ?_
            refine TL.done ?_
            exact TC.nrm () () ⟨(by rw [c7]; rfl), rfl, rfl, rfl, rfl, rfl, rfl, rfl, rfl, rfl, rfl, (by rw [c7]; rfl), trivial⟩ [] rfl
          · refine TL.move rfl rfl (v := .int .i64 p1) rfl ?_
            refine TL.bin .i64 p1 11 rfl rfl rfl rfl (v := .bool (p1 == 11)) rfl ?_
            refine TL.pick rfl rfl (b := false) rfl (r := .bool (p1 == 11)) rfl ?_
            refine TL.done ?_
            exact TC.nrm () () ⟨(by rw [c8]; rfl), rfl, rfl, rfl, rfl, rfl, rfl, rfl, rfl, rfl, rfl, (by rw [c8]; rfl), trivial⟩ [] rfl
        · refine TL.move rfl rfl (v := .bool (((((p1 == 2) || (p1 == 3)) || (p1 == 5)) || (p1 == 7)) || (p1 == 11))) rfl ?_
          refine TL.cutU 3 [(24, .bool ((((((p1 == 2) || (p1 == 3)) || (p1 == 5)) || (p1 == 7)) || (p1 == 11)) || (p1 == 13))), (0, .int .i64 p1), (2, .bool false), (3, .int .i64 p1), (4, .bool (p1 == 2)), (5, .bool (p1 == 2)), (8, .bool ((p1 == 2) || (p1 == 3))), (9, .bool ((p1 == 2) || (p1 == 3))), (12, .bool (((p1 == 2) || (p1 == 3)) || (p1 == 5))), (13, .bool (((p1 == 2) || (p1 == 3)) || (p1 == 5))), (16, .bool ((((p1 == 2) || (p1 == 3)) || (p1 == 5)) || (p1 == 7))), (17, .bool ((((p1 == 2) || (p1 == 3)) || (p1 == 5)) || (p1 == 7))), (20, .bool (((((p1 == 2) || (p1 == 3)) || (p1 == 5)) || (p1 == 7)) || (p1 == 11))), (21, .bool (((((p1 == 2) || (p1 == 3)) || (p1 == 5)) || (p1 == 7)) || (p1 == 11)))] [] ?_ ?_
          · refine TL.cases (t := 21) (b := (((((p1 == 2) || (p1 == 3)) || (p1 == 5)) || (p1 == 7)) || (p1 == 11))) rfl (fun c9 => ?_) (fun c10 => ?_)
            · refine TL.skip rfl rfl (by decide) ?_
              refine TL.skip rfl rfl (by decide) ?_
              refine TL.pick rfl rfl (b := true) rfl (r := .bool true) rfl ?_
              refine TL.done ?_
              exact TC.nrm () () ⟨(by rw [c9]; rfl), rfl, rfl, rfl, rfl, rfl, rfl, rfl, rfl, rfl, rfl, rfl, rfl, (by rw [c9]; rfl), trivial⟩ [] rfl
            · refine TL.move rfl rfl (v := .int .i64 p1) rfl ?_
              refine TL.bin .i64 p1 13 rfl rfl rfl rfl (v := .bool (p1 == 13)) rfl ?_
              refine TL.pick rfl rfl (b := false) rfl (r := .bool (p1 == 13)) rfl ?_
              refine TL.done ?_
              exact TC.nrm () () ⟨(by rw [c10]; rfl), rfl, rfl, rfl, rfl, rfl, rfl, rfl, rfl, rfl, rfl, rfl, rfl, (by rw [c10]; rfl), trivial⟩ [] rfl
          · refine TL.assign rfl rfl (v := .bool ((((((p1 == 2) || (p1 == 3)) || (p1 == 5)) || (p1 == 7)) || (p1 == 11)) || (p1 == 13))) rfl ?_
            refine TL.done ?_
            exact TC.retF (Fin.body (fin1 (.inr rfl) rfl (.tmp rfl) [] rfl ⟨rfl, rfl⟩))

end Go.Proofs.Ytcombgcjgdkbiaa.G

/- spec.l09Poly, as a pure function. -/
set_option linter.unusedVariables false
namespace Go.Proofs.Ytcombgcjgdkbiaa.G
open Go Go.Sx Go.Proofs

def spec_l09Poly.b0 (list_1 : List Int) (p1 : Int) : Int → Option (LR Int Int) := fun i1 => (bif (decide (i1 < (list_1.length : Int))) then chk i1 list_1.length ((G.spec_l01In.f (gt list_1 i1) 0 (w64 (p1 - 1))).bind (fun r_3 => (bif (!r_3) then some (.ret (2)) else some (.next (w64 (i1 + 1)))))) else some (.brk i1))

def spec_l09Poly.f (p1 : Int) (list_1 : List Int) : Option Int := (G.spec_l01Prime.f p1).bind (fun r_1 => (bif (!r_1) then some true else (G.spec_l01In.f (list_1.length : Int) 1 6).bind (fun r_2 => some (!r_2))).bind (fun b_1 => (bif b_1 then some 2 else (loop (spec_l09Poly.b0 list_1 p1) 0).bind (ln (fun i1 => some 0)))))

def spec_l09Poly.R (r : Int) (v : Value) (L : List Asn) : Prop := v = .int .i64 r ∧ L = []

set_option maxRecDepth 100000 in
set_option maxHeartbeats 4000000 in
theorem spec_l09Poly.calls (w : World) (p1 : Int) (s1 : SV) (list_1 : List Int) (h1 : Reads Ei (hp w) s1 list_1) :
    ∀ r, spec_l09Poly.f p1 list_1 = some r → Calls Try.prog 50 #[.int .i64 p1, SV.v s1] w (Ret w (spec_l09Poly.R r)) := by

  refine calls_T (n := 29) (Γ := [(0, .int .i64 p1), (1, SV.v s1)]) (R := spec_l09Poly.R) Try.func50 rfl rfl (Nat.le_of_ble_eq_true rfl) ⟨rfl, rfl, trivial⟩ ?_
  unfold spec_l09Poly.f
  refine TC.seq ?_
  refine TC.region ?_
  refine TL.assign rfl rfl (v := .int .i64 0) rfl ?_
  refine TL.done ?_
  refine TC.seq ?_
  refine TC.seq ?_
  refine TC.region ?_
  refine TL.move rfl rfl (v := .int .i64 p1) rfl ?_
  refine TL.call (R := G.spec_l01Prime.R) Try.call73 rfl rfl rfl (fun w hS => G.spec_l01Prime.calls w p1) ?_
  rintro r_1 _ _ ⟨rfl, rfl⟩
  refine TL.not r_1 rfl rfl rfl ?_
  refine TL.move rfl rfl (v := .bool (!r_1)) rfl ?_
  refine TL.cutJ (σ := Bool) (γ := Unit) (Γ' := fun b_1 _ => [(14, .bool b_1), (0, .int .i64 p1), (1, SV.v s1), (4, .int .i64 0), (6, .int .i64 p1), (7, .bool r_1), (8, .bool (!r_1)), (9, .bool (!r_1))]) (L' := fun _ _ => []) 5 ?_ ?_
  · refine TL.ifb (t := 9) (b := (!r_1)) rfl (fun c1 => ?_) (fun c2 => ?_)
    · refine TL.skip rfl rfl (by decide) ?_
      refine TL.skip rfl rfl (by decide) ?_
      refine TL.skip rfl rfl (by decide) ?_
      refine TL.skip rfl rfl (by decide) ?_
      refine TL.pick rfl rfl (b := true) rfl (r := .bool true) rfl ?_
      refine TL.done ?_
      exact TC.nrm (true) () ⟨rfl, rfl, rfl, rfl, rfl, rfl, rfl, (by rw [c1]; rfl), trivial⟩ [] rfl
    · refine TL.move rfl rfl (v := SV.v s1) rfl ?_
      refine TL.len (Rd.old h1) Try.underlying22 rfl rfl rfl ?_
      refine TL.call (R := G.spec_l01In.R) Try.call54 rfl rfl rfl (fun w hS => G.spec_l01In.calls w (list_1.length : Int) 1 6) ?_
      rintro r_2 _ _ ⟨rfl, rfl⟩
      refine TL.not r_2 rfl rfl rfl ?_
      refine TL.pick rfl rfl (b := false) rfl (r := .bool (!r_2)) rfl ?_
      refine TL.done ?_
      exact TC.nrm ((!r_2)) () ⟨rfl, rfl, rfl, rfl, rfl, rfl, rfl, (by rw [c2]; rfl), trivial⟩ [] rfl
  · rintro b_1 _
    refine TL.done ?_
    refine TC.cond (b := b_1) rfl (fun c3 => ?_) (fun c4 => ?_)
    · refine TC.seq ?_
      refine TC.region ?_
      refine TL.assign rfl rfl (v := .int .i64 2) rfl ?_
      refine TL.done ?_
      exact TC.retF (Fin.body (fin1 (.inr rfl) rfl (.tmp rfl) [] rfl ⟨rfl, rfl⟩))
    · refine TC.skip ?_
      refine TC.seq ?_
      refine TC.seq ?_
      refine TC.region ?_
      refine TL.assign rfl rfl (v := .int .i64 0) rfl ?_
      refine TL.done ?_
      refine TC.loopK (σ := Int) (γ := Unit) (Γ' := (fun i1 _ => [(0, .int .i64 p1), (1, SV.v s1), (5, .int .i64 i1)])) (L' := (fun i1 _ => [])) (Γb := (fun i1 _ => [(0, .int .i64 p1), (1, SV.v s1), (5, .int .i64 i1)])) (Lb := (fun i1 _ => [])) (0) (()) ⟨rfl, rfl, rfl, trivial⟩ [] rfl ?_ ?_
      · rintro i1 _
        refine TC.seq ?_
        refine TC.seq ?_
        refine TC.region ?_
        refine TL.move rfl rfl (v := .int .i64 i1) rfl ?_
        refine TL.move rfl rfl (v := SV.v s1) rfl ?_
        refine TL.len (Rd.old h1) Try.underlying22 rfl rfl rfl ?_
        refine TL.bin .i64 i1 (list_1.length : Int) rfl rfl rfl rfl (v := .bool (decide (i1 < (list_1.length : Int)))) rfl ?_
        refine TL.done ?_
        refine TC.cond (b := (decide (i1 < (list_1.length : Int)))) rfl (fun c5 => ?_) (fun c6 => ?_)
        · refine TC.skip ?_
          refine TC.seq ?_
          refine TC.block (NoEx.loop rfl NoEx.body) ?_
          refine TC.seq ?_
          refine TC.region ?_
          refine TL.move rfl rfl (v := SV.v s1) rfl ?_
          refine TL.move rfl rfl (v := .int .i64 i1) rfl ?_
          refine TL.chk fun h2 => ?_
          refine TL.ixs i1 i1.toNat (Rd.old h1) h2 Try.underlying22 Try.sizeOf2 rfl rfl rfl rfl (by omega) ?_
          refine TL.loadE (Rd.old h1) Try.isAgg2 i1.toNat 0 (gt_spec h2) (v := .int .i64 (gt list_1 i1)) rfl (by simp only [show Ei.sz = 1 from rfl]; omega) rfl rfl rfl ?_
          refine TL.move rfl rfl (v := .int .i64 p1) rfl ?_
          refine TL.bin .i64 p1 1 rfl rfl rfl rfl (v := .int .i64 (w64 (p1 - 1))) rfl ?_
          refine TL.call (R := G.spec_l01In.R) Try.call54 rfl rfl rfl (fun w hS => G.spec_l01In.calls w (gt list_1 i1) 0 (w64 (p1 - 1))) ?_
          rintro r_3 _ _ ⟨rfl, rfl⟩
          refine TL.not r_3 rfl rfl rfl ?_
          refine TL.done ?_
          refine TC.cond (b := (!r_3)) rfl (fun c7 => ?_) (fun c8 => ?_)
          · refine TC.seq ?_
            refine TC.region ?_
            refine TL.assign rfl rfl (v := .int .i64 2) rfl ?_
            refine TL.done ?_
            exact TC.retF (Fin.loop Far.ret (Fin.body (fin1 (.inr rfl) rfl (.tmp rfl) [] rfl ⟨rfl, rfl⟩)))
          · refine TC.skip ?_
            refine TC.region ?_
            refine TL.move rfl rfl (v := .int .i64 i1) rfl ?_
            refine TL.bin .i64 i1 1 rfl rfl rfl rfl (v := .int .i64 (w64 (i1 + 1))) rfl ?_
            refine TL.assign rfl rfl (v := .int .i64 (w64 (i1 + 1))) rfl ?_
            refine TL.done ?_
            exact TC.next ((w64 (i1 + 1))) (()) ⟨rfl, rfl, rfl, trivial⟩ [] rfl
        · exact TC.brk (i1) (()) ⟨rfl, rfl, rfl, trivial⟩ [] rfl
      · rintro i1 _
        refine TC.seq ?_
        refine TC.region ?_
        refine TL.assign rfl rfl (v := .int .i64 0) rfl ?_
        refine TL.done ?_
        exact TC.retF (Fin.body (fin1 (.inr rfl) rfl (.tmp rfl) [] rfl ⟨rfl, rfl⟩))

end Go.Proofs.Ytcombgcjgdkbiaa.G

/- spec.l01Mod, as a pure function. -/
set_option linter.unusedVariables false
namespace Go.Proofs.Ytcombgcjgdkbiaa.G
open Go Go.Sx Go.Proofs

def spec_l01Mod.f (p1 : Int) (x1 : Int) : Option Int := nz p1 (some (Int.tmod (w64 ((Int.tmod x1 p1) + p1)) p1))

def spec_l01Mod.R (r : Int) (v : Value) (L : List Asn) : Prop := v = .int .i64 r ∧ L = []

set_option maxRecDepth 100000 in
set_option maxHeartbeats 4000000 in
theorem spec_l01Mod.calls (w : World) (p1 : Int) (x1 : Int) :
    ∀ r, spec_l01Mod.f p1 x1 = some r → Calls Try.prog 112 #[.int .i64 p1, .int .i64 x1] w (Ret w (spec_l01Mod.R r)) := by

  refine calls_T (n := 12) (Γ := [(0, .int .i64 p1), (1, .int .i64 x1)]) (R := spec_l01Mod.R) Try.func112 rfl rfl (Nat.le_of_ble_eq_true rfl) ⟨rfl, rfl, trivial⟩ ?_
  unfold spec_l01Mod.f
  refine TC.seq ?_
  refine TC.region ?_
  refine TL.assign rfl rfl (v := .int .i64 0) rfl ?_
  refine TL.done ?_
  refine TC.seq ?_
  refine TC.region ?_
  refine TL.move rfl rfl (v := .int .i64 x1) rfl ?_
  refine TL.move rfl rfl (v := .int .i64 p1) rfl ?_
  refine TL.nz fun z1 => ?_
  refine TL.rem .i64 x1 p1 z1 rfl rfl rfl rfl ?_
  refine TL.move rfl rfl (v := .int .i64 p1) rfl ?_
  refine TL.bin .i64 (Int.tmod x1 p1) p1 rfl rfl rfl rfl (v := .int .i64 (w64 ((Int.tmod x1 p1) + p1))) rfl ?_
  refine TL.move rfl rfl (v := .int .i64 p1) rfl ?_
  refine TL.rem .i64 (w64 ((Int.tmod x1 p1) + p1)) p1 z1 rfl rfl rfl rfl ?_
  refine TL.assign rfl rfl (v := .int .i64 (Int.tmod (w64 ((Int.tmod x1 p1) + p1)) p1)) rfl ?_
  refine TL.done ?_
  exact TC.retF (Fin.body (fin1 (.inr rfl) rfl (.tmp rfl) [] rfl ⟨rfl, rfl⟩))

end Go.Proofs.Ytcombgcjgdkbiaa.G

/- spec.l09Algebra, as a pure function. -/
set_option linter.unusedVariables false
namespace Go.Proofs.Ytcombgcjgdkbiaa.G
open Go Go.Sx Go.Proofs

def spec_l09Algebra.b0 (x2 : List Int) (x3 : List Int) (x5 : Int) (x4 : Int) : (Nat → UInt8) × Int → Option (LB ((Nat → UInt8) × Int)) := fun p => match p with | (y3, x6) => (bif (decide (x6 < (x2.length : Int))) then chk x6 x3.length (chk x5 6 (chk (w64 (x4 - x5)) 6 (chk x6 6 (some (.next ((upd y3 (x5.toNat * 36 + (w64 (x4 - x5)).toNat * 6 + x6.toNat) (UInt8.ofInt (gt x3 x6))), (w64 (x6 + 1)))))))) else some (.brk (y3, x6)))

def spec_l09Algebra.b1 (x2 : List Int) (x4 : Int) (x3 : List Int) : (Nat → UInt8) × Int → Option (LB ((Nat → UInt8) × Int)) := fun p => match p with | (y2, x5) => (bif ((decide (x5 < (x2.length : Int))) && (decide (x5 ≤ x4))) then (loop1 (spec_l09Algebra.b0 x2 x3 x5 x4) (y2, 0)).bind (fun p => match p with | (y3, x6) => some (.next (y3, (w64 (x5 + 1))))) else some (.brk (y2, x5)))

def spec_l09Algebra.b2 (x2 : List Int) (x3 : List Int) (x1 : Int) : (List Int) × Int → Option (LB ((List Int) × Int)) := fun p => match p with | (l1, x7) => (bif (decide (x7 < (x2.length : Int))) then ((bif (decide (x7 > 0)) then chk (w64 (x7 - 1)) x3.length (chk x7 l1.length (some (l1.set x7.toNat (gt x3 (w64 (x7 - 1)))))) else some l1)).bind (fun l2 => chk x7 l2.length (chk x7 x2.length ((G.spec_l01Mod.f x1 (w64 ((gt l2 x7) - (w64 ((gt x3 (w64 ((x2.length : Int) - 1))) * (gt x2 x7)))))).bind (fun r_1 => some (.next ((l2.set x7.toNat r_1), (w64 (x7 + 1)))))))) else some (.brk (l1, x7)))

def spec_l09Algebra.b3 (x2 : List Int) (x1 : Int) : (Nat → UInt8) × (List Int) × Int → Option (LB ((Nat → UInt8) × (List Int) × Int)) := fun p => match p with | (y1, x3, x4) => (bif (decide (x4 ≤ (w64 ((w64 (2 * (x2.length : Int))) - 2)))) then (loop1 (spec_l09Algebra.b1 x2 x4 x3) (y1, (if 0 > (w64 ((w64 (x4 - (x2.length : Int))) + 1)) then 0 else (w64 ((w64 (x4 - (x2.length : Int))) + 1))))).bind (fun p => match p with | (y2, x5) => chk (w64 ((x2.length : Int) - 1)) x3.length (small x2.length ((loop1 (spec_l09Algebra.b2 x2 x3 x1) ((List.replicate (x2.length : Int).toNat (0 : Int)), 0)).bind (fun p => match p with | (l1, x7) => some (.next (y2, l1, (w64 (x4 + 1)))))))) else some (.brk (y1, x3, x4)))

def spec_l09Algebra.f (x1 : Int) (x2 : List Int) : Option (Int × Int × (Nat → UInt8) × (Nat → UInt8)) := chk (w64 ((x2.length : Int) - 1)) 6 (small x2.length (chk 0 ((List.replicate (x2.length : Int).toNat (0 : Int)).length) ((loop1 (spec_l09Algebra.b3 x2 x1) ((fun _ => (0 : UInt8)), ((List.replicate (x2.length : Int).toNat (0 : Int)).set 0 1), 0)).bind (fun p => match p with | (y1, x3, x4) => some (x1, (x2.length : Int), y1, (upd (fun _ => (0 : UInt8)) ((w64 ((x2.length : Int) - 1)).toNat) (1 : UInt8)))))))

def spec_l09Algebra.R (r : Int × Int × (Nat → UInt8) × (Nat → UInt8)) (v : Value) (L : List Asn) : Prop := v = sval [.one (.int .i64 r.1), .one (.int .i64 r.2.1), .arr 216 (enf u8v r.2.2.1), .arr 6 (enf u8v r.2.2.2)] ∧ L = []

set_option maxRecDepth 100000 in
set_option maxHeartbeats 4000000 in
theorem spec_l09Algebra.calls (w : World) (x1 : Int) (s1 : SV) (x2 : List Int) (h1 : Reads Ei (hp w) s1 x2) :
    ∀ r, spec_l09Algebra.f x1 x2 = some r → Calls Try.prog 85 #[.int .i64 x1, SV.v s1] w (Ret w (spec_l09Algebra.R r)) := by

  refine calls_T (n := 108) (Γ := [(0, .int .i64 x1), (1, SV.v s1)]) (R := spec_l09Algebra.R) Try.func85 rfl rfl (Nat.le_of_ble_eq_true rfl) ⟨rfl, rfl, trivial⟩ ?_
  unfold spec_l09Algebra.f
  refine TC.seq ?_
  refine TC.region ?_
  refine TL.alloc [.one (.int .i64 0), .one (.int .i64 0), .arr 216 (enf u8v (fun _ => (0 : UInt8))), .arr 6 (enf u8v (fun _ => (0 : UInt8)))] rfl rfl Try.zeroValue45 rfl fun b_1 => ?_
  refine TL.done ?_
  refine TC.seq ?_
  refine TC.region ?_
  refine TL.move rfl rfl (v := SV.v s1) rfl ?_
  refine TL.len (Rd.old h1) Try.underlying22 rfl rfl rfl ?_
  refine TL.assign rfl rfl (v := .int .i64 (x2.length : Int)) rfl ?_
  refine TL.done ?_
  refine TC.seq ?_
  refine TC.region ?_
  refine TL.move rfl rfl (v := .int .i64 x1) rfl ?_
  refine TL.move rfl rfl (v := .int .i64 (x2.length : Int)) rfl ?_
  refine TL.buildS (segs0 := [.one (.int .i64 0), .one (.int .i64 0), .arr 216 (enf u8v (fun _ => (0 : UInt8))), .arr 6 (enf u8v (fun _ => (0 : UInt8)))]) (segs := [.one (.int .i64 x1), .one (.int .i64 (x2.length : Int)), .arr 216 (enf u8v (fun _ => (0 : UInt8))), .arr 6 (enf u8v (fun _ => (0 : UInt8)))]) [1, 1, 216, 6] Try.underlying45 ⟨Try.sizeOf2, Try.sizeOf2, Try.sizeOf42, Try.sizeOf43, trivial⟩ Try.zeroValue45 rfl [(0, .int .i64 x1), (1, .int .i64 (x2.length : Int))] rfl (fun pl hpl => by subst hpl; exact fill_one 0 rfl rfl rfl rfl (fill_one 1 rfl rfl rfl rfl (rfl))) rfl rfl ?_
  refine TL.alloc [.one (.int .i64 0), .one (.int .i64 0), .arr 216 (enf u8v (fun _ => (0 : UInt8))), .arr 6 (enf u8v (fun _ => (0 : UInt8)))] rfl rfl Try.zeroValue45 rfl fun b_2 => ?_
  refine TL.stM (news := [.one (.int .i64 x1), .one (.int .i64 (x2.length : Int)), .arr 216 (enf u8v (fun _ => (0 : UInt8))), .arr 6 (enf u8v (fun _ => (0 : UInt8)))]) 0 0 4 rfl Try.sizeOf45 (ones_one rfl (ones_one rfl (ones_arr (fun _ => rfl) (ones_arr (fun _ => rfl) ones_nil)))) rfl rfl rfl rfl rfl rfl ?_
  refine TL.done ?_
  refine TC.seq ?_
  refine TC.region ?_
  refine TL.move rfl rfl (v := .int .i64 (x2.length : Int)) rfl ?_
  refine TL.bin .i64 (x2.length : Int) 1 rfl rfl rfl rfl (v := .int .i64 (w64 ((x2.length : Int) - 1))) rfl ?_
  refine TL.fa Try.underlying45 rfl Try.sizeOf43 rfl 218 rfl rfl rfl rfl ?_
  refine TL.chk fun h2 => ?_
  refine TL.ixa (w64 ((x2.length : Int) - 1)) (218 + (w64 ((x2.length : Int) - 1)).toNat) h2 Try.underlying43 Try.sizeOf5 rfl rfl rfl rfl (by omega) ?_
  refine TL.stA (e := u8v) (z := (1 : UInt8)) 0 3 ((w64 ((x2.length : Int) - 1)).toNat) rfl Try.sizeOf5 rfl (by omega) (s := 218) rfl (by omega) rfl rfl rfl rfl rfl ?_
  refine TL.done ?_
  refine TC.seq ?_
  refine TC.region ?_
  refine TL.move rfl rfl (v := .int .i64 (x2.length : Int)) rfl ?_
  refine TL.small fun h3 => ?_
  refine TL.mkslice Ei (0 : Int) (x2.length : Int) Try.underlying22 (info_of Try.type2) (zv := (Try.t2.zero.getD (.bool false))) rfl rfl rfl (by simp [Ei, flat, Seg.cells]) (by decide) (by omega) (by omega) rfl rfl rfl rfl fun s2 => ?_
  refine TL.assign rfl rfl (v := SV.v s2) rfl ?_
  refine TL.done ?_
  refine TC.seq ?_
  refine TC.region ?_
  refine TL.move rfl rfl (v := SV.v s2) rfl ?_
  refine TL.chk fun h5 => ?_
  refine TL.ixs 0 0 (Rd.row 0 rfl) h5 Try.underlying22 Try.sizeOf2 rfl rfl rfl rfl rfl ?_
  refine TL.stE 0 (0) 1 (v := .int .i64 1) rfl Try.sizeOf2 rfl rfl rfl (by have h_ := h5; omega) rfl rfl rfl rfl ?_
  refine TL.done ?_
  refine TC.seq ?_
  refine TC.seq ?_
  refine TC.region ?_
  refine TL.assign rfl rfl (v := .int .i64 0) rfl ?_
  refine TL.done ?_
  refine TC.loop1 (σ := (Nat → UInt8) × (List Int) × Int) (γ := SV) (Γ' := (fun p q => match p, q with | (y1, x3, x4), s3 => [(0, .int .i64 x1), (1, SV.v s1), (4, bp b_1 0), (5, .int .i64 (x2.length : Int)), (6, bp b_2 0), (7, SV.v s3), (8, .int .i64 x4)])) (L' := (fun p q => match p, q with | (y1, x3, x4), s3 => [box b_1 45 [.one (.int .i64 0), .one (.int .i64 0), .arr 216 (enf u8v (fun _ => (0 : UInt8))), .arr 6 (enf u8v (fun _ => (0 : UInt8)))], box b_2 45 [.one (.int .i64 x1), .one (.int .i64 (x2.length : Int)), .arr 216 (enf u8v y1), .arr 6 (enf u8v (upd (fun _ => (0 : UInt8)) ((w64 ((x2.length : Int) - 1)).toNat) (1 : UInt8)))], row Ei 2 s3 x3])) (Γb := (fun p q => match p, q with | (y1, x3, x4), s3 => [(0, .int .i64 x1), (1, SV.v s1), (4, bp b_1 0), (5, .int .i64 (x2.length : Int)), (6, bp b_2 0), (7, SV.v s3), (8, .int .i64 x4)])) (Lb := (fun p q => match p, q with | (y1, x3, x4), s3 => [box b_1 45 [.one (.int .i64 0), .one (.int .i64 0), .arr 216 (enf u8v (fun _ => (0 : UInt8))), .arr 6 (enf u8v (fun _ => (0 : UInt8)))], box b_2 45 [.one (.int .i64 x1), .one (.int .i64 (x2.length : Int)), .arr 216 (enf u8v y1), .arr 6 (enf u8v (upd (fun _ => (0 : UInt8)) ((w64 ((x2.length : Int) - 1)).toNat) (1 : UInt8)))], row Ei 2 s3 x3])) (((fun _ => (0 : UInt8)), ((List.replicate (x2.length : Int).toNat (0 : Int)).set 0 1), 0)) (s2) ⟨rfl, rfl, rfl, rfl, rfl, rfl, rfl, trivial⟩ [2, 1, 0] rfl ?_ ?_
  · rintro ⟨y1, x3, x4⟩ s3
    refine TC.seq ?_
    refine TC.seq ?_
    refine TC.region ?_
    refine TL.move rfl rfl (v := .int .i64 x4) rfl ?_
    refine TL.move rfl rfl (v := .int .i64 (x2.length : Int)) rfl ?_
    refine TL.bin .i64 2 (x2.length : Int) rfl rfl rfl rfl (v := .int .i64 (w64 (2 * (x2.length : Int)))) rfl ?_
    refine TL.bin .i64 (w64 (2 * (x2.length : Int))) 2 rfl rfl rfl rfl (v := .int .i64 (w64 ((w64 (2 * (x2.length : Int))) - 2))) rfl ?_
    refine TL.bin .i64 x4 (w64 ((w64 (2 * (x2.length : Int))) - 2)) rfl rfl rfl rfl (v := .bool (decide (x4 ≤ (w64 ((w64 (2 * (x2.length : Int))) - 2))))) rfl ?_
    refine TL.done ?_
    refine TC.cond (b := (decide (x4 ≤ (w64 ((w64 (2 * (x2.length : Int))) - 2))))) rfl (fun c1 => ?_) (fun c2 => ?_)
    · refine TC.skip ?_
      refine TC.seq ?_
      refine TC.block (NoEx.loop1 rfl) ?_
      refine TC.seq ?_
      refine TC.seq ?_
      refine TC.region ?_
      refine TL.move rfl rfl (v := .int .i64 x4) rfl ?_
      refine TL.move rfl rfl (v := .int .i64 (x2.length : Int)) rfl ?_
      refine TL.bin .i64 x4 (x2.length : Int) rfl rfl rfl rfl (v := .int .i64 (w64 (x4 - (x2.length : Int)))) rfl ?_
      refine TL.bin .i64 (w64 (x4 - (x2.length : Int))) 1 rfl rfl rfl rfl (v := .int .i64 (w64 ((w64 (x4 - (x2.length : Int))) + 1))) rfl ?_
      refine TL.max2 rfl rfl rfl rfl ?_
      refine TL.assign rfl rfl (v := .int .i64 (if 0 > (w64 ((w64 (x4 - (x2.length : Int))) + 1)) then 0 else (w64 ((w64 (x4 - (x2.length : Int))) + 1)))) rfl ?_
      refine TL.done ?_
      refine TC.loop1 (σ := (Nat → UInt8) × Int) (γ := Unit) (Γ' := (fun p q => match p, q with | (y2, x5), _ => [(0, .int .i64 x1), (1, SV.v s1), (4, bp b_1 0), (5, .int .i64 (x2.length : Int)), (6, bp b_2 0), (7, SV.v s3), (8, .int .i64 x4), (9, .int .i64 x5)])) (L' := (fun p q => match p, q with | (y2, x5), _ => [box b_1 45 [.one (.int .i64 0), .one (.int .i64 0), .arr 216 (enf u8v (fun _ => (0 : UInt8))), .arr 6 (enf u8v (fun _ => (0 : UInt8)))], box b_2 45 [.one (.int .i64 x1), .one (.int .i64 (x2.length : Int)), .arr 216 (enf u8v y2), .arr 6 (enf u8v (upd (fun _ => (0 : UInt8)) ((w64 ((x2.length : Int) - 1)).toNat) (1 : UInt8)))], row Ei 2 s3 x3])) (Γb := (fun p q => match p, q with | (y2, x5), _ => [(0, .int .i64 x1), (1, SV.v s1), (4, bp b_1 0), (5, .int .i64 (x2.length : Int)), (6, bp b_2 0), (7, SV.v s3), (8, .int .i64 x4), (9, .int .i64 x5)])) (Lb := (fun p q => match p, q with | (y2, x5), _ => [box b_1 45 [.one (.int .i64 0), .one (.int .i64 0), .arr 216 (enf u8v (fun _ => (0 : UInt8))), .arr 6 (enf u8v (fun _ => (0 : UInt8)))], box b_2 45 [.one (.int .i64 x1), .one (.int .i64 (x2.length : Int)), .arr 216 (enf u8v y2), .arr 6 (enf u8v (upd (fun _ => (0 : UInt8)) ((w64 ((x2.length : Int) - 1)).toNat) (1 : UInt8)))], row Ei 2 s3 x3])) ((y1, (if 0 > (w64 ((w64 (x4 - (x2.length : Int))) + 1)) then 0 else (w64 ((w64 (x4 - (x2.length : Int))) + 1))))) (()) ⟨rfl, rfl, rfl, rfl, rfl, rfl, rfl, rfl, trivial⟩ [0, 0, 0] rfl ?_ ?_
      · rintro ⟨y2, x5⟩ _
        refine TC.seq ?_
        refine TC.seq ?_
        refine TC.region ?_
        refine TL.move rfl rfl (v := .int .i64 x5) rfl ?_
        refine TL.move rfl rfl (v := .int .i64 (x2.length : Int)) rfl ?_
        refine TL.bin .i64 x5 (x2.length : Int) rfl rfl rfl rfl (v := .bool (decide (x5 < (x2.length : Int)))) rfl ?_
        refine TL.move rfl rfl (v := .bool (decide (x5 < (x2.length : Int)))) rfl ?_
        refine TL.cutU 4 [(46, .bool ((decide (x5 < (x2.length : Int))) && (decide (x5 ≤ x4)))), (0, .int .i64 x1), (1, SV.v s1), (4, bp b_1 0), (5, .int .i64 (x2.length : Int)), (6, bp b_2 0), (7, SV.v s3), (8, .int .i64 x4), (9, .int .i64 x5), (39, .int .i64 x5), (40, .int .i64 (x2.length : Int)), (41, .bool (decide (x5 < (x2.length : Int)))), (42, .bool (decide (x5 < (x2.length : Int))))] [box b_1 45 [.one (.int .i64 0), .one (.int .i64 0), .arr 216 (enf u8v (fun _ => (0 : UInt8))), .arr 6 (enf u8v (fun _ => (0 : UInt8)))], box b_2 45 [.one (.int .i64 x1), .one (.int .i64 (x2.length : Int)), .arr 216 (enf u8v y2), .arr 6 (enf u8v (upd (fun _ => (0 : UInt8)) ((w64 ((x2.length : Int) - 1)).toNat) (1 : UInt8)))], row Ei 2 s3 x3] ?_ ?_
        · refine TL.cases (t := 42) (b := (decide (x5 < (x2.length : Int)))) rfl (fun c3 => ?_) (fun c4 => ?_)
          · refine TL.move rfl rfl (v := .int .i64 x5) rfl ?_
            refine TL.move rfl rfl (v := .int .i64 x4) rfl ?_
            refine TL.bin .i64 x5 x4 rfl rfl rfl rfl (v := .bool (decide (x5 ≤ x4))) rfl ?_
            refine TL.pick rfl rfl (b := true) rfl (r := .bool (decide (x5 ≤ x4))) rfl ?_
            refine TL.done ?_
            exact TC.nrm () () ⟨(by rw [c3]; rfl), rfl, rfl, rfl, rfl, rfl, rfl, rfl, rfl, rfl, rfl, rfl, (by rw [c3]; rfl), trivial⟩ [0, 0, 0] rfl
          · refine TL.skip rfl rfl (by decide) ?_
            refine TL.skip rfl rfl (by decide) ?_
            refine TL.skip rfl rfl (by decide) ?_
            refine TL.pick rfl rfl (b := false) rfl (r := .bool false) rfl ?_
            refine TL.done ?_
            exact TC.nrm () () ⟨(by rw [c4]; rfl), rfl, rfl, rfl, rfl, rfl, rfl, rfl, rfl, rfl, rfl, rfl, (by rw [c4]; rfl), trivial⟩ [0, 0, 0] rfl
        · refine TL.done ?_
          refine TC.cond (b := ((decide (x5 < (x2.length : Int))) && (decide (x5 ≤ x4)))) rfl (fun c5 => ?_) (fun c6 => ?_)
          · refine TC.skip ?_
            refine TC.seq ?_
            refine TC.block (NoEx.loop1 rfl) ?_
            refine TC.seq ?_
            refine TC.region ?_
            refine TL.assign rfl rfl (v := .int .i64 0) rfl ?_
            refine TL.done ?_
            refine TC.loop1 (σ := (Nat → UInt8) × Int) (γ := Unit) (Γ' := (fun p q => match p, q with | (y3, x6), _ => [(0, .int .i64 x1), (1, SV.v s1), (4, bp b_1 0), (5, .int .i64 (x2.length : Int)), (6, bp b_2 0), (7, SV.v s3), (8, .int .i64 x4), (9, .int .i64 x5), (10, .int .i64 x6)])) (L' := (fun p q => match p, q with | (y3, x6), _ => [box b_1 45 [.one (.int .i64 0), .one (.int .i64 0), .arr 216 (enf u8v (fun _ => (0 : UInt8))), .arr 6 (enf u8v (fun _ => (0 : UInt8)))], box b_2 45 [.one (.int .i64 x1), .one (.int .i64 (x2.length : Int)), .arr 216 (enf u8v y3), .arr 6 (enf u8v (upd (fun _ => (0 : UInt8)) ((w64 ((x2.length : Int) - 1)).toNat) (1 : UInt8)))], row Ei 2 s3 x3])) (Γb := (fun p q => match p, q with | (y3, x6), _ => [(0, .int .i64 x1), (1, SV.v s1), (4, bp b_1 0), (5, .int .i64 (x2.length : Int)), (6, bp b_2 0), (7, SV.v s3), (8, .int .i64 x4), (9, .int .i64 x5), (10, .int .i64 x6)])) (Lb := (fun p q => match p, q with | (y3, x6), _ => [box b_1 45 [.one (.int .i64 0), .one (.int .i64 0), .arr 216 (enf u8v (fun _ => (0 : UInt8))), .arr 6 (enf u8v (fun _ => (0 : UInt8)))], box b_2 45 [.one (.int .i64 x1), .one (.int .i64 (x2.length : Int)), .arr 216 (enf u8v y3), .arr 6 (enf u8v (upd (fun _ => (0 : UInt8)) ((w64 ((x2.length : Int) - 1)).toNat) (1 : UInt8)))], row Ei 2 s3 x3])) ((y2, 0)) (()) ⟨rfl, rfl, rfl, rfl, rfl, rfl, rfl, rfl, rfl, trivial⟩ [0, 0, 0] rfl ?_ ?_
            · rintro ⟨y3, x6⟩ _
              refine TC.seq ?_
              refine TC.seq ?_
              refine TC.region ?_
              refine TL.move rfl rfl (v := .int .i64 x6) rfl ?_
              refine TL.move rfl rfl (v := .int .i64 (x2.length : Int)) rfl ?_
              refine TL.bin .i64 x6 (x2.length : Int) rfl rfl rfl rfl (v := .bool (decide (x6 < (x2.length : Int)))) rfl ?_
              refine TL.done ?_
              refine TC.cond (b := (decide (x6 < (x2.length : Int)))) rfl (fun c7 => ?_) (fun c8 => ?_)
              · refine TC.skip ?_
                refine TC.seq ?_
                refine TC.block (NoEx.loop1 rfl) ?_
                refine TC.wk (Γ' := [(0, .int .i64 x1), (1, SV.v s1), (4, bp b_1 0), (5, .int .i64 (x2.length : Int)), (6, bp b_2 0), (7, SV.v s3), (8, .int .i64 x4), (9, .int .i64 x5), (10, .int .i64 x6), (49, .int .i64 x6), (50, .int .i64 (x2.length : Int)), (51, .bool (decide (x6 < (x2.length : Int))))]) ⟨rfl, rfl, rfl, rfl, rfl, rfl, rfl, rfl, rfl, rfl, rfl, rfl, trivial⟩ ?_
                refine TC.chk fun h6 => ?_
                refine TC.chk fun h7 => ?_
                refine TC.chk fun h8 => ?_
                refine TC.chk fun h9 => ?_
                refine TC.drawG [(0, .int .i64 x1), (1, SV.v s1), (4, bp b_1 0), (5, .int .i64 (x2.length : Int)), (6, bp b_2 0), (7, SV.v s3), (8, .int .i64 x4), (9, .int .i64 x5), (10, .int .i64 x6), (49, .int .i64 x6), (50, .int .i64 (x2.length : Int)), (51, .bool (decide (x6 < (x2.length : Int))))] [] ⟨rfl, rfl, rfl, rfl, rfl, rfl, rfl, rfl, rfl, rfl, rfl, rfl, trivial⟩ trivial (fun l_ g1 => [box b_1 45 [.one (.int .i64 0), .one (.int .i64 0), .arr 216 (enf u8v (fun _ => (0 : UInt8))), .arr 6 (enf u8v (fun _ => (0 : UInt8)))], (bif nb l_ 14 then box b_2 45 [.one (.int .i64 x1), .one (.int .i64 (x2.length : Int)), .arr 216 (enf u8v (upd y3 (x5.toNat * 36 + (w64 (x4 - x5)).toNat * 6 + x6.toNat) (UInt8.ofInt (gt x3 x6)))), .arr 6 (enf u8v (upd (fun _ => (0 : UInt8)) ((w64 ((x2.length : Int) - 1)).toNat) (1 : UInt8)))] else box b_2 45 [.one (.int .i64 x1), .one (.int .i64 (x2.length : Int)), .arr 216 (enf u8v y3), .arr 6 (enf u8v (upd (fun _ => (0 : UInt8)) ((w64 ((x2.length : Int) - 1)).toNat) (1 : UInt8)))]), row Ei 2 s3 x3]) (fun g1 => [.int .i64 x5, .int .i64 x4, .int .i64 x5, .int .i64 (w64 (x4 - x5)), .int .i64 x6, SV.v s3, .int .i64 x6, ep s3 x6.toNat, .int .i64 (gt x3 x6), u8v (UInt8.ofInt (gt x3 x6)), bp b_2 2, bp b_2 (2 + x5.toNat * 36), bp b_2 (2 + (x5.toNat * 36 + (w64 (x4 - x5)).toNat * 6)), bp b_2 (2 + (x5.toNat * 36 + (w64 (x4 - x5)).toNat * 6 + x6.toNat)), undef]) [[], [], [], [1, 2], [], [], [], [5, 6], [5, 6, 7], [5, 6, 7, 8], [], [0, 10], [0, 1, 2, 3, 10, 11], [0, 1, 2, 3, 4, 5, 6, 7, 8, 9, 10, 11, 12], [0, 1, 2, 3, 4, 5, 6, 7, 8, 9, 10, 11, 12, 13]] [[some false, none, none, none, none, none, none, none, none, none, none, some false, some false, some false, some false], [none, some false, none, some false, none, none, none, none, none, none, none, none, some false, some false, some false], [none, none, some false, some false, none, none, none, none, none, none, none, none, some false, some false, some false], [none, some true, some true, some false, none, none, none, none, none, none, none, none, some false, some false, some false], [none, none, none, none, some false, none, none, none, none, none, none, none, none, some false, some false], [none, none, none, none, none, some false, none, some false, some false, some false, none, none, none, some false, some false], [none, none, none, none, none, none, some false, some false, some false, some false, none, none, none, some false, some false], [none, none, none, none, none, some true, some true, some false, some false, some false, none, none, none, some false, some false], [none, none, none, none, none, some true, some true, some true, some false, some false, none, none, none, some false, some false], [none, none, none, none, none, some true, some true, some true, some true, some false, none, none, none, some false, some false], [none, none, none, none, none, none, none, none, none, none, some false, some false, some false, some false, some false], [some true, none, none, none, none, none, none, none, none, none, some true, some false, some false, some false, some false], [some true, some true, some true, some true, none, none, none, none, none, none, some true, some true, some false, some false, some false], [some true, some true, some true, some true, some true, some true, some true, some true, some true, some true, some true, some true, some true, some false, some false], [some true, some true, some true, some true, some true, some true, some true, some true, some true, some true, some true, some true, some true, some true, some false]] (by kernel_rfl) (fun _ => rfl) rfl rfl rfl rfl rfl (fun _ _ => ⟨⟨⟨⟨⟨⟨⟨⟨⟨⟨⟨⟨⟨⟨⟨trivial, rfl⟩, rfl⟩, rfl⟩, rfl⟩, rfl⟩, rfl⟩, rfl⟩, rfl⟩, rfl⟩, rfl⟩, rfl⟩, rfl⟩, rfl⟩, rfl⟩, rfl⟩) 0 [0, 0, 0] (fun _ => rfl) ?_ ?_
                · refine ⟨rfl, ?_, rfl, ?_, rfl, ?_, rfl, ?_, rfl, ?_, rfl, ?_, rfl, ?_, rfl, ?_, rfl, ?_, rfl, ?_, rfl, ?_, rfl, ?_, rfl, ?_, rfl, ?_, rfl, ?_, trivial⟩
                  · intro b1_ b2_ b3_ b4_ b5_ b6_ b7_ b8_ b9_ b10_ g1
                    refine TL.move rfl rfl (v := .int .i64 x5) rfl ?_
                    refine TL.done ?_
                    exact TC.nrm () [] ⟨rfl, trivial⟩ [0, 0, 0] rfl
                  · intro b0_ b2_ b4_ b5_ b6_ b7_ b8_ b9_ b10_ b11_ g1
                    refine TL.move rfl rfl (v := .int .i64 x4) rfl ?_
                    refine TL.done ?_
                    exact TC.nrm () [] ⟨rfl, trivial⟩ [0, 0, 0] rfl
                  · intro b0_ b1_ b4_ b5_ b6_ b7_ b8_ b9_ b10_ b11_ g1
                    refine TL.move rfl rfl (v := .int .i64 x5) rfl ?_
                    refine TL.done ?_
                    exact TC.nrm () [] ⟨rfl, trivial⟩ [0, 0, 0] rfl
                  · intro b0_ b4_ b5_ b6_ b7_ b8_ b9_ b10_ b11_ g1
                    refine TL.bin .i64 x4 x5 rfl rfl rfl rfl (v := .int .i64 (w64 (x4 - x5))) rfl ?_
                    refine TL.done ?_
                    exact TC.nrm () [] ⟨rfl, trivial⟩ [0, 0, 0] rfl
                  · intro b0_ b1_ b2_ b3_ b5_ b6_ b7_ b8_ b9_ b10_ b11_ b12_ g1
                    refine TL.move rfl rfl (v := .int .i64 x6) rfl ?_
                    refine TL.done ?_
                    exact TC.nrm () [] ⟨rfl, trivial⟩ [0, 0, 0] rfl
                  · intro b0_ b1_ b2_ b3_ b4_ b6_ b10_ b11_ b12_ g1
                    refine TL.move rfl rfl (v := SV.v s3) rfl ?_
                    refine TL.done ?_
                    exact TC.nrm () [] ⟨rfl, trivial⟩ [0, 0, 0] rfl
                  · intro b0_ b1_ b2_ b3_ b4_ b5_ b10_ b11_ b12_ g1
                    refine TL.move rfl rfl (v := .int .i64 x6) rfl ?_
                    refine TL.done ?_
                    exact TC.nrm () [] ⟨rfl, trivial⟩ [0, 0, 0] rfl
                  · intro b0_ b1_ b2_ b3_ b4_ b10_ b11_ b12_ g1
                    refine TL.asL [box b_1 45 [.one (.int .i64 0), .one (.int .i64 0), .arr 216 (enf u8v (fun _ => (0 : UInt8))), .arr 6 (enf u8v (fun _ => (0 : UInt8)))], box b_2 45 [.one (.int .i64 x1), .one (.int .i64 (x2.length : Int)), .arr 216 (enf u8v y3), .arr 6 (enf u8v (upd (fun _ => (0 : UInt8)) ((w64 ((x2.length : Int) - 1)).toNat) (1 : UInt8)))], row Ei 2 s3 x3] rfl ?_
                    refine TL.ixs x6 x6.toNat (Rd.row 2 rfl) h6 Try.underlying22 Try.sizeOf2 rfl rfl rfl rfl (by omega) ?_
                    refine TL.done ?_
                    exact TC.nrm () [] ⟨rfl, trivial⟩ [0, 0, 0] rfl
                  · intro b0_ b1_ b2_ b3_ b4_ b10_ b11_ b12_ g1
                    refine TL.asL [box b_1 45 [.one (.int .i64 0), .one (.int .i64 0), .arr 216 (enf u8v (fun _ => (0 : UInt8))), .arr 6 (enf u8v (fun _ => (0 : UInt8)))], box b_2 45 [.one (.int .i64 x1), .one (.int .i64 (x2.length : Int)), .arr 216 (enf u8v y3), .arr 6 (enf u8v (upd (fun _ => (0 : UInt8)) ((w64 ((x2.length : Int) - 1)).toNat) (1 : UInt8)))], row Ei 2 s3 x3] rfl ?_
                    refine TL.loadE (Rd.row 2 rfl) Try.isAgg2 x6.toNat 0 (gt_spec h6) (v := .int .i64 (gt x3 x6)) rfl (by simp only [show Ei.sz = 1 from rfl]; omega) rfl rfl rfl ?_
                    refine TL.done ?_
                    exact TC.nrm () [] ⟨rfl, trivial⟩ [0, 0, 0] rfl
                  · intro b0_ b1_ b2_ b3_ b4_ b10_ b11_ b12_ g1
                    refine TL.conv .i64 .u8 (gt x3 x6) _ rfl rfl rfl Try.underlying2 Try.underlying5 (v := u8v (UInt8.ofInt (gt x3 x6))) (conv_i64_u8 _) ?_
                    refine TL.done ?_
                    exact TC.nrm () [] ⟨rfl, trivial⟩ [0, 0, 0] rfl
                  · intro b0_ b1_ b2_ b3_ b4_ b5_ b6_ b7_ b8_ b9_ g1
                    refine TL.asL [box b_1 45 [.one (.int .i64 0), .one (.int .i64 0), .arr 216 (enf u8v (fun _ => (0 : UInt8))), .arr 6 (enf u8v (fun _ => (0 : UInt8)))], box b_2 45 [.one (.int .i64 x1), .one (.int .i64 (x2.length : Int)), .arr 216 (enf u8v y3), .arr 6 (enf u8v (upd (fun _ => (0 : UInt8)) ((w64 ((x2.length : Int) - 1)).toNat) (1 : UInt8)))], row Ei 2 s3 x3] rfl ?_
                    refine TL.fa Try.underlying45 rfl Try.sizeOf42 rfl 2 rfl rfl rfl rfl ?_
                    refine TL.done ?_
                    exact TC.nrm () [] ⟨rfl, trivial⟩ [0, 0, 0] rfl
                  · intro b1_ b2_ b3_ b4_ b5_ b6_ b7_ b8_ b9_ g1
                    refine TL.asL [box b_1 45 [.one (.int .i64 0), .one (.int .i64 0), .arr 216 (enf u8v (fun _ => (0 : UInt8))), .arr 6 (enf u8v (fun _ => (0 : UInt8)))], box b_2 45 [.one (.int .i64 x1), .one (.int .i64 (x2.length : Int)), .arr 216 (enf u8v y3), .arr 6 (enf u8v (upd (fun _ => (0 : UInt8)) ((w64 ((x2.length : Int) - 1)).toNat) (1 : UInt8)))], row Ei 2 s3 x3] rfl ?_
                    refine TL.ixa x5 (2 + x5.toNat * 36) h7 Try.underlying42 Try.sizeOf33 rfl rfl rfl rfl (by omega) ?_
                    refine TL.done ?_
                    exact TC.nrm () [] ⟨rfl, trivial⟩ [0, 0, 0] rfl
                  · intro b4_ b5_ b6_ b7_ b8_ b9_ g1
                    refine TL.asL [box b_1 45 [.one (.int .i64 0), .one (.int .i64 0), .arr 216 (enf u8v (fun _ => (0 : UInt8))), .arr 6 (enf u8v (fun _ => (0 : UInt8)))], box b_2 45 [.one (.int .i64 x1), .one (.int .i64 (x2.length : Int)), .arr 216 (enf u8v y3), .arr 6 (enf u8v (upd (fun _ => (0 : UInt8)) ((w64 ((x2.length : Int) - 1)).toNat) (1 : UInt8)))], row Ei 2 s3 x3] rfl ?_
                    refine TL.ixa (w64 (x4 - x5)) (2 + (x5.toNat * 36 + (w64 (x4 - x5)).toNat * 6)) h8 Try.underlying33 Try.sizeOf32 rfl rfl rfl rfl (by omega) ?_
                    refine TL.done ?_
                    exact TC.nrm () [] ⟨rfl, trivial⟩ [0, 0, 0] rfl
                  · intro g1
                    refine TL.asL [box b_1 45 [.one (.int .i64 0), .one (.int .i64 0), .arr 216 (enf u8v (fun _ => (0 : UInt8))), .arr 6 (enf u8v (fun _ => (0 : UInt8)))], box b_2 45 [.one (.int .i64 x1), .one (.int .i64 (x2.length : Int)), .arr 216 (enf u8v y3), .arr 6 (enf u8v (upd (fun _ => (0 : UInt8)) ((w64 ((x2.length : Int) - 1)).toNat) (1 : UInt8)))], row Ei 2 s3 x3] rfl ?_
                    refine TL.ixa x6 (2 + (x5.toNat * 36 + (w64 (x4 - x5)).toNat * 6 + x6.toNat)) h9 Try.underlying32 Try.sizeOf5 rfl rfl rfl rfl (by omega) ?_
                    refine TL.done ?_
                    exact TC.nrm () [] ⟨rfl, trivial⟩ [0, 0, 0] rfl
                  · intro g1
                    refine TL.asL [box b_1 45 [.one (.int .i64 0), .one (.int .i64 0), .arr 216 (enf u8v (fun _ => (0 : UInt8))), .arr 6 (enf u8v (fun _ => (0 : UInt8)))], box b_2 45 [.one (.int .i64 x1), .one (.int .i64 (x2.length : Int)), .arr 216 (enf u8v y3), .arr 6 (enf u8v (upd (fun _ => (0 : UInt8)) ((w64 ((x2.length : Int) - 1)).toNat) (1 : UInt8)))], row Ei 2 s3 x3] rfl ?_
                    refine TL.stA (e := u8v) (z := (UInt8.ofInt (gt x3 x6))) 1 2 (x5.toNat * 36 + (w64 (x4 - x5)).toNat * 6 + x6.toNat) rfl Try.sizeOf5 rfl (by omega) (s := 2) rfl (by omega) rfl rfl rfl rfl rfl ?_
                    refine TL.done ?_
                    exact TC.nrm () [] trivial [0, 0, 0] rfl
                · intro g1
                  refine TC.asL [box b_1 45 [.one (.int .i64 0), .one (.int .i64 0), .arr 216 (enf u8v (fun _ => (0 : UInt8))), .arr 6 (enf u8v (fun _ => (0 : UInt8)))], box b_2 45 [.one (.int .i64 x1), .one (.int .i64 (x2.length : Int)), .arr 216 (enf u8v (upd y3 (x5.toNat * 36 + (w64 (x4 - x5)).toNat * 6 + x6.toNat) (UInt8.ofInt (gt x3 x6)))), .arr 6 (enf u8v (upd (fun _ => (0 : UInt8)) ((w64 ((x2.length : Int) - 1)).toNat) (1 : UInt8)))], row Ei 2 s3 x3] rfl ?_
                  refine TC.region ?_
                  refine TL.move rfl rfl (v := .int .i64 x6) rfl ?_
                  refine TL.bin .i64 x6 1 rfl rfl rfl rfl (v := .int .i64 (w64 (x6 + 1))) rfl ?_
                  refine TL.assign rfl rfl (v := .int .i64 (w64 (x6 + 1))) rfl ?_
                  refine TL.done ?_
                  exact TC.next1 (((upd y3 (x5.toNat * 36 + (w64 (x4 - x5)).toNat * 6 + x6.toNat) (UInt8.ofInt (gt x3 x6))), (w64 (x6 + 1)))) (()) ⟨rfl, rfl, rfl, rfl, rfl, rfl, rfl, rfl, rfl, trivial⟩ [0, 0, 0] rfl
              · exact TC.brk1 ((y3, x6)) (()) ⟨rfl, rfl, rfl, rfl, rfl, rfl, rfl, rfl, rfl, trivial⟩ [0, 0, 0] rfl
            · rintro ⟨y3, x6⟩ _
              refine TC.region ?_
              refine TL.move rfl rfl (v := .int .i64 x5) rfl ?_
              refine TL.bin .i64 x5 1 rfl rfl rfl rfl (v := .int .i64 (w64 (x5 + 1))) rfl ?_
              refine TL.assign rfl rfl (v := .int .i64 (w64 (x5 + 1))) rfl ?_
              refine TL.done ?_
              exact TC.next1 ((y3, (w64 (x5 + 1)))) (()) ⟨rfl, rfl, rfl, rfl, rfl, rfl, rfl, rfl, trivial⟩ [0, 0, 0] rfl
          · exact TC.brk1 ((y2, x5)) (()) ⟨rfl, rfl, rfl, rfl, rfl, rfl, rfl, rfl, trivial⟩ [0, 0, 0] rfl
      · rintro ⟨y2, x5⟩ _
        refine TC.seq ?_
        refine TC.wk (Γ' := [(0, .int .i64 x1), (1, SV.v s1), (4, bp b_1 0), (5, .int .i64 (x2.length : Int)), (6, bp b_2 0), (7, SV.v s3), (8, .int .i64 x4), (9, .int .i64 x5)]) ⟨rfl, rfl, rfl, rfl, rfl, rfl, rfl, rfl, trivial⟩ ?_
        refine TC.chk fun h10 => ?_
        refine TC.small fun h11 => ?_
        refine TC.drawG [(0, .int .i64 x1), (1, SV.v s1), (4, bp b_1 0), (5, .int .i64 (x2.length : Int)), (6, bp b_2 0), (7, SV.v s3), (8, .int .i64 x4), (9, .int .i64 x5)] [] ⟨rfl, rfl, rfl, rfl, rfl, rfl, rfl, rfl, trivial⟩ trivial (fun l_ g2 => [box b_1 45 [.one (.int .i64 0), .one (.int .i64 0), .arr 216 (enf u8v (fun _ => (0 : UInt8))), .arr 6 (enf u8v (fun _ => (0 : UInt8)))], box b_2 45 [.one (.int .i64 x1), .one (.int .i64 (x2.length : Int)), .arr 216 (enf u8v y2), .arr 6 (enf u8v (upd (fun _ => (0 : UInt8)) ((w64 ((x2.length : Int) - 1)).toNat) (1 : UInt8)))], row Ei 2 s3 x3, (bif nb l_ 6 then row Ei 2 (gs (g2 48)) (List.replicate (x2.length : Int).toNat (0 : Int)) else emp)]) (fun g2 => [SV.v s3, .int .i64 (x2.length : Int), .int .i64 (w64 ((x2.length : Int) - 1)), ep s3 ((w64 ((x2.length : Int) - 1)).toNat), .int .i64 (gt x3 (w64 ((x2.length : Int) - 1))), .int .i64 (x2.length : Int), SV.v (gs (g2 48)), .int .i64 (gt x3 (w64 ((x2.length : Int) - 1))), SV.v (gs (g2 48))]) [[], [], [1], [0, 1, 2], [0, 1, 2, 3], [], [5], [0, 1, 2, 3, 4], [0, 1, 2, 3, 4, 5, 6, 7]] [[some false, none, none, some false, some false, none, none, some false, some false], [none, some false, some false, some false, some false, none, none, some false, some false], [none, some true, some false, some false, some false, none, none, some false, some false], [some true, some true, some true, some false, some false, none, none, some false, some false], [some true, some true, some true, some true, some false, none, none, some false, some false], [none, none, none, none, none, some false, some false, none, some false], [none, none, none, none, none, some true, some false, none, some false], [some true, some true, some true, some true, some true, none, none, some false, some false], [some true, some true, some true, some true, some true, some true, some true, some true, some false]] (by kernel_rfl) (fun _ => rfl) rfl rfl rfl rfl rfl (fun _ _ => ⟨⟨⟨⟨⟨⟨⟨⟨⟨trivial, rfl⟩, rfl⟩, rfl⟩, rfl⟩, rfl⟩, rfl⟩, rfl⟩, rfl⟩, rfl⟩) 1 [1, 1, 1, 0] (fun _ => rfl) ?_ ?_
        · refine ⟨rfl, ?_, rfl, ?_, rfl, ?_, rfl, ?_, rfl, ?_, rfl, ?_, rfl, ?_, rfl, ?_, rfl, ?_, trivial⟩
          · intro b1_ b2_ b5_ b6_ g2
            refine TL.move rfl rfl (v := SV.v s3) rfl ?_
            refine TL.done ?_
            exact TC.nrm () [] ⟨rfl, trivial⟩ [0, 0, 0, 0] rfl
          · intro b0_ b5_ b6_ g2
            refine TL.move rfl rfl (v := .int .i64 (x2.length : Int)) rfl ?_
            refine TL.done ?_
            exact TC.nrm () [] ⟨rfl, trivial⟩ [0, 0, 0, 0] rfl
          · intro b0_ b5_ b6_ g2
            refine TL.bin .i64 (x2.length : Int) 1 rfl rfl rfl rfl (v := .int .i64 (w64 ((x2.length : Int) - 1))) rfl ?_
            refine TL.done ?_
            exact TC.nrm () [] ⟨rfl, trivial⟩ [0, 0, 0, 0] rfl
          · intro b5_ b6_ g2
            refine TL.asL [box b_1 45 [.one (.int .i64 0), .one (.int .i64 0), .arr 216 (enf u8v (fun _ => (0 : UInt8))), .arr 6 (enf u8v (fun _ => (0 : UInt8)))], box b_2 45 [.one (.int .i64 x1), .one (.int .i64 (x2.length : Int)), .arr 216 (enf u8v y2), .arr 6 (enf u8v (upd (fun _ => (0 : UInt8)) ((w64 ((x2.length : Int) - 1)).toNat) (1 : UInt8)))], row Ei 2 s3 x3, (bif b6_ then row Ei 2 (gs (g2 48)) (List.replicate (x2.length : Int).toNat (0 : Int)) else emp)] rfl ?_
            refine TL.ixs (w64 ((x2.length : Int) - 1)) ((w64 ((x2.length : Int) - 1)).toNat) (Rd.row 2 rfl) h10 Try.underlying22 Try.sizeOf2 rfl rfl rfl rfl (by omega) ?_
            refine TL.done ?_
            exact TC.nrm () [] ⟨rfl, trivial⟩ [0, 0, 0, 0] rfl
          · intro b5_ b6_ g2
            refine TL.asL [box b_1 45 [.one (.int .i64 0), .one (.int .i64 0), .arr 216 (enf u8v (fun _ => (0 : UInt8))), .arr 6 (enf u8v (fun _ => (0 : UInt8)))], box b_2 45 [.one (.int .i64 x1), .one (.int .i64 (x2.length : Int)), .arr 216 (enf u8v y2), .arr 6 (enf u8v (upd (fun _ => (0 : UInt8)) ((w64 ((x2.length : Int) - 1)).toNat) (1 : UInt8)))], row Ei 2 s3 x3, (bif b6_ then row Ei 2 (gs (g2 48)) (List.replicate (x2.length : Int).toNat (0 : Int)) else emp)] rfl ?_
            refine TL.loadE (Rd.row 2 rfl) Try.isAgg2 (w64 ((x2.length : Int) - 1)).toNat 0 (gt_spec h10) (v := .int .i64 (gt x3 (w64 ((x2.length : Int) - 1)))) rfl (by simp only [show Ei.sz = 1 from rfl]; omega) rfl rfl rfl ?_
            refine TL.done ?_
            exact TC.nrm () [] ⟨rfl, trivial⟩ [0, 0, 0, 0] rfl
          · intro b0_ b1_ b2_ b3_ b4_ b7_ g2
            refine TL.move rfl rfl (v := .int .i64 (x2.length : Int)) rfl ?_
            refine TL.done ?_
            exact TC.nrm () [] ⟨rfl, trivial⟩ [0, 0, 0, 0] rfl
          · intro b0_ b1_ b2_ b3_ b4_ b7_ g2
            refine TL.asL [box b_1 45 [.one (.int .i64 0), .one (.int .i64 0), .arr 216 (enf u8v (fun _ => (0 : UInt8))), .arr 6 (enf u8v (fun _ => (0 : UInt8)))], box b_2 45 [.one (.int .i64 x1), .one (.int .i64 (x2.length : Int)), .arr 216 (enf u8v y2), .arr 6 (enf u8v (upd (fun _ => (0 : UInt8)) ((w64 ((x2.length : Int) - 1)).toNat) (1 : UInt8)))], row Ei 2 s3 x3, emp] rfl ?_
            refine TL.mkslice Ei (0 : Int) (x2.length : Int) Try.underlying22 (info_of Try.type2) (zv := (Try.t2.zero.getD (.bool false))) rfl rfl rfl (by simp [Ei, flat, Seg.cells]) (by decide) (by omega) (by omega) rfl rfl rfl rfl fun s4 => ?_
            refine TL.done ?_
            exact TC.nrm () [[s4]] ⟨rfl, trivial⟩ [1, 1, 1, 0] rfl
          · intro b5_ b6_ g2
            refine TL.assign rfl rfl (v := .int .i64 (gt x3 (w64 ((x2.length : Int) - 1)))) rfl ?_
            refine TL.done ?_
            exact TC.nrm () [] ⟨rfl, trivial⟩ [0, 0, 0, 0] rfl
          · intro g2
            refine TL.assign rfl rfl (v := SV.v (gs (g2 48))) rfl ?_
            refine TL.done ?_
            exact TC.nrm () [] ⟨rfl, trivial⟩ [0, 0, 0, 0] rfl
        · intro g2
          refine TC.asL [box b_1 45 [.one (.int .i64 0), .one (.int .i64 0), .arr 216 (enf u8v (fun _ => (0 : UInt8))), .arr 6 (enf u8v (fun _ => (0 : UInt8)))], box b_2 45 [.one (.int .i64 x1), .one (.int .i64 (x2.length : Int)), .arr 216 (enf u8v y2), .arr 6 (enf u8v (upd (fun _ => (0 : UInt8)) ((w64 ((x2.length : Int) - 1)).toNat) (1 : UInt8)))], row Ei 2 s3 x3, row Ei 2 (gs (g2 48)) (List.replicate (x2.length : Int).toNat (0 : Int))] rfl ?_
          refine TC.seq ?_
          refine TC.seq ?_
          refine TC.region ?_
          refine TL.assign rfl rfl (v := .int .i64 0) rfl ?_
          refine TL.done ?_
          refine TC.loop1 (σ := (List Int) × Int) (γ := Unit) (Γ' := (fun p q => match p, q with | (l1, x7), _ => [(0, .int .i64 x1), (1, SV.v s1), (4, bp b_1 0), (5, .int .i64 (x2.length : Int)), (6, bp b_2 0), (7, SV.v s3), (8, .int .i64 x4), (11, .int .i64 (gt x3 (w64 ((x2.length : Int) - 1)))), (12, SV.v (gs (g2 48))), (13, .int .i64 x7)])) (L' := (fun p q => match p, q with | (l1, x7), _ => [box b_1 45 [.one (.int .i64 0), .one (.int .i64 0), .arr 216 (enf u8v (fun _ => (0 : UInt8))), .arr 6 (enf u8v (fun _ => (0 : UInt8)))], box b_2 45 [.one (.int .i64 x1), .one (.int .i64 (x2.length : Int)), .arr 216 (enf u8v y2), .arr 6 (enf u8v (upd (fun _ => (0 : UInt8)) ((w64 ((x2.length : Int) - 1)).toNat) (1 : UInt8)))], row Ei 2 s3 x3, row Ei 2 (gs (g2 48)) l1])) (Γb := (fun p q => match p, q with | (l1, x7), _ => [(0, .int .i64 x1), (1, SV.v s1), (4, bp b_1 0), (5, .int .i64 (x2.length : Int)), (6, bp b_2 0), (7, SV.v s3), (8, .int .i64 x4), (11, .int .i64 (gt x3 (w64 ((x2.length : Int) - 1)))), (12, SV.v (gs (g2 48))), (13, .int .i64 x7)])) (Lb := (fun p q => match p, q with | (l1, x7), _ => [box b_1 45 [.one (.int .i64 0), .one (.int .i64 0), .arr 216 (enf u8v (fun _ => (0 : UInt8))), .arr 6 (enf u8v (fun _ => (0 : UInt8)))], box b_2 45 [.one (.int .i64 x1), .one (.int .i64 (x2.length : Int)), .arr 216 (enf u8v y2), .arr 6 (enf u8v (upd (fun _ => (0 : UInt8)) ((w64 ((x2.length : Int) - 1)).toNat) (1 : UInt8)))], row Ei 2 s3 x3, row Ei 2 (gs (g2 48)) l1])) (((List.replicate (x2.length : Int).toNat (0 : Int)), 0)) (()) ⟨rfl, rfl, rfl, rfl, rfl, rfl, rfl, rfl, rfl, rfl, trivial⟩ [0, 0, 0, 0] rfl ?_ ?_
          · rintro ⟨l1, x7⟩ _
            refine TC.seq ?_
            refine TC.seq ?_
            refine TC.region ?_
            refine TL.move rfl rfl (v := .int .i64 x7) rfl ?_
            refine TL.move rfl rfl (v := .int .i64 (x2.length : Int)) rfl ?_
            refine TL.bin .i64 x7 (x2.length : Int) rfl rfl rfl rfl (v := .bool (decide (x7 < (x2.length : Int)))) rfl ?_
            refine TL.done ?_
            refine TC.cond (b := (decide (x7 < (x2.length : Int)))) rfl (fun c9 => ?_) (fun c10 => ?_)
            · refine TC.skip ?_
              refine TC.seq ?_
              refine TC.block (NoEx.loop1 rfl) ?_
              refine TC.seq ?_
              refine TC.seq ?_
              refine TC.region ?_
              refine TL.move rfl rfl (v := .int .i64 x7) rfl ?_
              refine TL.bin .i64 x7 0 rfl rfl rfl rfl (v := .bool (decide (x7 > 0))) rfl ?_
              refine TL.done ?_
              refine TC.join1 (σ := (List Int)) (γ := Unit) (Γ' := (fun l2 _ => [(0, .int .i64 x1), (1, SV.v s1), (4, bp b_1 0), (5, .int .i64 (x2.length : Int)), (6, bp b_2 0), (7, SV.v s3), (8, .int .i64 x4), (11, .int .i64 (gt x3 (w64 ((x2.length : Int) - 1)))), (12, SV.v (gs (g2 48))), (13, .int .i64 x7)])) (L' := (fun l2 _ => [box b_1 45 [.one (.int .i64 0), .one (.int .i64 0), .arr 216 (enf u8v (fun _ => (0 : UInt8))), .arr 6 (enf u8v (fun _ => (0 : UInt8)))], box b_2 45 [.one (.int .i64 x1), .one (.int .i64 (x2.length : Int)), .arr 216 (enf u8v y2), .arr 6 (enf u8v (upd (fun _ => (0 : UInt8)) ((w64 ((x2.length : Int) - 1)).toNat) (1 : UInt8)))], row Ei 2 s3 x3, row Ei 2 (gs (g2 48)) l2])) ?_ ?_
              · refine TC.cond (b := (decide (x7 > 0))) rfl (fun c11 => ?_) (fun c12 => ?_)
                · refine TC.region ?_
                  refine TL.move rfl rfl (v := SV.v (gs (g2 48))) rfl ?_
                  refine TL.move rfl rfl (v := .int .i64 x7) rfl ?_
                  refine TL.move rfl rfl (v := SV.v s3) rfl ?_
                  refine TL.move rfl rfl (v := .int .i64 x7) rfl ?_
                  refine TL.bin .i64 x7 1 rfl rfl rfl rfl (v := .int .i64 (w64 (x7 - 1))) rfl ?_
                  refine TL.chk fun h13 => ?_
                  refine TL.ixs (w64 (x7 - 1)) ((w64 (x7 - 1)).toNat) (Rd.row 2 rfl) h13 Try.underlying22 Try.sizeOf2 rfl rfl rfl rfl (by omega) ?_
                  refine TL.loadE (Rd.row 2 rfl) Try.isAgg2 (w64 (x7 - 1)).toNat 0 (gt_spec h13) (v := .int .i64 (gt x3 (w64 (x7 - 1)))) rfl (by simp only [show Ei.sz = 1 from rfl]; omega) rfl rfl rfl ?_
                  refine TL.chk fun h14 => ?_
                  refine TL.ixs x7 x7.toNat (Rd.row 3 rfl) h14 Try.underlying22 Try.sizeOf2 rfl rfl rfl rfl (by omega) ?_
                  refine TL.stE 3 (x7.toNat) (gt x3 (w64 (x7 - 1))) (v := .int .i64 (gt x3 (w64 (x7 - 1)))) rfl Try.sizeOf2 rfl rfl rfl (by have h_ := h14; omega) (by simp only [show Ei.sz = 1 from rfl]; omega) rfl rfl rfl ?_
                  refine TL.done ?_
                  exact TC.nrm ((l1.set x7.toNat (gt x3 (w64 (x7 - 1))))) (()) ⟨rfl, rfl, rfl, rfl, rfl, rfl, rfl, rfl, rfl, rfl, trivial⟩ [0, 0, 0, 0] rfl
                · refine TC.skip ?_
                  exact TC.nrm (l1) (()) ⟨rfl, rfl, rfl, rfl, rfl, rfl, rfl, rfl, rfl, rfl, trivial⟩ [0, 0, 0, 0] rfl
              · rintro l2 _
                refine TC.wk (Γ' := [(0, .int .i64 x1), (1, SV.v s1), (4, bp b_1 0), (5, .int .i64 (x2.length : Int)), (6, bp b_2 0), (7, SV.v s3), (8, .int .i64 x4), (11, .int .i64 (gt x3 (w64 ((x2.length : Int) - 1)))), (12, SV.v (gs (g2 48))), (13, .int .i64 x7)]) ⟨rfl, rfl, rfl, rfl, rfl, rfl, rfl, rfl, rfl, rfl, trivial⟩ ?_
                refine TC.chk fun h15 => ?_
                refine TC.chk fun h16 => ?_
                refine TC.bindE fun r_1 hr1 => ?_
                refine TC.draw [SV.v (gs (g2 48)), .int .i64 x7, .int .i64 x1, SV.v (gs (g2 48)), .int .i64 x7, ep (gs (g2 48)) x7.toNat, .int .i64 (gt l2 x7), .int .i64 (gt x3 (w64 ((x2.length : Int) - 1))), SV.v s1, .int .i64 x7, ep s1 x7.toNat, .int .i64 (gt x2 x7), .int .i64 (w64 ((gt x3 (w64 ((x2.length : Int) - 1))) * (gt x2 x7))), .int .i64 (w64 ((gt l2 x7) - (w64 ((gt x3 (w64 ((x2.length : Int) - 1))) * (gt x2 x7))))), .int .i64 r_1, ep (gs (g2 48)) x7.toNat, undef] 16 [box b_1 45 [.one (.int .i64 0), .one (.int .i64 0), .arr 216 (enf u8v (fun _ => (0 : UInt8))), .arr 6 (enf u8v (fun _ => (0 : UInt8)))], box b_2 45 [.one (.int .i64 x1), .one (.int .i64 (x2.length : Int)), .arr 216 (enf u8v y2), .arr 6 (enf u8v (upd (fun _ => (0 : UInt8)) ((w64 ((x2.length : Int) - 1)).toNat) (1 : UInt8)))], row Ei 2 s3 x3, row Ei 2 (gs (g2 48)) (l2.set x7.toNat r_1)] (by kernel_rfl) rfl rfl rfl rfl ?_ ?_
                · refine ⟨?_, ?_, ?_, ?_, ?_, ?_, ?_, ?_, ?_, ?_, ?_, ?_, ?_, ?_, ?_, ?_, ?_, trivial⟩
                  · refine TL.move rfl rfl (v := SV.v (gs (g2 48))) rfl ?_
                    refine TL.done ?_
                    exact TC.nrm () () ⟨rfl, trivial⟩ [0, 0, 0, 0] rfl
                  · refine TL.move rfl rfl (v := .int .i64 x7) rfl ?_
                    refine TL.done ?_
                    exact TC.nrm () () ⟨rfl, trivial⟩ [0, 0, 0, 0] rfl
                  · refine TL.move rfl rfl (v := .int .i64 x1) rfl ?_
                    refine TL.done ?_
                    exact TC.nrm () () ⟨rfl, trivial⟩ [0, 0, 0, 0] rfl
                  · refine TL.move rfl rfl (v := SV.v (gs (g2 48))) rfl ?_
                    refine TL.done ?_
                    exact TC.nrm () () ⟨rfl, trivial⟩ [0, 0, 0, 0] rfl
                  · refine TL.move rfl rfl (v := .int .i64 x7) rfl ?_
                    refine TL.done ?_
                    exact TC.nrm () () ⟨rfl, trivial⟩ [0, 0, 0, 0] rfl
                  · refine TL.ixs x7 x7.toNat (Rd.row 3 rfl) h15 Try.underlying22 Try.sizeOf2 rfl rfl rfl rfl (by omega) ?_
                    refine TL.done ?_
                    exact TC.nrm () () ⟨rfl, trivial⟩ [0, 0, 0, 0] rfl
                  · refine TL.loadE (Rd.row 3 rfl) Try.isAgg2 x7.toNat 0 (gt_spec h15) (v := .int .i64 (gt l2 x7)) rfl (by simp only [show Ei.sz = 1 from rfl]; omega) rfl rfl rfl ?_
                    refine TL.done ?_
                    exact TC.nrm () () ⟨rfl, trivial⟩ [0, 0, 0, 0] rfl
                  · refine TL.move rfl rfl (v := .int .i64 (gt x3 (w64 ((x2.length : Int) - 1)))) rfl ?_
                    refine TL.done ?_
                    exact TC.nrm () () ⟨rfl, trivial⟩ [0, 0, 0, 0] rfl
                  · refine TL.move rfl rfl (v := SV.v s1) rfl ?_
                    refine TL.done ?_
                    exact TC.nrm () () ⟨rfl, trivial⟩ [0, 0, 0, 0] rfl
                  · refine TL.move rfl rfl (v := .int .i64 x7) rfl ?_
                    refine TL.done ?_
                    exact TC.nrm () () ⟨rfl, trivial⟩ [0, 0, 0, 0] rfl
                  · refine TL.ixs x7 x7.toNat (Rd.old h1) h16 Try.underlying22 Try.sizeOf2 rfl rfl rfl rfl (by omega) ?_
                    refine TL.done ?_
                    exact TC.nrm () () ⟨rfl, trivial⟩ [0, 0, 0, 0] rfl
                  · refine TL.loadE (Rd.old h1) Try.isAgg2 x7.toNat 0 (gt_spec h16) (v := .int .i64 (gt x2 x7)) rfl (by simp only [show Ei.sz = 1 from rfl]; omega) rfl rfl rfl ?_
                    refine TL.done ?_
                    exact TC.nrm () () ⟨rfl, trivial⟩ [0, 0, 0, 0] rfl
                  · refine TL.bin .i64 (gt x3 (w64 ((x2.length : Int) - 1))) (gt x2 x7) rfl rfl rfl rfl (v := .int .i64 (w64 ((gt x3 (w64 ((x2.length : Int) - 1))) * (gt x2 x7)))) rfl ?_
                    refine TL.done ?_
                    exact TC.nrm () () ⟨rfl, trivial⟩ [0, 0, 0, 0] rfl
                  · refine TL.bin .i64 (gt l2 x7) (w64 ((gt x3 (w64 ((x2.length : Int) - 1))) * (gt x2 x7))) rfl rfl rfl rfl (v := .int .i64 (w64 ((gt l2 x7) - (w64 ((gt x3 (w64 ((x2.length : Int) - 1))) * (gt x2 x7)))))) rfl ?_
                    refine TL.done ?_
                    exact TC.nrm () () ⟨rfl, trivial⟩ [0, 0, 0, 0] rfl
                  · refine TL.callH (R := G.spec_l01Mod.R) hr1 Try.call112 rfl rfl rfl (fun w hS => G.spec_l01Mod.calls w x1 (w64 ((gt l2 x7) - (w64 ((gt x3 (w64 ((x2.length : Int) - 1))) * (gt x2 x7)))))) ?_
                    rintro _ _ ⟨rfl, rfl⟩
                    refine TL.done ?_
                    exact TC.nrm () () ⟨rfl, trivial⟩ [0, 0, 0, 0] rfl
                  · refine TL.ixs x7 x7.toNat (Rd.row 3 rfl) h15 Try.underlying22 Try.sizeOf2 rfl rfl rfl rfl (by omega) ?_
                    refine TL.done ?_
                    exact TC.nrm () () ⟨rfl, trivial⟩ [0, 0, 0, 0] rfl
                  · refine TL.stE 3 (x7.toNat) r_1 (v := .int .i64 r_1) rfl Try.sizeOf2 rfl rfl rfl (by have h_ := h15; omega) (by simp only [show Ei.sz = 1 from rfl]; omega) rfl rfl rfl ?_
                    refine TL.done ?_
                    exact TC.nrm () () trivial [0, 0, 0, 0] rfl
                · refine TC.region ?_
                  refine TL.move rfl rfl (v := .int .i64 x7) rfl ?_
                  refine TL.bin .i64 x7 1 rfl rfl rfl rfl (v := .int .i64 (w64 (x7 + 1))) rfl ?_
                  refine TL.assign rfl rfl (v := .int .i64 (w64 (x7 + 1))) rfl ?_
                  refine TL.done ?_
                  exact TC.next1 (((l2.set x7.toNat r_1), (w64 (x7 + 1)))) (()) ⟨rfl, rfl, rfl, rfl, rfl, rfl, rfl, rfl, rfl, rfl, trivial⟩ [0, 0, 0, 0] rfl
            · exact TC.brk1 ((l1, x7)) (()) ⟨rfl, rfl, rfl, rfl, rfl, rfl, rfl, rfl, rfl, rfl, trivial⟩ [0, 0, 0, 0] rfl
          · rintro ⟨l1, x7⟩ _
            refine TC.region ?_
            refine TL.move rfl rfl (v := SV.v (gs (g2 48))) rfl ?_
            refine TL.assign rfl rfl (v := SV.v (gs (g2 48))) rfl ?_
            refine TL.done ?_
            refine TC.region ?_
            refine TL.move rfl rfl (v := .int .i64 x4) rfl ?_
            refine TL.bin .i64 x4 1 rfl rfl rfl rfl (v := .int .i64 (w64 (x4 + 1))) rfl ?_
            refine TL.assign rfl rfl (v := .int .i64 (w64 (x4 + 1))) rfl ?_
            refine TL.done ?_
            exact TC.next1 ((y2, l1, (w64 (x4 + 1)))) ((gs (g2 48))) ⟨rfl, rfl, rfl, rfl, rfl, rfl, rfl, trivial⟩ [0, 0, 1] rfl
    · exact TC.brk1 ((y1, x3, x4)) (s3) ⟨rfl, rfl, rfl, rfl, rfl, rfl, rfl, trivial⟩ [0, 0, 0] rfl
  · rintro ⟨y1, x3, x4⟩ s3
    refine TC.seq ?_
    refine TC.region ?_
    refine TL.loadM 0 4 (Src.box 1 rfl) Try.isAgg45 Try.sizeOf45 (mid := [.one (.int .i64 x1), .one (.int .i64 (x2.length : Int)), .arr 216 (enf u8v y1), .arr 6 (enf u8v (upd (fun _ => (0 : UInt8)) ((w64 ((x2.length : Int) - 1)).toNat) (1 : UInt8)))]) rfl rfl rfl rfl rfl rfl ?_
    refine TL.stM (news := [.one (.int .i64 x1), .one (.int .i64 (x2.length : Int)), .arr 216 (enf u8v y1), .arr 6 (enf u8v (upd (fun _ => (0 : UInt8)) ((w64 ((x2.length : Int) - 1)).toNat) (1 : UInt8)))]) 0 0 4 rfl Try.sizeOf45 (ones_one rfl (ones_one rfl (ones_arr (fun _ => rfl) (ones_arr (fun _ => rfl) ones_nil)))) rfl rfl rfl rfl rfl rfl ?_
    refine TL.done ?_
    exact TC.retF (Fin.body (fin1 (.inr rfl) rfl (.cellN rfl (Src.box 0 rfl) Try.isAgg45 Try.sizeOf45 rfl) [] rfl ⟨rfl, rfl⟩))

end Go.Proofs.Ytcombgcjgdkbiaa.G

/- spec.PolynomialAlgebra, as a pure function. -/
set_option linter.unusedVariables false
namespace Go.Proofs.Ytcombgcjgdkbiaa.G
open Go Go.Sx Go.Proofs

def spec_PolynomialAlgebra.f (p1 : Int) (list_1 : List Int) : Option (Int × Int × (Nat → UInt8) × (Nat → UInt8) × Int) := (G.spec_l09Poly.f p1 list_1).bind (fun r_1 => (bif (r_1 != 0) then some (0, 0, (fun _ => (0 : UInt8)), (fun _ => (0 : UInt8)), r_1) else (G.spec_l09Algebra.f p1 list_1).bind (fun p => match p with | (r_2, r_3, r_4, r_5) => some (r_2, r_3, r_4, r_5, 0))))

def spec_PolynomialAlgebra.R (r : Int × Int × (Nat → UInt8) × (Nat → UInt8) × Int) (v : Value) (L : List Asn) : Prop := v = .tuple #[sval [.one (.int .i64 r.1), .one (.int .i64 r.2.1), .arr 216 (enf u8v r.2.2.1), .arr 6 (enf u8v r.2.2.2.1)], .int .i64 r.2.2.2.2] ∧ L = []

set_option maxRecDepth 100000 in
set_option maxHeartbeats 4000000 in
theorem spec_PolynomialAlgebra.calls (w : World) (p1 : Int) (s1 : SV) (list_1 : List Int) (h1 : Reads Ei (hp w) s1 list_1) :
    ∀ r, spec_PolynomialAlgebra.f p1 list_1 = some r → Calls Try.prog 33 #[.int .i64 p1, SV.v s1] w (Ret w (spec_PolynomialAlgebra.R r)) := by

  refine calls_T (n := 17) (Γ := [(0, .int .i64 p1), (1, SV.v s1)]) (R := spec_PolynomialAlgebra.R) Try.func33 rfl rfl (Nat.le_of_ble_eq_true rfl) ⟨rfl, rfl, trivial⟩ ?_
  unfold spec_PolynomialAlgebra.f
  refine TC.seq ?_
  refine TC.region ?_
  refine TL.alloc [.one (.int .i64 0), .one (.int .i64 0), .arr 216 (enf u8v (fun _ => (0 : UInt8))), .arr 6 (enf u8v (fun _ => (0 : UInt8)))] rfl rfl Try.zeroValue45 rfl fun b_1 => ?_
  refine TL.assign rfl rfl (v := .int .i64 0) rfl ?_
  refine TL.done ?_
  refine TC.seq ?_
  refine TC.seq ?_
  refine TC.region ?_
  refine TL.move rfl rfl (v := .int .i64 p1) rfl ?_
  refine TL.move rfl rfl (v := SV.v s1) rfl ?_
  refine TL.call (R := G.spec_l09Poly.R) Try.call50 rfl rfl rfl (fun w hS => G.spec_l09Poly.calls w p1 s1 list_1 ((Rd.old h1) w hS)) ?_
  rintro r_1 _ _ ⟨rfl, rfl⟩
  refine TL.assign rfl rfl (v := .int .i64 r_1) rfl ?_
  refine TL.done ?_
  refine TC.seq ?_
  refine TC.region ?_
  refine TL.move rfl rfl (v := .int .i64 r_1) rfl ?_
  refine TL.bin .i64 r_1 0 rfl rfl rfl rfl (v := .bool (r_1 != 0)) rfl ?_
  refine TL.done ?_
  refine TC.cond (b := (r_1 != 0)) rfl (fun c1 => ?_) (fun c2 => ?_)
  · refine TC.seq ?_
    refine TC.region ?_
    refine TL.buildS (segs0 := [.one (.int .i64 0), .one (.int .i64 0), .arr 216 (enf u8v (fun _ => (0 : UInt8))), .arr 6 (enf u8v (fun _ => (0 : UInt8)))]) (segs := [.one (.int .i64 0), .one (.int .i64 0), .arr 216 (enf u8v (fun _ => (0 : UInt8))), .arr 6 (enf u8v (fun _ => (0 : UInt8)))]) [1, 1, 216, 6] Try.underlying45 ⟨Try.sizeOf2, Try.sizeOf2, Try.sizeOf42, Try.sizeOf43, trivial⟩ Try.zeroValue45 rfl [] rfl (fun pl hpl => by subst hpl; exact rfl) rfl rfl ?_
    refine TL.move rfl rfl (v := .int .i64 r_1) rfl ?_
    refine TL.stM (news := [.one (.int .i64 0), .one (.int .i64 0), .arr 216 (enf u8v (fun _ => (0 : UInt8))), .arr 6 (enf u8v (fun _ => (0 : UInt8)))]) 0 0 4 rfl Try.sizeOf45 (ones_one rfl (ones_one rfl (ones_arr (fun _ => rfl) (ones_arr (fun _ => rfl) ones_nil)))) rfl rfl rfl rfl rfl rfl ?_
    refine TL.assign rfl rfl (v := .int .i64 r_1) rfl ?_
    refine TL.done ?_
    exact TC.retF (Fin.body (fin2 (.inr rfl) rfl (.cellN rfl (Src.box 0 rfl) Try.isAgg45 Try.sizeOf45 rfl) (.tmp rfl) [] rfl ⟨rfl, rfl⟩))
  · refine TC.skip ?_
    refine TC.seq ?_
    refine TC.region ?_
    refine TL.move rfl rfl (v := .int .i64 p1) rfl ?_
    refine TL.move rfl rfl (v := SV.v s1) rfl ?_
    refine TL.call (R := G.spec_l09Algebra.R) Try.call85 rfl rfl rfl (fun w hS => G.spec_l09Algebra.calls w p1 s1 list_1 ((Rd.old h1) w hS)) ?_
    rintro ⟨r_2, r_3, r_4, r_5⟩ _ _ ⟨rfl, rfl⟩
    refine TL.stM (news := [.one (.int .i64 r_2), .one (.int .i64 r_3), .arr 216 (enf u8v r_4), .arr 6 (enf u8v r_5)]) 0 0 4 rfl Try.sizeOf45 (ones_one rfl (ones_one rfl (ones_arr (fun _ => rfl) (ones_arr (fun _ => rfl) ones_nil)))) rfl rfl rfl rfl rfl rfl ?_
    refine TL.assign rfl rfl (v := .int .i64 0) rfl ?_
    refine TL.done ?_
    exact TC.retF (Fin.body (fin2 (.inr rfl) rfl (.cellN rfl (Src.box 0 rfl) Try.isAgg45 Try.sizeOf45 rfl) (.tmp rfl) [] rfl ⟨rfl, rfl⟩))

end Go.Proofs.Ytcombgcjgdkbiaa.G

/- impl.in, as a pure function. -/
set_option linter.unusedVariables false
namespace Go.Proofs.Ytcombgcjgdkbiaa.G
open Go Go.Sx Go.Proofs

def impl_in.f (n_1 : Int) (low1 : Int) (high1 : Int) : Option Bool := some ((decide (n_1 ≥ low1)) && (decide (n_1 ≤ high1)))

def impl_in.R (r : Bool) (v : Value) (L : List Asn) : Prop := v = .bool r ∧ L = []

set_option maxRecDepth 100000 in
set_option maxHeartbeats 4000000 in
theorem impl_in.calls (w : World) (n_1 : Int) (low1 : Int) (high1 : Int) :
    ∀ r, impl_in.f n_1 low1 high1 = some r → Calls Try.prog 57 #[.int .i64 n_1, .int .i64 low1, .int .i64 high1] w (Ret w (impl_in.R r)) := by

  refine calls_T (n := 15) (Γ := [(0, .int .i64 n_1), (1, .int .i64 low1), (2, .int .i64 high1)]) (R := impl_in.R) Try.func57 rfl rfl (Nat.le_of_ble_eq_true rfl) ⟨rfl, rfl, rfl, trivial⟩ ?_
  unfold impl_in.f
  refine TC.seq ?_
  refine TC.region ?_
  refine TL.assign rfl rfl (v := .bool false) rfl ?_
  refine TL.done ?_
  refine TC.seq ?_
  refine TC.region ?_
  refine TL.move rfl rfl (v := .int .i64 n_1) rfl ?_
  refine TL.move rfl rfl (v := .int .i64 low1) rfl ?_
  refine TL.bin .i64 n_1 low1 rfl rfl rfl rfl (v := .bool (decide (n_1 ≥ low1))) rfl ?_
  refine TL.move rfl rfl (v := .bool (decide (n_1 ≥ low1))) rfl ?_
  refine TL.cutU 4 [(14, .bool ((decide (n_1 ≥ low1)) && (decide (n_1 ≤ high1)))), (0, .int .i64 n_1), (1, .int .i64 low1), (2, .int .i64 high1), (6, .bool false), (7, .int .i64 n_1), (8, .int .i64 low1), (9, .bool (decide (n_1 ≥ low1))), (10, .bool (decide (n_1 ≥ low1)))] [] ?_ ?_
  · refine TL.cases (t := 10) (b := (decide (n_1 ≥ low1))) rfl (fun c1 => ?_) (fun c2 => ?_)
    · refine TL.move rfl rfl (v := .int .i64 n_1) rfl ?_
      refine TL.move rfl rfl (v := .int .i64 high1) rfl ?_
      refine TL.bin .i64 n_1 high1 rfl rfl rfl rfl (v := .bool (decide (n_1 ≤ high1))) rfl ?_
      refine TL.pick rfl rfl (b := true) rfl (r := .bool (decide (n_1 ≤ high1))) rfl ?_
      refine TL.done ?_
      exact TC.nrm () () ⟨(by rw [c1]; rfl), rfl, rfl, rfl, rfl, rfl, rfl, rfl, (by rw [c1]; rfl), trivial⟩ [] rfl
    · refine TL.skip rfl rfl (by decide) ?_
      refine TL.skip rfl rfl (by decide) ?_
      refine TL.skip rfl rfl (by decide) ?_
      refine TL.pick rfl rfl (b := false) rfl (r := .bool false) rfl ?_
      refine TL.done ?_
      exact TC.nrm () () ⟨(by rw [c2]; rfl), rfl, rfl, rfl, rfl, rfl, rfl, rfl, (by rw [c2]; rfl), trivial⟩ [] rfl
  · refine TL.assign rfl rfl (v := .bool ((decide (n_1 ≥ low1)) && (decide (n_1 ≤ high1)))) rfl ?_
    refine TL.done ?_
    exact TC.retF (Fin.body (fin1 (.inr rfl) rfl (.tmp rfl) [] rfl ⟨rfl, rfl⟩))

end Go.Proofs.Ytcombgcjgdkbiaa.G
