/- Functions of the program, as pure functions. -/
import Derived.Test.YtcombgcjgdkbiaaSy2
import Derived.Test.YtcombgcjgdkbiaaProg
/- laws.toByteA6, as a pure function. -/
set_option linter.unusedVariables false
namespace Go.Proofs.Ytcombgcjgdkbiaa.G
open Go Go.Sx Go.Proofs

def laws_toByteA6.b0 (a_1 : Nat → UInt8) : (Nat → UInt8) × Int → Option (LB ((Nat → UInt8) × Int)) := fun p => match p with | (out1, i1) => (bif (decide (i1 < 6)) then chk i1 6 (some (.next ((upd out1 i1.toNat (a_1 i1.toNat)), (w64 (i1 + 1))))) else some (.brk (out1, i1)))

def laws_toByteA6.f (a_1 : Nat → UInt8) : Option (Nat → UInt8) := (loop1 (laws_toByteA6.b0 a_1) ((fun _ => (0 : UInt8)), 0)).bind (fun p => match p with | (out1, i1) => some out1)

def laws_toByteA6.R (r : Nat → UInt8) (v : Value) (L : List Asn) : Prop := v = sval [.arr 6 (enf u8v r)] ∧ L = []

set_option maxRecDepth 100000 in
set_option maxHeartbeats 4000000 in
theorem laws_toByteA6.calls (w : World) (a_1 : Nat → UInt8) :
    ∀ r, laws_toByteA6.f a_1 = some r → Calls Try.prog 113 #[sval [.arr 6 (enf u8v a_1)]] w (Ret w (laws_toByteA6.R r)) := by

  refine calls_T (n := 15) (Γ := [(0, sval [.arr 6 (enf u8v a_1)])]) (R := laws_toByteA6.R) Try.func113 rfl rfl (Nat.le_of_ble_eq_true rfl) ⟨rfl, trivial⟩ ?_
  unfold laws_toByteA6.f
  refine TC.seq ?_
  refine TC.region ?_
  refine TL.box [.arr 6 (enf u8v a_1)] rfl rfl rfl rfl fun b_1 => ?_
  refine TL.alloc [.arr 6 (enf u8v (fun _ => (0 : UInt8)))] rfl rfl Try.zeroValue32 rfl fun b_2 => ?_
  refine TL.done ?_
  refine TC.seq ?_
  refine TC.region ?_
  refine TL.alloc [.arr 6 (enf u8v (fun _ => (0 : UInt8)))] rfl rfl Try.zeroValue32 rfl fun b_3 => ?_
  refine TL.done ?_
  refine TC.seq ?_
  refine TC.seq ?_
  refine TC.region ?_
  refine TL.assign rfl rfl (v := .int .i64 0) rfl ?_
  refine TL.done ?_
  refine TC.loop1 (σ := (Nat → UInt8) × Int) (γ := Unit) (Γ' := (fun p q => match p, q with | (out1, i1), _ => [(1, bp b_1 0), (2, bp b_2 0), (3, bp b_3 0), (4, .int .i64 i1)])) (L' := (fun p q => match p, q with | (out1, i1), _ => [box b_1 32 [.arr 6 (enf u8v a_1)], box b_2 32 [.arr 6 (enf u8v (fun _ => (0 : UInt8)))], box b_3 32 [.arr 6 (enf u8v out1)]])) (Γb := (fun p q => match p, q with | (out1, i1), _ => [(1, bp b_1 0), (2, bp b_2 0), (3, bp b_3 0), (4, .int .i64 i1)])) (Lb := (fun p q => match p, q with | (out1, i1), _ => [box b_1 32 [.arr 6 (enf u8v a_1)], box b_2 32 [.arr 6 (enf u8v (fun _ => (0 : UInt8)))], box b_3 32 [.arr 6 (enf u8v out1)]])) (((fun _ => (0 : UInt8)), 0)) (()) ⟨rfl, rfl, rfl, rfl, trivial⟩ [2, 1, 0] rfl ?_ ?_
  · rintro ⟨out1, i1⟩ _
    refine TC.seq ?_
    refine TC.seq ?_
    refine TC.region ?_
    refine TL.move rfl rfl (v := .int .i64 i1) rfl ?_
    refine TL.bin .i64 i1 6 rfl rfl rfl rfl (v := .bool (decide (i1 < 6))) rfl ?_
    refine TL.done ?_
    refine TC.cond (b := (decide (i1 < 6))) rfl (fun c1 => ?_) (fun c2 => ?_)
    · refine TC.skip ?_
      refine TC.seq ?_
      refine TC.block (NoEx.loop1 rfl) ?_
      refine TC.region ?_
      refine TL.move rfl rfl (v := .int .i64 i1) rfl ?_
      refine TL.move rfl rfl (v := .int .i64 i1) rfl ?_
      refine TL.chk fun h1 => ?_
      refine TL.ixa i1 i1.toNat h1 Try.underlying32 Try.sizeOf5 rfl rfl rfl rfl (by omega) ?_
      refine TL.loadA i1.toNat 0 (Src.box 0 rfl) Try.isAgg5 rfl (by omega) (v := u8v (a_1 i1.toNat)) rfl (st := 0) rfl (by omega) rfl rfl rfl ?_
      refine TL.ixa i1 i1.toNat h1 Try.underlying32 Try.sizeOf5 rfl rfl rfl rfl (by omega) ?_
      refine TL.stA (e := u8v) (z := (a_1 i1.toNat)) 2 0 i1.toNat rfl Try.sizeOf5 rfl (by omega) (s := 0) rfl (by omega) rfl rfl rfl rfl rfl ?_
      refine TL.done ?_
      refine TC.region ?_
      refine TL.move rfl rfl (v := .int .i64 i1) rfl ?_
      refine TL.bin .i64 i1 1 rfl rfl rfl rfl (v := .int .i64 (w64 (i1 + 1))) rfl ?_
      refine TL.assign rfl rfl (v := .int .i64 (w64 (i1 + 1))) rfl ?_
      refine TL.done ?_
      exact TC.next1 (((upd out1 i1.toNat (a_1 i1.toNat)), (w64 (i1 + 1)))) (()) ⟨rfl, rfl, rfl, rfl, trivial⟩ [0, 0, 0] rfl
    · exact TC.brk1 ((out1, i1)) (()) ⟨rfl, rfl, rfl, rfl, trivial⟩ [0, 0, 0] rfl
  · rintro ⟨out1, i1⟩ _
    refine TC.seq ?_
    refine TC.region ?_
    refine TL.loadM 0 1 (Src.box 2 rfl) Try.isAgg32 Try.sizeOf32 (mid := [.arr 6 (enf u8v out1)]) rfl rfl rfl rfl rfl rfl ?_
    refine TL.stM (news := [.arr 6 (enf u8v out1)]) 1 0 1 rfl Try.sizeOf32 (ones_arr (fun _ => rfl) ones_nil) rfl rfl rfl rfl rfl rfl ?_
    refine TL.done ?_
    exact TC.retF (Fin.body (fin1 (.inr rfl) rfl (.cellN rfl (Src.box 1 rfl) Try.isAgg32 Try.sizeOf32 rfl) [] rfl ⟨rfl, rfl⟩))

end Go.Proofs.Ytcombgcjgdkbiaa.G

/- laws.toByteA6A6, as a pure function. -/
set_option linter.unusedVariables false
namespace Go.Proofs.Ytcombgcjgdkbiaa.G
open Go Go.Sx Go.Proofs

def laws_toByteA6A6.b0 (a_1 : Nat → UInt8) : (Nat → UInt8) × Int → Option (LB ((Nat → UInt8) × Int)) := fun p => match p with | (out1, i1) => (bif (decide (i1 < 6)) then chk i1 6 ((G.laws_toByteA6.f (sub a_1 (i1.toNat * 6))).bind (fun r_1 => some (.next ((updN out1 (i1.toNat * 6) 6 r_1), (w64 (i1 + 1)))))) else some (.brk (out1, i1)))

def laws_toByteA6A6.f (a_1 : Nat → UInt8) : Option (Nat → UInt8) := (loop1 (laws_toByteA6A6.b0 a_1) ((fun _ => (0 : UInt8)), 0)).bind (fun p => match p with | (out1, i1) => some out1)

def laws_toByteA6A6.R (r : Nat → UInt8) (v : Value) (L : List Asn) : Prop := v = sval [.arr 36 (enf u8v r)] ∧ L = []

set_option maxRecDepth 100000 in
set_option maxHeartbeats 4000000 in
theorem laws_toByteA6A6.calls (w : World) (a_1 : Nat → UInt8) :
    ∀ r, laws_toByteA6A6.f a_1 = some r → Calls Try.prog 63 #[sval [.arr 36 (enf u8v a_1)]] w (Ret w (laws_toByteA6A6.R r)) := by

  refine calls_T (n := 16) (Γ := [(0, sval [.arr 36 (enf u8v a_1)])]) (R := laws_toByteA6A6.R) Try.func63 rfl rfl (Nat.le_of_ble_eq_true rfl) ⟨rfl, trivial⟩ ?_
  unfold laws_toByteA6A6.f
  refine TC.seq ?_
  refine TC.region ?_
  refine TL.box [.arr 36 (enf u8v a_1)] rfl rfl rfl rfl fun b_1 => ?_
  refine TL.alloc [.arr 36 (enf u8v (fun _ => (0 : UInt8)))] rfl rfl Try.zeroValue33 rfl fun b_2 => ?_
  refine TL.done ?_
  refine TC.seq ?_
  refine TC.region ?_
  refine TL.alloc [.arr 36 (enf u8v (fun _ => (0 : UInt8)))] rfl rfl Try.zeroValue33 rfl fun b_3 => ?_
  refine TL.done ?_
  refine TC.seq ?_
  refine TC.seq ?_
  refine TC.region ?_
  refine TL.assign rfl rfl (v := .int .i64 0) rfl ?_
  refine TL.done ?_
  refine TC.loop1 (σ := (Nat → UInt8) × Int) (γ := Unit) (Γ' := (fun p q => match p, q with | (out1, i1), _ => [(1, bp b_1 0), (2, bp b_2 0), (3, bp b_3 0), (4, .int .i64 i1)])) (L' := (fun p q => match p, q with | (out1, i1), _ => [box b_1 33 [.arr 36 (enf u8v a_1)], box b_2 33 [.arr 36 (enf u8v (fun _ => (0 : UInt8)))], box b_3 33 [.arr 36 (enf u8v out1)]])) (Γb := (fun p q => match p, q with | (out1, i1), _ => [(1, bp b_1 0), (2, bp b_2 0), (3, bp b_3 0), (4, .int .i64 i1)])) (Lb := (fun p q => match p, q with | (out1, i1), _ => [box b_1 33 [.arr 36 (enf u8v a_1)], box b_2 33 [.arr 36 (enf u8v (fun _ => (0 : UInt8)))], box b_3 33 [.arr 36 (enf u8v out1)]])) (((fun _ => (0 : UInt8)), 0)) (()) ⟨rfl, rfl, rfl, rfl, trivial⟩ [2, 1, 0] rfl ?_ ?_
  · rintro ⟨out1, i1⟩ _
    refine TC.seq ?_
    refine TC.seq ?_
    refine TC.region ?_
    refine TL.move rfl rfl (v := .int .i64 i1) rfl ?_
    refine TL.bin .i64 i1 6 rfl rfl rfl rfl (v := .bool (decide (i1 < 6))) rfl ?_
    refine TL.done ?_
    refine TC.cond (b := (decide (i1 < 6))) rfl (fun c1 => ?_) (fun c2 => ?_)
    · refine TC.skip ?_
      refine TC.seq ?_
      refine TC.block (NoEx.loop1 rfl) ?_
      refine TC.region ?_
      refine TL.move rfl rfl (v := .int .i64 i1) rfl ?_
      refine TL.move rfl rfl (v := .int .i64 i1) rfl ?_
      refine TL.chk fun h1 => ?_
      refine TL.ixa i1 (i1.toNat * 6) h1 Try.underlying33 Try.sizeOf32 rfl rfl rfl rfl (by omega) ?_
      refine TL.loadS (i1.toNat * 6) 0 (Src.box 0 rfl) Try.isAgg32 Try.sizeOf32 rfl (by omega) (v := sval [.arr 6 (enf u8v (sub a_1 (i1.toNat * 6)))]) rfl (st := 0) rfl (by omega) rfl rfl rfl ?_
      refine TL.call (R := G.laws_toByteA6.R) Try.call113 rfl rfl rfl (fun w hS => G.laws_toByteA6.calls w (sub a_1 (i1.toNat * 6))) ?_
      rintro r_1 _ _ ⟨rfl, rfl⟩
      refine TL.ixa i1 (i1.toNat * 6) h1 Try.underlying33 Try.sizeOf32 rfl rfl rfl rfl (by omega) ?_
      refine TL.stS (e := u8v) 2 0 (i1.toNat * 6) rfl Try.sizeOf32 (fun _ => rfl) rfl (by omega) (s := 0) rfl (by omega) rfl rfl rfl ?_
      refine TL.done ?_
      refine TC.region ?_
      refine TL.move rfl rfl (v := .int .i64 i1) rfl ?_
      refine TL.bin .i64 i1 1 rfl rfl rfl rfl (v := .int .i64 (w64 (i1 + 1))) rfl ?_
      refine TL.assign rfl rfl (v := .int .i64 (w64 (i1 + 1))) rfl ?_
      refine TL.done ?_
      exact TC.next1 (((updN out1 (i1.toNat * 6) 6 r_1), (w64 (i1 + 1)))) (()) ⟨rfl, rfl, rfl, rfl, trivial⟩ [0, 0, 0] rfl
    · exact TC.brk1 ((out1, i1)) (()) ⟨rfl, rfl, rfl, rfl, trivial⟩ [0, 0, 0] rfl
  · rintro ⟨out1, i1⟩ _
    refine TC.seq ?_
    refine TC.region ?_
    refine TL.loadM 0 1 (Src.box 2 rfl) Try.isAgg33 Try.sizeOf33 (mid := [.arr 36 (enf u8v out1)]) rfl rfl rfl rfl rfl rfl ?_
    refine TL.stM (news := [.arr 36 (enf u8v out1)]) 1 0 1 rfl Try.sizeOf33 (ones_arr (fun _ => rfl) ones_nil) rfl rfl rfl rfl rfl rfl ?_
    refine TL.done ?_
    exact TC.retF (Fin.body (fin1 (.inr rfl) rfl (.cellN rfl (Src.box 1 rfl) Try.isAgg33 Try.sizeOf33 rfl) [] rfl ⟨rfl, rfl⟩))

end Go.Proofs.Ytcombgcjgdkbiaa.G

/- laws.toGroup, as a pure function. -/
set_option linter.unusedVariables false
namespace Go.Proofs.Ytcombgcjgdkbiaa.G
open Go Go.Sx Go.Proofs

def laws_toGroup.f (a_1 : Int) (a_2 : Nat → UInt8) : Option (Int × (Nat → UInt8)) := (G.laws_toByteA6A6.f a_2).bind (fun r_1 => some (a_1, r_1))

def laws_toGroup.R (r : Int × (Nat → UInt8)) (v : Value) (L : List Asn) : Prop := v = sval [.one (.int .i64 r.1), .arr 36 (enf u8v r.2)] ∧ L = []

set_option maxRecDepth 100000 in
set_option maxHeartbeats 4000000 in
theorem laws_toGroup.calls (w : World) (a_1 : Int) (a_2 : Nat → UInt8) :
    ∀ r, laws_toGroup.f a_1 a_2 = some r → Calls Try.prog 24 #[sval [.one (.int .i64 a_1), .arr 36 (enf u8v a_2)]] w (Ret w (laws_toGroup.R r)) := by

  refine calls_T (n := 12) (Γ := [(0, sval [.one (.int .i64 a_1), .arr 36 (enf u8v a_2)])]) (R := laws_toGroup.R) Try.func24 rfl rfl (Nat.le_of_ble_eq_true rfl) ⟨rfl, trivial⟩ ?_
  unfold laws_toGroup.f
  refine TC.seq ?_
  refine TC.region ?_
  refine TL.box [.one (.int .i64 a_1), .arr 36 (enf u8v a_2)] rfl rfl rfl rfl fun b_1 => ?_
  refine TL.alloc [.one (.int .i64 0), .arr 36 (enf u8v (fun _ => (0 : UInt8)))] rfl rfl Try.zeroValue37 rfl fun b_2 => ?_
  refine TL.done ?_
  refine TC.seq ?_
  refine TC.region ?_
  refine TL.alloc [.one (.int .i64 0), .arr 36 (enf u8v (fun _ => (0 : UInt8)))] rfl rfl Try.zeroValue37 rfl fun b_3 => ?_
  refine TL.done ?_
  refine TC.seq ?_
  refine TC.region ?_
  refine TL.fa Try.underlying35 rfl Try.sizeOf2 rfl 0 rfl rfl rfl rfl ?_
  refine TL.load1 0 (Src.box 2 rfl) Try.isAgg2 rfl rfl rfl rfl rfl ?_
  refine TL.fa Try.underlying37 rfl Try.sizeOf2 rfl 0 rfl rfl rfl rfl ?_
  refine TL.st1 0 0 rfl Try.sizeOf2 rfl rfl rfl rfl rfl rfl rfl ?_
  refine TL.done ?_
  refine TC.seq ?_
  refine TC.region ?_
  refine TL.fa Try.underlying35 rfl Try.sizeOf33 rfl 1 rfl rfl rfl rfl ?_
  refine TL.loadM 1 1 (Src.box 2 rfl) Try.isAgg33 Try.sizeOf33 (mid := [.arr 36 (enf u8v a_2)]) rfl rfl rfl rfl rfl rfl ?_
  refine TL.call (R := G.laws_toByteA6A6.R) Try.call63 rfl rfl rfl (fun w hS => G.laws_toByteA6A6.calls w a_2) ?_
  rintro r_1 _ _ ⟨rfl, rfl⟩
  refine TL.fa Try.underlying37 rfl Try.sizeOf33 rfl 1 rfl rfl rfl rfl ?_
  refine TL.stM (news := [.arr 36 (enf u8v r_1)]) 0 1 1 rfl Try.sizeOf33 (ones_arr (fun _ => rfl) ones_nil) rfl rfl rfl rfl rfl rfl ?_
  refine TL.done ?_
  refine TC.seq ?_
  refine TC.region ?_
  refine TL.loadM 0 2 (Src.box 0 rfl) Try.isAgg37 Try.sizeOf37 (mid := [.one (.int .i64 a_1), .arr 36 (enf u8v r_1)]) rfl rfl rfl rfl rfl rfl ?_
  refine TL.stM (news := [.one (.int .i64 a_1), .arr 36 (enf u8v r_1)]) 1 0 2 rfl Try.sizeOf37 (ones_one rfl (ones_arr (fun _ => rfl) ones_nil)) rfl rfl rfl rfl rfl rfl ?_
  refine TL.done ?_
  exact TC.retF (Fin.body (fin1 (.inr rfl) rfl (.cellN rfl (Src.box 1 rfl) Try.isAgg37 Try.sizeOf37 rfl) [] rfl ⟨rfl, rfl⟩))

end Go.Proofs.Ytcombgcjgdkbiaa.G

/- laws.eqByteA6, as a pure function. -/
set_option linter.unusedVariables false
namespace Go.Proofs.Ytcombgcjgdkbiaa.G
open Go Go.Sx Go.Proofs

def laws_eqByteA6.b0 (a_1 : Nat → UInt8) (b_1 : Nat → UInt8) : Int → Option (LR Int Bool) := fun i1 => (bif (decide (i1 < 6)) then chk i1 6 ((bif (((a_1 i1.toNat).toNat : Int) != ((b_1 i1.toNat).toNat : Int)) then some (.ret (false)) else some (.next (w64 (i1 + 1))))) else some (.brk i1))

def laws_eqByteA6.f (a_1 : Nat → UInt8) (b_1 : Nat → UInt8) : Option Bool := (loop (laws_eqByteA6.b0 a_1 b_1) 0).bind (ln (fun i1 => some true))

def laws_eqByteA6.R (r : Bool) (v : Value) (L : List Asn) : Prop := v = .bool r ∧ L = []

set_option maxRecDepth 100000 in
set_option maxHeartbeats 4000000 in
theorem laws_eqByteA6.calls (w : World) (a_1 : Nat → UInt8) (b_1 : Nat → UInt8) :
    ∀ r, laws_eqByteA6.f a_1 b_1 = some r → Calls Try.prog 127 #[sval [.arr 6 (enf u8v a_1)], sval [.arr 6 (enf u8v b_1)]] w (Ret w (laws_eqByteA6.R r)) := by

  refine calls_T (n := 17) (Γ := [(0, sval [.arr 6 (enf u8v a_1)]), (1, sval [.arr 6 (enf u8v b_1)])]) (R := laws_eqByteA6.R) Try.func127 rfl rfl (Nat.le_of_ble_eq_true rfl) ⟨rfl, rfl, trivial⟩ ?_
  unfold laws_eqByteA6.f
  refine TC.seq ?_
  refine TC.region ?_
  refine TL.box [.arr 6 (enf u8v a_1)] rfl rfl rfl rfl fun b_2 => ?_
  refine TL.box [.arr 6 (enf u8v b_1)] rfl rfl rfl rfl fun b_3 => ?_
  refine TL.assign rfl rfl (v := .bool false) rfl ?_
  refine TL.done ?_
  refine TC.seq ?_
  refine TC.seq ?_
  refine TC.region ?_
  refine TL.assign rfl rfl (v := .int .i64 0) rfl ?_
  refine TL.done ?_
  refine TC.loopK (σ := Int) (γ := Unit) (Γ' := (fun i1 _ => [(2, bp b_2 0), (3, bp b_3 0), (5, .int .i64 i1)])) (L' := (fun i1 _ => [box b_2 32 [.arr 6 (enf u8v a_1)], box b_3 32 [.arr 6 (enf u8v b_1)]])) (Γb := (fun i1 _ => [(2, bp b_2 0), (3, bp b_3 0), (5, .int .i64 i1)])) (Lb := (fun i1 _ => [box b_2 32 [.arr 6 (enf u8v a_1)], box b_3 32 [.arr 6 (enf u8v b_1)]])) (0) (()) ⟨rfl, rfl, rfl, trivial⟩ [1, 0] rfl ?_ ?_
  · rintro i1 _
    refine TC.seq ?_
    refine TC.seq ?_
    refine TC.region ?_
    refine TL.move rfl rfl (v := .int .i64 i1) rfl ?_
    refine TL.bin .i64 i1 6 rfl rfl rfl rfl (v := .bool (decide (i1 < 6))) rfl ?_
    refine TL.done ?_
    refine TC.cond (b := (decide (i1 < 6))) rfl (fun c1 => ?_) (fun c2 => ?_)
    · refine TC.skip ?_
      refine TC.seq ?_
      refine TC.block (NoEx.loop rfl NoEx.body) ?_
      refine TC.seq ?_
      refine TC.wk (Γ' := [(2, bp b_2 0), (3, bp b_3 0), (5, .int .i64 i1), (6, .int .i64 i1), (7, .bool (decide (i1 < 6)))]) ⟨rfl, rfl, rfl, rfl, rfl, trivial⟩ ?_
      refine TC.chk fun h1 => ?_
      refine TC.draw [.int .i64 i1, bp b_2 i1.toNat, u8v (a_1 i1.toNat), .int .i64 i1, bp b_3 i1.toNat, u8v (b_1 i1.toNat), .bool (((a_1 i1.toNat).toNat : Int) != ((b_1 i1.toNat).toNat : Int))] 7 [box b_2 32 [.arr 6 (enf u8v a_1)], box b_3 32 [.arr 6 (enf u8v b_1)]] (by kernel_rfl) rfl rfl rfl rfl ?_ ?_
      · refine ⟨?_, ?_, ?_, ?_, ?_, ?_, ?_, trivial⟩
        · refine TL.move rfl rfl (v := .int .i64 i1) rfl ?_
          refine TL.done ?_
          exact TC.nrm () () ⟨rfl, trivial⟩ [0, 0] rfl
        · refine TL.ixa i1 i1.toNat h1 Try.underlying32 Try.sizeOf5 rfl rfl rfl rfl (by omega) ?_
          refine TL.done ?_
          exact TC.nrm () () ⟨rfl, trivial⟩ [0, 0] rfl
        · refine TL.loadA i1.toNat 0 (Src.box 0 rfl) Try.isAgg5 rfl (by omega) (v := u8v (a_1 i1.toNat)) rfl (st := 0) rfl (by omega) rfl rfl rfl ?_
          refine TL.done ?_
          exact TC.nrm () () ⟨rfl, trivial⟩ [0, 0] rfl
        · refine TL.move rfl rfl (v := .int .i64 i1) rfl ?_
          refine TL.done ?_
          exact TC.nrm () () ⟨rfl, trivial⟩ [0, 0] rfl
        · refine TL.ixa i1 i1.toNat h1 Try.underlying32 Try.sizeOf5 rfl rfl rfl rfl (by omega) ?_
          refine TL.done ?_
          exact TC.nrm () () ⟨rfl, trivial⟩ [0, 0] rfl
        · refine TL.loadA i1.toNat 0 (Src.box 1 rfl) Try.isAgg5 rfl (by omega) (v := u8v (b_1 i1.toNat)) rfl (st := 0) rfl (by omega) rfl rfl rfl ?_
          refine TL.done ?_
          exact TC.nrm () () ⟨rfl, trivial⟩ [0, 0] rfl
        · refine TL.bin .u8 ((a_1 i1.toNat).toNat : Int) ((b_1 i1.toNat).toNat : Int) rfl rfl rfl rfl (v := .bool (((a_1 i1.toNat).toNat : Int) != ((b_1 i1.toNat).toNat : Int))) rfl ?_
          refine TL.done ?_
          exact TC.nrm () () ⟨rfl, trivial⟩ [0, 0] rfl
      · refine TC.cond (b := (((a_1 i1.toNat).toNat : Int) != ((b_1 i1.toNat).toNat : Int))) rfl (fun c3 => ?_) (fun c4 => ?_)
        · refine TC.seq ?_
          refine TC.region ?_
          refine TL.assign rfl rfl (v := .bool false) rfl ?_
          refine TL.done ?_
          exact TC.retF (Fin.loop Far.ret (Fin.body (fin1 (.inr rfl) rfl (.tmp rfl) [] rfl ⟨rfl, rfl⟩)))
        · refine TC.skip ?_
          refine TC.region ?_
          refine TL.move rfl rfl (v := .int .i64 i1) rfl ?_
          refine TL.bin .i64 i1 1 rfl rfl rfl rfl (v := .int .i64 (w64 (i1 + 1))) rfl ?_
          refine TL.assign rfl rfl (v := .int .i64 (w64 (i1 + 1))) rfl ?_
          refine TL.done ?_
          exact TC.next ((w64 (i1 + 1))) (()) ⟨rfl, rfl, rfl, trivial⟩ [0, 0] rfl
    · exact TC.brk (i1) (()) ⟨rfl, rfl, rfl, trivial⟩ [0, 0] rfl
  · rintro i1 _
    refine TC.seq ?_
    refine TC.region ?_
    refine TL.assign rfl rfl (v := .bool true) rfl ?_
    refine TL.done ?_
    exact TC.retF (Fin.body (fin1 (.inr rfl) rfl (.tmp rfl) [] rfl ⟨rfl, rfl⟩))

end Go.Proofs.Ytcombgcjgdkbiaa.G

/- laws.eqByteA6A6, as a pure function. -/
set_option linter.unusedVariables false
namespace Go.Proofs.Ytcombgcjgdkbiaa.G
open Go Go.Sx Go.Proofs

def laws_eqByteA6A6.b0 (a_1 : Nat → UInt8) (b_1 : Nat → UInt8) : Int → Option (LR Int Bool) := fun i1 => (bif (decide (i1 < 6)) then chk i1 6 ((G.laws_eqByteA6.f (sub a_1 (i1.toNat * 6)) (sub b_1 (i1.toNat * 6))).bind (fun r_1 => (bif (!r_1) then some (.ret (false)) else some (.next (w64 (i1 + 1)))))) else some (.brk i1))

def laws_eqByteA6A6.f (a_1 : Nat → UInt8) (b_1 : Nat → UInt8) : Option Bool := (loop (laws_eqByteA6A6.b0 a_1 b_1) 0).bind (ln (fun i1 => some true))

def laws_eqByteA6A6.R (r : Bool) (v : Value) (L : List Asn) : Prop := v = .bool r ∧ L = []

set_option maxRecDepth 100000 in
set_option maxHeartbeats 4000000 in
theorem laws_eqByteA6A6.calls (w : World) (a_1 : Nat → UInt8) (b_1 : Nat → UInt8) :
    ∀ r, laws_eqByteA6A6.f a_1 b_1 = some r → Calls Try.prog 118 #[sval [.arr 36 (enf u8v a_1)], sval [.arr 36 (enf u8v b_1)]] w (Ret w (laws_eqByteA6A6.R r)) := by

  refine calls_T (n := 18) (Γ := [(0, sval [.arr 36 (enf u8v a_1)]), (1, sval [.arr 36 (enf u8v b_1)])]) (R := laws_eqByteA6A6.R) Try.func118 rfl rfl (Nat.le_of_ble_eq_true rfl) ⟨rfl, rfl, trivial⟩ ?_
  unfold laws_eqByteA6A6.f
  refine TC.seq ?_
  refine TC.region ?_
  refine TL.box [.arr 36 (enf u8v a_1)] rfl rfl rfl rfl fun b_2 => ?_
  refine TL.box [.arr 36 (enf u8v b_1)] rfl rfl rfl rfl fun b_3 => ?_
  refine TL.assign rfl rfl (v := .bool false) rfl ?_
  refine TL.done ?_
  refine TC.seq ?_
  refine TC.seq ?_
  refine TC.region ?_
  refine TL.assign rfl rfl (v := .int .i64 0) rfl ?_
  refine TL.done ?_
  refine TC.loopK (σ := Int) (γ := Unit) (Γ' := (fun i1 _ => [(2, bp b_2 0), (3, bp b_3 0), (5, .int .i64 i1)])) (L' := (fun i1 _ => [box b_2 33 [.arr 36 (enf u8v a_1)], box b_3 33 [.arr 36 (enf u8v b_1)]])) (Γb := (fun i1 _ => [(2, bp b_2 0), (3, bp b_3 0), (5, .int .i64 i1)])) (Lb := (fun i1 _ => [box b_2 33 [.arr 36 (enf u8v a_1)], box b_3 33 [.arr 36 (enf u8v b_1)]])) (0) (()) ⟨rfl, rfl, rfl, trivial⟩ [1, 0] rfl ?_ ?_
  · rintro i1 _
    refine TC.seq ?_
    refine TC.seq ?_
    refine TC.region ?_
    refine TL.move rfl rfl (v := .int .i64 i1) rfl ?_
    refine TL.bin .i64 i1 6 rfl rfl rfl rfl (v := .bool (decide (i1 < 6))) rfl ?_
    refine TL.done ?_
    refine TC.cond (b := (decide (i1 < 6))) rfl (fun c1 => ?_) (fun c2 => ?_)
    · refine TC.skip ?_
      refine TC.seq ?_
      refine TC.block (NoEx.loop rfl NoEx.body) ?_
      refine TC.seq ?_
      refine TC.wk (Γ' := [(2, bp b_2 0), (3, bp b_3 0), (5, .int .i64 i1), (6, .int .i64 i1), (7, .bool (decide (i1 < 6)))]) ⟨rfl, rfl, rfl, rfl, rfl, trivial⟩ ?_
      refine TC.chk fun h1 => ?_
      refine TC.bindE fun r_1 hr1 => ?_
      refine TC.draw [.int .i64 i1, bp b_2 (i1.toNat * 6), sval [.arr 6 (enf u8v (sub a_1 (i1.toNat * 6)))], .int .i64 i1, bp b_3 (i1.toNat * 6), sval [.arr 6 (enf u8v (sub b_1 (i1.toNat * 6)))], .bool r_1, .bool (!r_1)] 8 [box b_2 33 [.arr 36 (enf u8v a_1)], box b_3 33 [.arr 36 (enf u8v b_1)]] (by kernel_rfl) rfl rfl rfl rfl ?_ ?_
      · refine ⟨?_, ?_, ?_, ?_, ?_, ?_, ?_, ?_, trivial⟩
        · refine TL.move rfl rfl (v := .int .i64 i1) rfl ?_
          refine TL.done ?_
          exact TC.nrm () () ⟨rfl, trivial⟩ [0, 0] rfl
        · refine TL.ixa i1 (i1.toNat * 6) h1 Try.underlying33 Try.sizeOf32 rfl rfl rfl rfl (by omega) ?_
          refine TL.done ?_
          exact TC.nrm () () ⟨rfl, trivial⟩ [0, 0] rfl
        · refine TL.loadS (i1.toNat * 6) 0 (Src.box 0 rfl) Try.isAgg32 Try.sizeOf32 rfl (by omega) (v := sval [.arr 6 (enf u8v (sub a_1 (i1.toNat * 6)))]) rfl (st := 0) rfl (by omega) rfl rfl rfl ?_
          refine TL.done ?_
          exact TC.nrm () () ⟨rfl, trivial⟩ [0, 0] rfl
        · refine TL.move rfl rfl (v := .int .i64 i1) rfl ?_
          refine TL.done ?_
          exact TC.nrm () () ⟨rfl, trivial⟩ [0, 0] rfl
        · refine TL.ixa i1 (i1.toNat * 6) h1 Try.underlying33 Try.sizeOf32 rfl rfl rfl rfl (by omega) ?_
          refine TL.done ?_
          exact TC.nrm () () ⟨rfl, trivial⟩ [0, 0] rfl
        · refine TL.loadS (i1.toNat * 6) 0 (Src.box 1 rfl) Try.isAgg32 Try.sizeOf32 rfl (by omega) (v := sval [.arr 6 (enf u8v (sub b_1 (i1.toNat * 6)))]) rfl (st := 0) rfl (by omega) rfl rfl rfl ?_
          refine TL.done ?_
          exact TC.nrm () () ⟨rfl, trivial⟩ [0, 0] rfl
        · refine TL.callH (R := G.laws_eqByteA6.R) hr1 Try.call127 rfl rfl rfl (fun w hS => G.laws_eqByteA6.calls w (sub a_1 (i1.toNat * 6)) (sub b_1 (i1.toNat * 6))) ?_
          rintro _ _ ⟨rfl, rfl⟩
          refine TL.done ?_
          exact TC.nrm () () ⟨rfl, trivial⟩ [0, 0] rfl
        · refine TL.not r_1 rfl rfl rfl ?_
          refine TL.done ?_
          exact TC.nrm () () ⟨rfl, trivial⟩ [0, 0] rfl
      · refine TC.cond (b := (!r_1)) rfl (fun c3 => ?_) (fun c4 => ?_)
        · refine TC.seq ?_
          refine TC.region ?_
          refine TL.assign rfl rfl (v := .bool false) rfl ?_
          refine TL.done ?_
          exact TC.retF (Fin.loop Far.ret (Fin.body (fin1 (.inr rfl) rfl (.tmp rfl) [] rfl ⟨rfl, rfl⟩)))
        · refine TC.skip ?_
          refine TC.region ?_
          refine TL.move rfl rfl (v := .int .i64 i1) rfl ?_
          refine TL.bin .i64 i1 1 rfl rfl rfl rfl (v := .int .i64 (w64 (i1 + 1))) rfl ?_
          refine TL.assign rfl rfl (v := .int .i64 (w64 (i1 + 1))) rfl ?_
          refine TL.done ?_
          exact TC.next ((w64 (i1 + 1))) (()) ⟨rfl, rfl, rfl, trivial⟩ [0, 0] rfl
    · exact TC.brk (i1) (()) ⟨rfl, rfl, rfl, trivial⟩ [0, 0] rfl
  · rintro i1 _
    refine TC.seq ?_
    refine TC.region ?_
    refine TL.assign rfl rfl (v := .bool true) rfl ?_
    refine TL.done ?_
    exact TC.retF (Fin.body (fin1 (.inr rfl) rfl (.tmp rfl) [] rfl ⟨rfl, rfl⟩))

end Go.Proofs.Ytcombgcjgdkbiaa.G

/- laws.eqByteA6A6A6, as a pure function. -/
set_option linter.unusedVariables false
namespace Go.Proofs.Ytcombgcjgdkbiaa.G
open Go Go.Sx Go.Proofs

def laws_eqByteA6A6A6.b0 (a_1 : Nat → UInt8) (b_1 : Nat → UInt8) : Int → Option (LR Int Bool) := fun i1 => (bif (decide (i1 < 6)) then chk i1 6 ((G.laws_eqByteA6A6.f (sub a_1 (i1.toNat * 36)) (sub b_1 (i1.toNat * 36))).bind (fun r_1 => (bif (!r_1) then some (.ret (false)) else some (.next (w64 (i1 + 1)))))) else some (.brk i1))

def laws_eqByteA6A6A6.f (a_1 : Nat → UInt8) (b_1 : Nat → UInt8) : Option Bool := (loop (laws_eqByteA6A6A6.b0 a_1 b_1) 0).bind (ln (fun i1 => some true))

def laws_eqByteA6A6A6.R (r : Bool) (v : Value) (L : List Asn) : Prop := v = .bool r ∧ L = []

set_option maxRecDepth 100000 in
set_option maxHeartbeats 4000000 in
theorem laws_eqByteA6A6A6.calls (w : World) (a_1 : Nat → UInt8) (b_1 : Nat → UInt8) :
    ∀ r, laws_eqByteA6A6A6.f a_1 b_1 = some r → Calls Try.prog 83 #[sval [.arr 216 (enf u8v a_1)], sval [.arr 216 (enf u8v b_1)]] w (Ret w (laws_eqByteA6A6A6.R r)) := by

  refine calls_T (n := 18) (Γ := [(0, sval [.arr 216 (enf u8v a_1)]), (1, sval [.arr 216 (enf u8v b_1)])]) (R := laws_eqByteA6A6A6.R) Try.func83 rfl rfl (Nat.le_of_ble_eq_true rfl) ⟨rfl, rfl, trivial⟩ ?_
  unfold laws_eqByteA6A6A6.f
  refine TC.seq ?_
  refine TC.region ?_
  refine TL.box [.arr 216 (enf u8v a_1)] rfl rfl rfl rfl fun b_2 => ?_
  refine TL.box [.arr 216 (enf u8v b_1)] rfl rfl rfl rfl fun b_3 => ?_
  refine TL.assign rfl rfl (v := .bool false) rfl ?_
  refine TL.done ?_
  refine TC.seq ?_
  refine TC.seq ?_
  refine TC.region ?_
  refine TL.assign rfl rfl (v := .int .i64 0) rfl ?_
  refine TL.done ?_
  refine TC.loopK (σ := Int) (γ := Unit) (Γ' := (fun i1 _ => [(2, bp b_2 0), (3, bp b_3 0), (5, .int .i64 i1)])) (L' := (fun i1 _ => [box b_2 42 [.arr 216 (enf u8v a_1)], box b_3 42 [.arr 216 (enf u8v b_1)]])) (Γb := (fun i1 _ => [(2, bp b_2 0), (3, bp b_3 0), (5, .int .i64 i1)])) (Lb := (fun i1 _ => [box b_2 42 [.arr 216 (enf u8v a_1)], box b_3 42 [.arr 216 (enf u8v b_1)]])) (0) (()) ⟨rfl, rfl, rfl, trivial⟩ [1, 0] rfl ?_ ?_
  · rintro i1 _
    refine TC.seq ?_
    refine TC.seq ?_
    refine TC.region ?_
    refine TL.move rfl rfl (v := .int .i64 i1) rfl ?_
    refine TL.bin .i64 i1 6 rfl rfl rfl rfl (v := .bool (decide (i1 < 6))) rfl ?_
    refine TL.done ?_
    refine TC.cond (b := (decide (i1 < 6))) rfl (fun c1 => ?_) (fun c2 => ?_)
    · refine TC.skip ?_
      refine TC.seq ?_
      refine TC.block (NoEx.loop rfl NoEx.body) ?_
      refine TC.seq ?_
      refine TC.wk (Γ' := [(2, bp b_2 0), (3, bp b_3 0), (5, .int .i64 i1), (6, .int .i64 i1), (7, .bool (decide (i1 < 6)))]) ⟨rfl, rfl, rfl, rfl, rfl, trivial⟩ ?_
      refine TC.chk fun h1 => ?_
      refine TC.bindE fun r_1 hr1 => ?_
      refine TC.draw [.int .i64 i1, bp b_2 (i1.toNat * 36), sval [.arr 36 (enf u8v (sub a_1 (i1.toNat * 36)))], .int .i64 i1, bp b_3 (i1.toNat * 36), sval [.arr 36 (enf u8v (sub b_1 (i1.toNat * 36)))], .bool r_1, .bool (!r_1)] 8 [box b_2 42 [.arr 216 (enf u8v a_1)], box b_3 42 [.arr 216 (enf u8v b_1)]] (by kernel_rfl) rfl rfl rfl rfl ?_ ?_
      · refine ⟨?_, ?_, ?_, ?_, ?_, ?_, ?_, ?_, trivial⟩
        · refine TL.move rfl rfl (v := .int .i64 i1) rfl ?_
          refine TL.done ?_
          exact TC.nrm () () ⟨rfl, trivial⟩ [0, 0] rfl
        · refine TL.ixa i1 (i1.toNat * 36) h1 Try.underlying42 Try.sizeOf33 rfl rfl rfl rfl (by omega) ?_
          refine TL.done ?_
          exact TC.nrm () () ⟨rfl, trivial⟩ [0, 0] rfl
        · refine TL.loadS (i1.toNat * 36) 0 (Src.box 0 rfl) Try.isAgg33 Try.sizeOf33 rfl (by omega) (v := sval [.arr 36 (enf u8v (sub a_1 (i1.toNat * 36)))]) rfl (st := 0) rfl (by omega) rfl rfl rfl ?_
          refine TL.done ?_
          exact TC.nrm () () ⟨rfl, trivial⟩ [0, 0] rfl
        · refine TL.move rfl rfl (v := .int .i64 i1) rfl ?_
          refine TL.done ?_
          exact TC.nrm () () ⟨rfl, trivial⟩ [0, 0] rfl
        · refine TL.ixa i1 (i1.toNat * 36) h1 Try.underlying42 Try.sizeOf33 rfl rfl rfl rfl (by omega) ?_
          refine TL.done ?_
          exact TC.nrm () () ⟨rfl, trivial⟩ [0, 0] rfl
        · refine TL.loadS (i1.toNat * 36) 0 (Src.box 1 rfl) Try.isAgg33 Try.sizeOf33 rfl (by omega) (v := sval [.arr 36 (enf u8v (sub b_1 (i1.toNat * 36)))]) rfl (st := 0) rfl (by omega) rfl rfl rfl ?_
          refine TL.done ?_
          exact TC.nrm () () ⟨rfl, trivial⟩ [0, 0] rfl
        · refine TL.callH (R := G.laws_eqByteA6A6.R) hr1 Try.call118 rfl rfl rfl (fun w hS => G.laws_eqByteA6A6.calls w (sub a_1 (i1.toNat * 36)) (sub b_1 (i1.toNat * 36))) ?_
          rintro _ _ ⟨rfl, rfl⟩
          refine TL.done ?_
          exact TC.nrm () () ⟨rfl, trivial⟩ [0, 0] rfl
        · refine TL.not r_1 rfl rfl rfl ?_
          refine TL.done ?_
          exact TC.nrm () () ⟨rfl, trivial⟩ [0, 0] rfl
      · refine TC.cond (b := (!r_1)) rfl (fun c3 => ?_) (fun c4 => ?_)
        · refine TC.seq ?_
          refine TC.region ?_
          refine TL.assign rfl rfl (v := .bool false) rfl ?_
          refine TL.done ?_
          exact TC.retF (Fin.loop Far.ret (Fin.body (fin1 (.inr rfl) rfl (.tmp rfl) [] rfl ⟨rfl, rfl⟩)))
        · refine TC.skip ?_
          refine TC.region ?_
          refine TL.move rfl rfl (v := .int .i64 i1) rfl ?_
          refine TL.bin .i64 i1 1 rfl rfl rfl rfl (v := .int .i64 (w64 (i1 + 1))) rfl ?_
          refine TL.assign rfl rfl (v := .int .i64 (w64 (i1 + 1))) rfl ?_
          refine TL.done ?_
          exact TC.next ((w64 (i1 + 1))) (()) ⟨rfl, rfl, rfl, trivial⟩ [0, 0] rfl
    · exact TC.brk (i1) (()) ⟨rfl, rfl, rfl, trivial⟩ [0, 0] rfl
  · rintro i1 _
    refine TC.seq ?_
    refine TC.region ?_
    refine TL.assign rfl rfl (v := .bool true) rfl ?_
    refine TL.done ?_
    exact TC.retF (Fin.body (fin1 (.inr rfl) rfl (.tmp rfl) [] rfl ⟨rfl, rfl⟩))

end Go.Proofs.Ytcombgcjgdkbiaa.G

/- laws.eqVector, as a pure function. -/
set_option linter.unusedVariables false
namespace Go.Proofs.Ytcombgcjgdkbiaa.G
open Go Go.Sx Go.Proofs

def laws_eqVector.b0 (a_1 : Nat → UInt8) (b_1 : Nat → UInt8) : Int → Option (LR Int Bool) := fun i1 => (bif (decide (i1 < 6)) then chk i1 6 ((bif (((a_1 i1.toNat).toNat : Int) != ((b_1 i1.toNat).toNat : Int)) then some (.ret (false)) else some (.next (w64 (i1 + 1))))) else some (.brk i1))

def laws_eqVector.f (a_1 : Nat → UInt8) (b_1 : Nat → UInt8) : Option Bool := (loop (laws_eqVector.b0 a_1 b_1) 0).bind (ln (fun i1 => some true))

def laws_eqVector.R (r : Bool) (v : Value) (L : List Asn) : Prop := v = .bool r ∧ L = []

set_option maxRecDepth 100000 in
set_option maxHeartbeats 4000000 in
theorem laws_eqVector.calls (w : World) (a_1 : Nat → UInt8) (b_1 : Nat → UInt8) :
    ∀ r, laws_eqVector.f a_1 b_1 = some r → Calls Try.prog 84 #[sval [.arr 6 (enf u8v a_1)], sval [.arr 6 (enf u8v b_1)]] w (Ret w (laws_eqVector.R r)) := by

  refine calls_T (n := 17) (Γ := [(0, sval [.arr 6 (enf u8v a_1)]), (1, sval [.arr 6 (enf u8v b_1)])]) (R := laws_eqVector.R) Try.func84 rfl rfl (Nat.le_of_ble_eq_true rfl) ⟨rfl, rfl, trivial⟩ ?_
  unfold laws_eqVector.f
  refine TC.seq ?_
  refine TC.region ?_
  refine TL.box [.arr 6 (enf u8v a_1)] rfl rfl rfl rfl fun b_2 => ?_
  refine TL.box [.arr 6 (enf u8v b_1)] rfl rfl rfl rfl fun b_3 => ?_
  refine TL.assign rfl rfl (v := .bool false) rfl ?_
  refine TL.done ?_
  refine TC.seq ?_
  refine TC.seq ?_
  refine TC.region ?_
  refine TL.assign rfl rfl (v := .int .i64 0) rfl ?_
  refine TL.done ?_
  refine TC.loopK (σ := Int) (γ := Unit) (Γ' := (fun i1 _ => [(2, bp b_2 0), (3, bp b_3 0), (5, .int .i64 i1)])) (L' := (fun i1 _ => [box b_2 43 [.arr 6 (enf u8v a_1)], box b_3 43 [.arr 6 (enf u8v b_1)]])) (Γb := (fun i1 _ => [(2, bp b_2 0), (3, bp b_3 0), (5, .int .i64 i1)])) (Lb := (fun i1 _ => [box b_2 43 [.arr 6 (enf u8v a_1)], box b_3 43 [.arr 6 (enf u8v b_1)]])) (0) (()) ⟨rfl, rfl, rfl, trivial⟩ [1, 0] rfl ?_ ?_
  · rintro i1 _
    refine TC.seq ?_
    refine TC.seq ?_
    refine TC.region ?_
    refine TL.move rfl rfl (v := .int .i64 i1) rfl ?_
    refine TL.bin .i64 i1 6 rfl rfl rfl rfl (v := .bool (decide (i1 < 6))) rfl ?_
    refine TL.done ?_
    refine TC.cond (b := (decide (i1 < 6))) rfl (fun c1 => ?_) (fun c2 => ?_)
    · refine TC.skip ?_
      refine TC.seq ?_
      refine TC.block (NoEx.loop rfl NoEx.body) ?_
      refine TC.seq ?_
      refine TC.wk (Γ' := [(2, bp b_2 0), (3, bp b_3 0), (5, .int .i64 i1), (6, .int .i64 i1), (7, .bool (decide (i1 < 6)))]) ⟨rfl, rfl, rfl, rfl, rfl, trivial⟩ ?_
      refine TC.chk fun h1 => ?_
      refine TC.draw [.int .i64 i1, bp b_2 i1.toNat, u8v (a_1 i1.toNat), .int .i64 i1, bp b_3 i1.toNat, u8v (b_1 i1.toNat), .bool (((a_1 i1.toNat).toNat : Int) != ((b_1 i1.toNat).toNat : Int))] 7 [box b_2 43 [.arr 6 (enf u8v a_1)], box b_3 43 [.arr 6 (enf u8v b_1)]] (by kernel_rfl) rfl rfl rfl rfl ?_ ?_
      · refine ⟨?_, ?_, ?_, ?_, ?_, ?_, ?_, trivial⟩
        · refine TL.move rfl rfl (v := .int .i64 i1) rfl ?_
          refine TL.done ?_
          exact TC.nrm () () ⟨rfl, trivial⟩ [0, 0] rfl
        · refine TL.ixa i1 i1.toNat h1 Try.underlying43 Try.sizeOf5 rfl rfl rfl rfl (by omega) ?_
          refine TL.done ?_
          exact TC.nrm () () ⟨rfl, trivial⟩ [0, 0] rfl
        · refine TL.loadA i1.toNat 0 (Src.box 0 rfl) Try.isAgg5 rfl (by omega) (v := u8v (a_1 i1.toNat)) rfl (st := 0) rfl (by omega) rfl rfl rfl ?_
          refine TL.done ?_
          exact TC.nrm () () ⟨rfl, trivial⟩ [0, 0] rfl
        · refine TL.move rfl rfl (v := .int .i64 i1) rfl ?_
          refine TL.done ?_
          exact TC.nrm () () ⟨rfl, trivial⟩ [0, 0] rfl
        · refine TL.ixa i1 i1.toNat h1 Try.underlying43 Try.sizeOf5 rfl rfl rfl rfl (by omega) ?_
          refine TL.done ?_
          exact TC.nrm () () ⟨rfl, trivial⟩ [0, 0] rfl
        · refine TL.loadA i1.toNat 0 (Src.box 1 rfl) Try.isAgg5 rfl (by omega) (v := u8v (b_1 i1.toNat)) rfl (st := 0) rfl (by omega) rfl rfl rfl ?_
          refine TL.done ?_
          exact TC.nrm () () ⟨rfl, trivial⟩ [0, 0] rfl
        · refine TL.bin .u8 ((a_1 i1.toNat).toNat : Int) ((b_1 i1.toNat).toNat : Int) rfl rfl rfl rfl (v := .bool (((a_1 i1.toNat).toNat : Int) != ((b_1 i1.toNat).toNat : Int))) rfl ?_
          refine TL.done ?_
          exact TC.nrm () () ⟨rfl, trivial⟩ [0, 0] rfl
      · refine TC.cond (b := (((a_1 i1.toNat).toNat : Int) != ((b_1 i1.toNat).toNat : Int))) rfl (fun c3 => ?_) (fun c4 => ?_)
        · refine TC.seq ?_
          refine TC.region ?_
          refine TL.assign rfl rfl (v := .bool false) rfl ?_
          refine TL.done ?_
          exact TC.retF (Fin.loop Far.ret (Fin.body (fin1 (.inr rfl) rfl (.tmp rfl) [] rfl ⟨rfl, rfl⟩)))
        · refine TC.skip ?_
          refine TC.region ?_
          refine TL.move rfl rfl (v := .int .i64 i1) rfl ?_
          refine TL.bin .i64 i1 1 rfl rfl rfl rfl (v := .int .i64 (w64 (i1 + 1))) rfl ?_
          refine TL.assign rfl rfl (v := .int .i64 (w64 (i1 + 1))) rfl ?_
          refine TL.done ?_
          exact TC.next ((w64 (i1 + 1))) (()) ⟨rfl, rfl, rfl, trivial⟩ [0, 0] rfl
    · exact TC.brk (i1) (()) ⟨rfl, rfl, rfl, trivial⟩ [0, 0] rfl
  · rintro i1 _
    refine TC.seq ?_
    refine TC.region ?_
    refine TL.assign rfl rfl (v := .bool true) rfl ?_
    refine TL.done ?_
    exact TC.retF (Fin.body (fin1 (.inr rfl) rfl (.tmp rfl) [] rfl ⟨rfl, rfl⟩))

end Go.Proofs.Ytcombgcjgdkbiaa.G

/- laws.eqAlgebra, as a pure function. -/
set_option linter.unusedVariables false
namespace Go.Proofs.Ytcombgcjgdkbiaa.G
open Go Go.Sx Go.Proofs

def laws_eqAlgebra.f (a_1 : Int) (a_2 : Int) (a_3 : Nat → UInt8) (a_4 : Nat → UInt8) (b_1 : Int) (b_2 : Int) (b_3 : Nat → UInt8) (b_4 : Nat → UInt8) : Option Bool := (bif (a_1 != b_1) then some false else (bif (a_2 != b_2) then some false else (G.laws_eqByteA6A6A6.f a_3 b_3).bind (fun r_1 => (bif (!r_1) then some false else (G.laws_eqVector.f a_4 b_4).bind (fun r_2 => (bif (!r_2) then some false else some true))))))

def laws_eqAlgebra.R (r : Bool) (v : Value) (L : List Asn) : Prop := v = .bool r ∧ L = []

set_option maxRecDepth 100000 in
set_option maxHeartbeats 4000000 in
theorem laws_eqAlgebra.calls (w : World) (a_1 : Int) (a_2 : Int) (a_3 : Nat → UInt8) (a_4 : Nat → UInt8) (b_1 : Int) (b_2 : Int) (b_3 : Nat → UInt8) (b_4 : Nat → UInt8) :
    ∀ r, laws_eqAlgebra.f a_1 a_2 a_3 a_4 b_1 b_2 b_3 b_4 = some r → Calls Try.prog 32 #[sval [.one (.int .i64 a_1), .one (.int .i64 a_2), .arr 216 (enf u8v a_3), .arr 6 (enf u8v a_4)], sval [.one (.int .i64 b_1), .one (.int .i64 b_2), .arr 216 (enf u8v b_3), .arr 6 (enf u8v b_4)]] w (Ret w (laws_eqAlgebra.R r)) := by

  refine calls_T (n := 27) (Γ := [(0, sval [.one (.int .i64 a_1), .one (.int .i64 a_2), .arr 216 (enf u8v a_3), .arr 6 (enf u8v a_4)]), (1, sval [.one (.int .i64 b_1), .one (.int .i64 b_2), .arr 216 (enf u8v b_3), .arr 6 (enf u8v b_4)])]) (R := laws_eqAlgebra.R) Try.func32 rfl rfl (Nat.le_of_ble_eq_true rfl) ⟨rfl, rfl, trivial⟩ ?_
  unfold laws_eqAlgebra.f
  refine TC.seq ?_
  refine TC.region ?_
  refine TL.box [.one (.int .i64 a_1), .one (.int .i64 a_2), .arr 216 (enf u8v a_3), .arr 6 (enf u8v a_4)] rfl rfl rfl rfl fun b_5 => ?_
  refine TL.box [.one (.int .i64 b_1), .one (.int .i64 b_2), .arr 216 (enf u8v b_3), .arr 6 (enf u8v b_4)] rfl rfl rfl rfl fun b_6 => ?_
  refine TL.assign rfl rfl (v := .bool false) rfl ?_
  refine TL.done ?_
  refine TC.seq ?_
  refine TC.seq ?_
  refine TC.region ?_
  refine TL.fa Try.underlying45 rfl Try.sizeOf2 rfl 0 rfl rfl rfl rfl ?_
  refine TL.load1 0 (Src.box 1 rfl) Try.isAgg2 rfl rfl rfl rfl rfl ?_
  refine TL.fa Try.underlying45 rfl Try.sizeOf2 rfl 0 rfl rfl rfl rfl ?_
  refine TL.load1 0 (Src.box 0 rfl) Try.isAgg2 rfl rfl rfl rfl rfl ?_
  refine TL.bin .i64 a_1 b_1 rfl rfl rfl rfl (v := .bool (a_1 != b_1)) rfl ?_
  refine TL.done ?_
  refine TC.cond (b := (a_1 != b_1)) rfl (fun c1 => ?_) (fun c2 => ?_)
  · refine TC.seq ?_
    refine TC.region ?_
    refine TL.assign rfl rfl (v := .bool false) rfl ?_
    refine TL.done ?_
    exact TC.retF (Fin.body (fin1 (.inr rfl) rfl (.tmp rfl) [] rfl ⟨rfl, rfl⟩))
  · refine TC.skip ?_
    refine TC.seq ?_
    refine TC.seq ?_
    refine TC.region ?_
    refine TL.fa Try.underlying45 rfl Try.sizeOf2 rfl 1 rfl rfl rfl rfl ?_
    refine TL.load1 1 (Src.box 1 rfl) Try.isAgg2 rfl rfl rfl rfl rfl ?_
    refine TL.fa Try.underlying45 rfl Try.sizeOf2 rfl 1 rfl rfl rfl rfl ?_
    refine TL.load1 1 (Src.box 0 rfl) Try.isAgg2 rfl rfl rfl rfl rfl ?_
    refine TL.bin .i64 a_2 b_2 rfl rfl rfl rfl (v := .bool (a_2 != b_2)) rfl ?_
    refine TL.done ?_
    refine TC.cond (b := (a_2 != b_2)) rfl (fun c3 => ?_) (fun c4 => ?_)
    · refine TC.seq ?_
      refine TC.region ?_
      refine TL.assign rfl rfl (v := .bool false) rfl ?_
      refine TL.done ?_
      exact TC.retF (Fin.body (fin1 (.inr rfl) rfl (.tmp rfl) [] rfl ⟨rfl, rfl⟩))
    · refine TC.skip ?_
      refine TC.seq ?_
      refine TC.seq ?_
      refine TC.region ?_
      refine TL.fa Try.underlying45 rfl Try.sizeOf42 rfl 2 rfl rfl rfl rfl ?_
      refine TL.loadM 2 1 (Src.box 1 rfl) Try.isAgg42 Try.sizeOf42 (mid := [.arr 216 (enf u8v a_3)]) rfl rfl rfl rfl rfl rfl ?_
      refine TL.fa Try.underlying45 rfl Try.sizeOf42 rfl 2 rfl rfl rfl rfl ?_
      refine TL.loadM 2 1 (Src.box 0 rfl) Try.isAgg42 Try.sizeOf42 (mid := [.arr 216 (enf u8v b_3)]) rfl rfl rfl rfl rfl rfl ?_
      refine TL.call (R := G.laws_eqByteA6A6A6.R) Try.call83 rfl rfl rfl (fun w hS => G.laws_eqByteA6A6A6.calls w a_3 b_3) ?_
      rintro r_1 _ _ ⟨rfl, rfl⟩
      refine TL.not r_1 rfl rfl rfl ?_
      refine TL.done ?_
      refine TC.cond (b := (!r_1)) rfl (fun c5 => ?_) (fun c6 => ?_)
      · refine TC.seq ?_
        refine TC.region ?_
        refine TL.assign rfl rfl (v := .bool false) rfl ?_
        refine TL.done ?_
        exact TC.retF (Fin.body (fin1 (.inr rfl) rfl (.tmp rfl) [] rfl ⟨rfl, rfl⟩))
      · refine TC.skip ?_
        refine TC.seq ?_
        refine TC.seq ?_
        refine TC.region ?_
        refine TL.fa Try.underlying45 rfl Try.sizeOf43 rfl 218 rfl rfl rfl rfl ?_
        refine TL.loadM 3 1 (Src.box 1 rfl) Try.isAgg43 Try.sizeOf43 (mid := [.arr 6 (enf u8v a_4)]) rfl rfl rfl rfl rfl rfl ?_
        refine TL.fa Try.underlying45 rfl Try.sizeOf43 rfl 218 rfl rfl rfl rfl ?_
        refine TL.loadM 3 1 (Src.box 0 rfl) Try.isAgg43 Try.sizeOf43 (mid := [.arr 6 (enf u8v b_4)]) rfl rfl rfl rfl rfl rfl ?_
        refine TL.call (R := G.laws_eqVector.R) Try.call84 rfl rfl rfl (fun w hS => G.laws_eqVector.calls w a_4 b_4) ?_
        rintro r_2 _ _ ⟨rfl, rfl⟩
        refine TL.not r_2 rfl rfl rfl ?_
        refine TL.done ?_
        refine TC.cond (b := (!r_2)) rfl (fun c7 => ?_) (fun c8 => ?_)
        · refine TC.seq ?_
          refine TC.region ?_
          refine TL.assign rfl rfl (v := .bool false) rfl ?_
          refine TL.done ?_
          exact TC.retF (Fin.body (fin1 (.inr rfl) rfl (.tmp rfl) [] rfl ⟨rfl, rfl⟩))
        · refine TC.skip ?_
          refine TC.seq ?_
          refine TC.region ?_
          refine TL.assign rfl rfl (v := .bool true) rfl ?_
          refine TL.done ?_
          exact TC.retF (Fin.body (fin1 (.inr rfl) rfl (.tmp rfl) [] rfl ⟨rfl, rfl⟩))

end Go.Proofs.Ytcombgcjgdkbiaa.G

/- spec.l01In, as a pure function. -/
set_option linter.unusedVariables false
namespace Go.Proofs.Ytcombgcjgdkbiaa.G
open Go Go.Sx Go.Proofs

def spec_l01In.f (n_1 : Int) (low1 : Int) (high1 : Int) : Option Bool := some ((decide (n_1 ≥ low1)) && (decide (n_1 ≤ high1)))

def spec_l01In.R (r : Bool) (v : Value) (L : List Asn) : Prop := v = .bool r ∧ L = []

set_option maxRecDepth 100000 in
set_option maxHeartbeats 4000000 in
theorem spec_l01In.calls (w : World) (n_1 : Int) (low1 : Int) (high1 : Int) :
    ∀ r, spec_l01In.f n_1 low1 high1 = some r → Calls Try.prog 54 #[.int .i64 n_1, .int .i64 low1, .int .i64 high1] w (Ret w (spec_l01In.R r)) := by

  refine calls_T (n := 15) (Γ := [(0, .int .i64 n_1), (1, .int .i64 low1), (2, .int .i64 high1)]) (R := spec_l01In.R) Try.func54 rfl rfl (Nat.le_of_ble_eq_true rfl) ⟨rfl, rfl, rfl, trivial⟩ ?_
  unfold spec_l01In.f
  refine TC.seq ?_
  refine TC.region ?_
  refine TL.assign rfl rfl (v := .bool false) rfl ?_
  refine TL.done ?_
  refine TC.seq ?_
  refine TC.region ?_
  refine TL.move rfl rfl (v := .int .i64 n_1) rfl ?_
  refine TL.move rfl rfl (v := .int .i64 low1) rfl ?_
  refine TL.bin .i64 n_1 low1 rfl rfl rfl rfl (v := .bool (decide (n_1 ≥ low1))) rfl ?_
  refine TL.move rfl rfl (v := .bool (decide (n_1 ≥ low1))) rfl ?_
  refine TL.cutU 4 [(14, .bool ((decide (n_1 ≥ low1)) && (decide (n_1 ≤ high1)))), (0, .int .i64 n_1), (1, .int .i64 low1), (2, .int .i64 high1), (6, .bool false), (7, .int .i64 n_1), (8, .int .i64 low1), (9, .bool (decide (n_1 ≥ low1))), (10, .bool (decide (n_1 ≥ low1)))] [] ?_ ?_
  · refine TL.cases (t := 10) (b := (decide (n_1 ≥ low1))) rfl (fun c1 => ?_) (fun c2 => ?_)
    · refine TL.move rfl rfl (v := .int .i64 n_1) rfl ?_
      refine TL.move rfl rfl (v := .int .i64 high1) rfl ?_
      refine TL.bin .i64 n_1 high1 rfl rfl rfl rfl (v := .bool (decide (n_1 ≤ high1))) rfl ?_
      refine TL.pick rfl rfl (b := true) rfl (r := .bool (decide (n_1 ≤ high1))) rfl ?_
      refine TL.done ?_
      exact TC.nrm () () ⟨(by rw [c1]; rfl), rfl, rfl, rfl, rfl, rfl, rfl, rfl, (by rw [c1]; rfl), trivial⟩ [] rfl
    · refine TL.skip rfl rfl (by decide) ?_
      refine TL.skip rfl rfl (by decide) ?_
      refine TL.skip rfl rfl (by decide) ?_
      refine TL.pick rfl rfl (b := false) rfl (r := .bool false) rfl ?_
      refine TL.done ?_
      exact TC.nrm () () ⟨(by rw [c2]; rfl), rfl, rfl, rfl, rfl, rfl, rfl, rfl, (by rw [c2]; rfl), trivial⟩ [] rfl
  · refine TL.assign rfl rfl (v := .bool ((decide (n_1 ≥ low1)) && (decide (n_1 ≤ high1)))) rfl ?_
    refine TL.done ?_
    exact TC.retF (Fin.body (fin1 (.inr rfl) rfl (.tmp rfl) [] rfl ⟨rfl, rfl⟩))

end Go.Proofs.Ytcombgcjgdkbiaa.G

/- spec.l06Is, as a pure function. -/
set_option linter.unusedVariables false
namespace Go.Proofs.Ytcombgcjgdkbiaa.G
open Go Go.Sx Go.Proofs

def spec_l06Is.b0 (x3 : Int) (x1 : Int) (x2 : Nat → UInt8) : Int → Option (LR Int (LR Int Bool)) := fun x4 => (bif (decide (x4 < 6)) then ((bif ((decide (x3 ≥ x1)) || (decide (x4 ≥ x1))) then chk x3 6 (chk x4 6 ((bif (((x2 (x3.toNat * 6 + x4.toNat)).toNat : Int) != ((0 : UInt8).toNat : Int)) then some (.inr (.ret (.ret (false)))) else some (.inl ())))) else chk x3 6 (chk x4 6 ((bif (decide (((x2 (x3.toNat * 6 + x4.toNat)).toNat : Int) ≥ x1)) then some (.inr (.ret (.ret (false)))) else some (.inl ())))))).bind (jn (fun _ => some (.next (w64 (x4 + 1))))) else some (.brk x4))

def spec_l06Is.b1 (x1 : Int) (x2 : Nat → UInt8) : Int → Option (LR Int Bool) := fun x3 => (bif (decide (x3 < 6)) then (loop (spec_l06Is.b0 x3 x1 x2) 0).bind (ln (fun x4 => some (.next (w64 (x3 + 1))))) else some (.brk x3))

def spec_l06Is.b2 (x1 : Int) (x5 : Int) (x7 : Int) (x2 : Nat → UInt8) : Int → Option (LR Int (LR (Bool × Int) (LR Int Bool))) := fun x8 => (bif (decide (x8 < x1)) then chk x5 6 (chk x7 6 (chk ((x2 (x5.toNat * 6 + x7.toNat)).toNat : Int) 6 (chk x8 6 (chk ((x2 (x7.toNat * 6 + x8.toNat)).toNat : Int) 6 ((bif (((x2 ((x2 (x5.toNat * 6 + x7.toNat)).toNat * 6 + x8.toNat)).toNat : Int) != ((x2 (x5.toNat * 6 + (x2 (x7.toNat * 6 + x8.toNat)).toNat)).toNat : Int)) then some (.ret (.ret (.ret (false)))) else some (.next (w64 (x8 + 1))))))))) else some (.brk x8))

def spec_l06Is.b3 (x1 : Int) (x5 : Int) (x2 : Nat → UInt8) : Bool × Int → Option (LR (Bool × Int) (LR Int Bool)) := fun p => match p with | (x6, x7) => (bif (decide (x7 < x1)) then (bif x6 then some true else chk x5 6 (chk x7 6 (some ((((x2 (x5.toNat * 6 + x7.toNat)).toNat : Int) == ((0 : UInt8).toNat : Int)) && (((x2 (x7.toNat * 6 + x5.toNat)).toNat : Int) == ((0 : UInt8).toNat : Int)))))).bind (fun b_2 => (loop (spec_l06Is.b2 x1 x5 x7 x2) 0).bind (ln (fun x8 => some (.next (b_2, (w64 (x7 + 1))))))) else some (.brk (x6, x7)))

def spec_l06Is.b4 (x1 : Int) (x2 : Nat → UInt8) : Int → Option (LR Int Bool) := fun x5 => (bif (decide (x5 < x1)) then (loop (spec_l06Is.b3 x1 x5 x2) (false, 0)).bind (ln (fun p => match p with | (x6, x7) => (bif (!x6) then some true else chk x5 6 (some (((x2 x5.toNat).toNat : Int) != x5))).bind (fun b_3 => (bif b_3 then some true else chk x5 6 (some (((x2 (x5.toNat * 6)).toNat : Int) != x5))).bind (fun b_4 => (bif b_4 then some (.ret (false)) else some (.next (w64 (x5 + 1)))))))) else some (.brk x5))

def spec_l06Is.f (x1 : Int) (x2 : Nat → UInt8) : Option Bool := (G.spec_l01In.f x1 1 6).bind (fun r_1 => (bif (!r_1) then some false else (loop (spec_l06Is.b1 x1 x2) 0).bind (ln (fun x3 => (loop (spec_l06Is.b4 x1 x2) 0).bind (ln (fun x5 => some true))))))

def spec_l06Is.R (r : Bool) (v : Value) (L : List Asn) : Prop := v = .bool r ∧ L = []

set_option maxRecDepth 100000 in
set_option maxHeartbeats 4000000 in
theorem spec_l06Is.calls (w : World) (x1 : Int) (x2 : Nat → UInt8) :
    ∀ r, spec_l06Is.f x1 x2 = some r → Calls Try.prog 61 #[sval [.one (.int .i64 x1), .arr 36 (enf u8v x2)]] w (Ret w (spec_l06Is.R r)) := by

  refine calls_T (n := 126) (Γ := [(0, sval [.one (.int .i64 x1), .arr 36 (enf u8v x2)])]) (R := spec_l06Is.R) Try.func61 rfl rfl (Nat.le_of_ble_eq_true rfl) ⟨rfl, trivial⟩ ?_
  unfold spec_l06Is.f
  refine TC.seq ?_
  refine TC.region ?_
  refine TL.box [.one (.int .i64 x1), .arr 36 (enf u8v x2)] rfl rfl rfl rfl fun b_1 => ?_
  refine TL.assign rfl rfl (v := .bool false) rfl ?_
  refine TL.done ?_
  refine TC.seq ?_
  refine TC.region ?_
  refine TL.fa Try.underlying37 rfl Try.sizeOf2 rfl 0 rfl rfl rfl rfl ?_
  refine TL.load1 0 (Src.box 0 rfl) Try.isAgg2 rfl rfl rfl rfl rfl ?_
  refine TL.assign rfl rfl (v := .int .i64 x1) rfl ?_
  refine TL.done ?_
  refine TC.seq ?_
  refine TC.seq ?_
  refine TC.region ?_
  refine TL.move rfl rfl (v := .int .i64 x1) rfl ?_
  refine TL.call (R := G.spec_l01In.R) Try.call54 rfl rfl rfl (fun w hS => G.spec_l01In.calls w x1 1 6) ?_
  rintro r_1 _ _ ⟨rfl, rfl⟩
  refine TL.not r_1 rfl rfl rfl ?_
  refine TL.done ?_
  refine TC.cond (b := (!r_1)) rfl (fun c1 => ?_) (fun c2 => ?_)
  · refine TC.seq ?_
    refine TC.region ?_
    refine TL.assign rfl rfl (v := .bool false) rfl ?_
    refine TL.done ?_
    exact TC.retF (Fin.body (fin1 (.inr rfl) rfl (.tmp rfl) [] rfl ⟨rfl, rfl⟩))
  · refine TC.skip ?_
    refine TC.seq ?_
    refine TC.seq ?_
    refine TC.region ?_
    refine TL.assign rfl rfl (v := .int .i64 0) rfl ?_
    refine TL.done ?_
    refine TC.loopK (σ := Int) (γ := Unit) (Γ' := (fun x3 _ => [(1, bp b_1 0), (3, .int .i64 x1), (4, .int .i64 x3)])) (L' := (fun x3 _ => [box b_1 37 [.one (.int .i64 x1), .arr 36 (enf u8v x2)]])) (Γb := (fun x3 _ => [(1, bp b_1 0), (3, .int .i64 x1), (4, .int .i64 x3)])) (Lb := (fun x3 _ => [box b_1 37 [.one (.int .i64 x1), .arr 36 (enf u8v x2)]])) (0) (()) ⟨rfl, rfl, rfl, trivial⟩ [0] rfl ?_ ?_
    · rintro x3 _
      refine TC.seq ?_
      refine TC.seq ?_
      refine TC.region ?_
      refine TL.move rfl rfl (v := .int .i64 x3) rfl ?_
      refine TL.bin .i64 x3 6 rfl rfl rfl rfl (v := .bool (decide (x3 < 6))) rfl ?_
      refine TL.done ?_
      refine TC.cond (b := (decide (x3 < 6))) rfl (fun c3 => ?_) (fun c4 => ?_)
      · refine TC.skip ?_
        refine TC.seq ?_
        refine TC.block (NoEx.loop rfl NoEx.body) ?_
        refine TC.seq ?_
        refine TC.region ?_
        refine TL.assign rfl rfl (v := .int .i64 0) rfl ?_
        refine TL.done ?_
        refine TC.loopK (σ := Int) (γ := Unit) (Γ' := (fun x4 _ => [(1, bp b_1 0), (3, .int .i64 x1), (4, .int .i64 x3), (5, .int .i64 x4)])) (L' := (fun x4 _ => [box b_1 37 [.one (.int .i64 x1), .arr 36 (enf u8v x2)]])) (Γb := (fun x4 _ => [(1, bp b_1 0), (3, .int .i64 x1), (4, .int .i64 x3), (5, .int .i64 x4)])) (Lb := (fun x4 _ => [box b_1 37 [.one (.int .i64 x1), .arr 36 (enf u8v x2)]])) (0) (()) ⟨rfl, rfl, rfl, rfl, trivial⟩ [0] rfl ?_ ?_
        · rintro x4 _
          refine TC.seq ?_
          refine TC.seq ?_
          refine TC.region ?_
          refine TL.move rfl rfl (v := .int .i64 x4) rfl ?_
          refine TL.bin .i64 x4 6 rfl rfl rfl rfl (v := .bool (decide (x4 < 6))) rfl ?_
          refine TL.done ?_
          refine TC.cond (b := (decide (x4 < 6))) rfl (fun c5 => ?_) (fun c6 => ?_)
          · refine TC.skip ?_
            refine TC.seq ?_
            refine TC.block (NoEx.loop rfl (NoEx.loop rfl NoEx.body)) ?_
            refine TC.seq ?_
            refine TC.region ?_
            refine TL.move rfl rfl (v := .int .i64 x3) rfl ?_
            refine TL.move rfl rfl (v := .int .i64 x1) rfl ?_
            refine TL.bin .i64 x3 x1 rfl rfl rfl rfl (v := .bool (decide (x3 ≥ x1))) rfl ?_
            refine TL.move rfl rfl (v := .bool (decide (x3 ≥ x1))) rfl ?_
            refine TL.cutU 4 [(30, .bool ((decide (x3 ≥ x1)) || (decide (x4 ≥ x1)))), (1, bp b_1 0), (3, .int .i64 x1), (4, .int .i64 x3), (5, .int .i64 x4), (19, .int .i64 x4), (20, .bool (decide (x4 < 6))), (23, .int .i64 x3), (24, .int .i64 x1), (25, .bool (decide (x3 ≥ x1))), (26, .bool (decide (x3 ≥ x1)))] [box b_1 37 [.one (.int .i64 x1), .arr 36 (enf u8v x2)]] ?_ ?_
            · refine TL.cases (t := 26) (b := (decide (x3 ≥ x1))) rfl (fun c7 => ?_) (fun c8 => ?_)
              · refine TL.skip rfl rfl (by decide) ?_
                refine TL.skip rfl rfl (by decide) ?_
                refine TL.skip rfl rfl (by decide) ?_
                refine TL.pick rfl rfl (b := true) rfl (r := .bool true) rfl ?_
                refine TL.done ?_
                exact TC.nrm () () ⟨(by rw [c7]; rfl), rfl, rfl, rfl, rfl, rfl, rfl, rfl, rfl, rfl, (by rw [c7]; rfl), trivial⟩ [0] rfl
              · refine TL.move rfl rfl (v := .int .i64 x4) rfl ?_
                refine TL.move rfl rfl (v := .int .i64 x1) rfl ?_
                refine TL.bin .i64 x4 x1 rfl rfl rfl rfl (v := .bool (decide (x4 ≥ x1))) rfl ?_
                refine TL.pick rfl rfl (b := false) rfl (r := .bool (decide (x4 ≥ x1))) rfl ?_
                refine TL.done ?_
                exact TC.nrm () () ⟨(by rw [c8]; rfl), rfl, rfl, rfl, rfl, rfl, rfl, rfl, rfl, rfl, (by rw [c8]; rfl), trivial⟩ [0] rfl
            · refine TL.done ?_
              refine TC.join (σ := Unit) (γ := Unit) (Γ' := (fun _ _ => [(1, bp b_1 0), (3, .int .i64 x1), (4, .int .i64 x3), (5, .int .i64 x4)])) (L' := (fun _ _ => [box b_1 37 [.one (.int .i64 x1), .arr 36 (enf u8v x2)]])) ?_ ?_
              · refine TC.cond (b := ((decide (x3 ≥ x1)) || (decide (x4 ≥ x1)))) rfl (fun c9 => ?_) (fun c10 => ?_)
                · refine TC.seq ?_
                  refine TC.region ?_
                  refine TL.move rfl rfl (v := .int .i64 x3) rfl ?_
                  refine TL.move rfl rfl (v := .int .i64 x4) rfl ?_
                  refine TL.fa Try.underlying37 rfl Try.sizeOf33 rfl 1 rfl rfl rfl rfl ?_
                  refine TL.chk fun h1 => ?_
                  refine TL.ixa x3 (1 + x3.toNat * 6) h1 Try.underlying33 Try.sizeOf32 rfl rfl rfl rfl (by omega) ?_
                  refine TL.chk fun h2 => ?_
                  refine TL.ixa x4 (1 + (x3.toNat * 6 + x4.toNat)) h2 Try.underlying32 Try.sizeOf5 rfl rfl rfl rfl (by omega) ?_
                  refine TL.loadA (x3.toNat * 6 + x4.toNat) 1 (Src.box 0 rfl) Try.isAgg5 rfl (by omega) (v := u8v (x2 (x3.toNat * 6 + x4.toNat))) rfl (st := 1) rfl (by omega) rfl rfl rfl ?_
                  refine TL.bin .u8 ((x2 (x3.toNat * 6 + x4.toNat)).toNat : Int) ((0 : UInt8).toNat : Int) rfl rfl rfl rfl (v := .bool (((x2 (x3.toNat * 6 + x4.toNat)).toNat : Int) != ((0 : UInt8).toNat : Int))) rfl ?_
                  refine TL.done ?_
                  refine TC.cond (b := (((x2 (x3.toNat * 6 + x4.toNat)).toNat : Int) != ((0 : UInt8).toNat : Int))) rfl (fun c11 => ?_) (fun c12 => ?_)
                  · refine TC.seq ?_
                    refine TC.region ?_
                    refine TL.assign rfl rfl (v := .bool false) rfl ?_
                    refine TL.done ?_
                    exact TC.retF (Fin.join (by simp) (Fin.loop Far.ret (Fin.loop Far.ret (Fin.body (fin1 (.inr rfl) rfl (.tmp rfl) [] rfl ⟨rfl, rfl⟩)))))
                  · refine TC.skip ?_
                    exact TC.inl (()) (()) ⟨rfl, rfl, rfl, rfl, trivial⟩ [0] rfl
                · refine TC.seq ?_
                  refine TC.region ?_
                  refine TL.move rfl rfl (v := .int .i64 x3) rfl ?_
                  refine TL.move rfl rfl (v := .int .i64 x4) rfl ?_
                  refine TL.fa Try.underlying37 rfl Try.sizeOf33 rfl 1 rfl rfl rfl rfl ?_
                  refine TL.chk fun h3 => ?_
                  refine TL.ixa x3 (1 + x3.toNat * 6) h3 Try.underlying33 Try.sizeOf32 rfl rfl rfl rfl (by omega) ?_
                  refine TL.chk fun h4 => ?_
                  refine TL.ixa x4 (1 + (x3.toNat * 6 + x4.toNat)) h4 Try.underlying32 Try.sizeOf5 rfl rfl rfl rfl (by omega) ?_
                  refine TL.loadA (x3.toNat * 6 + x4.toNat) 1 (Src.box 0 rfl) Try.isAgg5 rfl (by omega) (v := u8v (x2 (x3.toNat * 6 + x4.toNat))) rfl (st := 1) rfl (by omega) rfl rfl rfl ?_
                  refine TL.conv .u8 .i64 ((x2 (x3.toNat * 6 + x4.toNat)).toNat : Int) _ rfl rfl rfl Try.underlying5 Try.underlying2 (v := .int .i64 ((x2 (x3.toNat * 6 + x4.toNat)).toNat : Int)) (conv_u8_i64 _) ?_
                  refine TL.move rfl rfl (v := .int .i64 x1) rfl ?_
                  refine TL.bin .i64 ((x2 (x3.toNat * 6 + x4.toNat)).toNat : Int) x1 rfl rfl rfl rfl (v := .bool (decide (((x2 (x3.toNat * 6 + x4.toNat)).toNat : Int) ≥ x1))) rfl ?_
                  refine TL.done ?_
                  refine TC.cond (b := (decide (((x2 (x3.toNat * 6 + x4.toNat)).toNat : Int) ≥ x1))) rfl (fun c13 => ?_) (fun c14 => ?_)
                  · refine TC.seq ?_
                    refine TC.region ?_
                    refine TL.assign rfl rfl (v := .bool false) rfl ?_
                    refine TL.done ?_
                    exact TC.retF (Fin.join (by simp) (Fin.loop Far.ret (Fin.loop Far.ret (Fin.body (fin1 (.inr rfl) rfl (.tmp rfl) [] rfl ⟨rfl, rfl⟩)))))
                  · refine TC.skip ?_
                    exact TC.inl (()) (()) ⟨rfl, rfl, rfl, rfl, trivial⟩ [0] rfl
              · rintro _ _
                refine TC.region ?_
                refine TL.move rfl rfl (v := .int .i64 x4) rfl ?_
                refine TL.bin .i64 x4 1 rfl rfl rfl rfl (v := .int .i64 (w64 (x4 + 1))) rfl ?_
                refine TL.assign rfl rfl (v := .int .i64 (w64 (x4 + 1))) rfl ?_
                refine TL.done ?_
                exact TC.next ((w64 (x4 + 1))) (()) ⟨rfl, rfl, rfl, rfl, trivial⟩ [0] rfl
          · exact TC.brk (x4) (()) ⟨rfl, rfl, rfl, rfl, trivial⟩ [0] rfl
        · rintro x4 _
          refine TC.region ?_
          refine TL.move rfl rfl (v := .int .i64 x3) rfl ?_
          refine TL.bin .i64 x3 1 rfl rfl rfl rfl (v := .int .i64 (w64 (x3 + 1))) rfl ?_
          refine TL.assign rfl rfl (v := .int .i64 (w64 (x3 + 1))) rfl ?_
          refine TL.done ?_
          exact TC.next ((w64 (x3 + 1))) (()) ⟨rfl, rfl, rfl, trivial⟩ [0] rfl
      · exact TC.brk (x3) (()) ⟨rfl, rfl, rfl, trivial⟩ [0] rfl
    · rintro x3 _
      refine TC.seq ?_
      refine TC.seq ?_
      refine TC.region ?_
      refine TL.assign rfl rfl (v := .int .i64 0) rfl ?_
      refine TL.done ?_
      refine TC.loopK (σ := Int) (γ := Unit) (Γ' := (fun x5 _ => [(1, bp b_1 0), (3, .int .i64 x1), (6, .int .i64 x5)])) (L' := (fun x5 _ => [box b_1 37 [.one (.int .i64 x1), .arr 36 (enf u8v x2)]])) (Γb := (fun x5 _ => [(1, bp b_1 0), (3, .int .i64 x1), (6, .int .i64 x5)])) (Lb := (fun x5 _ => [box b_1 37 [.one (.int .i64 x1), .arr 36 (enf u8v x2)]])) (0) (()) ⟨rfl, rfl, rfl, trivial⟩ [0] rfl ?_ ?_
      · rintro x5 _
        refine TC.seq ?_
        refine TC.seq ?_
        refine TC.region ?_
        refine TL.move rfl rfl (v := .int .i64 x5) rfl ?_
        refine TL.move rfl rfl (v := .int .i64 x1) rfl ?_
        refine TL.bin .i64 x5 x1 rfl rfl rfl rfl (v := .bool (decide (x5 < x1))) rfl ?_
        refine TL.done ?_
        refine TC.cond (b := (decide (x5 < x1))) rfl (fun c15 => ?_) (fun c16 => ?_)
        · refine TC.skip ?_
          refine TC.seq ?_
          refine TC.block (NoEx.loop rfl NoEx.body) ?_
          refine TC.seq ?_
          refine TC.region ?_
          refine TL.assign rfl rfl (v := .bool false) rfl ?_
          refine TL.done ?_
          refine TC.seq ?_
          refine TC.seq ?_
          refine TC.region ?_
          refine TL.assign rfl rfl (v := .int .i64 0) rfl ?_
          refine TL.done ?_
          refine TC.loopK (σ := Bool × Int) (γ := Unit) (Γ' := (fun p q => match p, q with | (x6, x7), _ => [(1, bp b_1 0), (3, .int .i64 x1), (6, .int .i64 x5), (7, .bool x6), (8, .int .i64 x7)])) (L' := (fun p q => match p, q with | (x6, x7), _ => [box b_1 37 [.one (.int .i64 x1), .arr 36 (enf u8v x2)]])) (Γb := (fun p q => match p, q with | (x6, x7), _ => [(1, bp b_1 0), (3, .int .i64 x1), (6, .int .i64 x5), (7, .bool x6), (8, .int .i64 x7)])) (Lb := (fun p q => match p, q with | (x6, x7), _ => [box b_1 37 [.one (.int .i64 x1), .arr 36 (enf u8v x2)]])) ((false, 0)) (()) ⟨rfl, rfl, rfl, rfl, rfl, trivial⟩ [0] rfl ?_ ?_
          · rintro ⟨x6, x7⟩ _
            refine TC.seq ?_
            refine TC.seq ?_
            refine TC.region ?_
            refine TL.move rfl rfl (v := .int .i64 x7) rfl ?_
            refine TL.move rfl rfl (v := .int .i64 x1) rfl ?_
            refine TL.bin .i64 x7 x1 rfl rfl rfl rfl (v := .bool (decide (x7 < x1))) rfl ?_
            refine TL.done ?_
            refine TC.cond (b := (decide (x7 < x1))) rfl (fun c17 => ?_) (fun c18 => ?_)
            · refine TC.skip ?_
              refine TC.seq ?_
              refine TC.block (NoEx.loop rfl (NoEx.loop rfl NoEx.body)) ?_
              refine TC.seq ?_
              refine TC.region ?_
              refine TL.move rfl rfl (v := .bool x6) rfl ?_
              refine TL.move rfl rfl (v := .bool x6) rfl ?_
              refine TL.cutJ (σ := Bool) (γ := Unit) (Γ' := fun b_2 _ => [(75, .bool b_2), (1, bp b_1 0), (3, .int .i64 x1), (6, .int .i64 x5), (7, .bool x6), (8, .int .i64 x7), (52, .int .i64 x7), (53, .int .i64 x1), (54, .bool (decide (x7 < x1))), (57, .bool x6), (58, .bool x6)]) (L' := fun _ _ => [box b_1 37 [.one (.int .i64 x1), .arr 36 (enf u8v x2)]]) 17 ?_ ?_
              · refine TL.ifb (t := 58) (b := x6) rfl (fun c19 => ?_) (fun c20 => ?_)
                · refine TL.skip rfl rfl (by decide) ?_
                  refine TL.skip rfl rfl (by decide) ?_
                  refine TL.skip rfl rfl (by decide) ?_
                  refine TL.skip rfl rfl (by decide) ?_
                  refine TL.skip rfl rfl (by decide) ?_
                  refine TL.skip rfl rfl (by decide) ?_
                  refine TL.skip rfl rfl (by decide) ?_
                  refine TL.skip rfl rfl (by decide) ?_
                  refine TL.skip rfl rfl (by decide) ?_
                  refine TL.skip rfl rfl (by decide) ?_
                  refine TL.skip rfl rfl (by decide) ?_
                  refine TL.skip rfl rfl (by decide) ?_
                  refine TL.skip rfl rfl (by decide) ?_
                  refine TL.skip rfl rfl (by decide) ?_
                  refine TL.skip rfl rfl (by decide) ?_
                  refine TL.skip rfl rfl (by decide) ?_
                  refine TL.pick rfl rfl (b := true) rfl (r := .bool true) rfl ?_
                  refine TL.done ?_
                  exact TC.nrm (true) () ⟨rfl, rfl, rfl, rfl, rfl, rfl, rfl, rfl, rfl, rfl, (by rw [c19]; rfl), trivial⟩ [0] rfl
                · refine TL.move rfl rfl (v := .int .i64 x5) rfl ?_
                  refine TL.move rfl rfl (v := .int .i64 x7) rfl ?_
                  refine TL.fa Try.underlying37 rfl Try.sizeOf33 rfl 1 rfl rfl rfl rfl ?_
                  refine TL.chk fun h5 => ?_
                  refine TL.ixa x5 (1 + x5.toNat * 6) h5 Try.underlying33 Try.sizeOf32 rfl rfl rfl rfl (by omega) ?_
                  refine TL.chk fun h6 => ?_
                  refine TL.ixa x7 (1 + (x5.toNat * 6 + x7.toNat)) h6 Try.underlying32 Try.sizeOf5 rfl rfl rfl rfl (by omega) ?_
                  refine TL.loadA (x5.toNat * 6 + x7.toNat) 1 (Src.box 0 rfl) Try.isAgg5 rfl (by omega) (v := u8v (x2 (x5.toNat * 6 + x7.toNat))) rfl (st := 1) rfl (by omega) rfl rfl rfl ?_
                  refine TL.bin .u8 ((x2 (x5.toNat * 6 + x7.toNat)).toNat : Int) ((0 : UInt8).toNat : Int) rfl rfl rfl rfl (v := .bool (((x2 (x5.toNat * 6 + x7.toNat)).toNat : Int) == ((0 : UInt8).toNat : Int))) rfl ?_
                  refine TL.move rfl rfl (v := .bool (((x2 (x5.toNat * 6 + x7.toNat)).toNat : Int) == ((0 : UInt8).toNat : Int))) rfl ?_
                  refine TL.cutU 8 [(74, .bool ((((x2 (x5.toNat * 6 + x7.toNat)).toNat : Int) == ((0 : UInt8).toNat : Int)) && (((x2 (x7.toNat * 6 + x5.toNat)).toNat : Int) == ((0 : UInt8).toNat : Int)))), (1, bp b_1 0), (3, .int .i64 x1), (6, .int .i64 x5), (7, .bool x6), (8, .int .i64 x7), (52, .int .i64 x7), (53, .int .i64 x1), (54, .bool (decide (x7 < x1))), (57, .bool x6), (58, .bool false), (59, .int .i64 x5), (60, .int .i64 x7), (61, bp b_1 1), (62, bp b_1 (1 + x5.toNat * 6)), (63, bp b_1 (1 + (x5.toNat * 6 + x7.toNat))), (64, u8v (x2 (x5.toNat * 6 + x7.toNat))), (65, .bool (((x2 (x5.toNat * 6 + x7.toNat)).toNat : Int) == ((0 : UInt8).toNat : Int))), (66, .bool (((x2 (x5.toNat * 6 + x7.toNat)).toNat : Int) == ((0 : UInt8).toNat : Int)))] [box b_1 37 [.one (.int .i64 x1), .arr 36 (enf u8v x2)]] ?_ ?_
                  · refine TL.cases (t := 66) (b := (((x2 (x5.toNat * 6 + x7.toNat)).toNat : Int) == ((0 : UInt8).toNat : Int))) rfl (fun c21 => ?_) (fun c22 => ?_)
                    · refine TL.move rfl rfl (v := .int .i64 x7) rfl ?_
                      refine TL.move rfl rfl (v := .int .i64 x5) rfl ?_
                      refine TL.fa Try.underlying37 rfl Try.sizeOf33 rfl 1 rfl rfl rfl rfl ?_
                      refine TL.ixa x7 (1 + x7.toNat * 6) h6 Try.underlying33 Try.sizeOf32 rfl rfl rfl rfl (by omega) ?_
                      refine TL.ixa x5 (1 + (x7.toNat * 6 + x5.toNat)) h5 Try.underlying32 Try.sizeOf5 rfl rfl rfl rfl (by omega) ?_
                      refine TL.loadA (x7.toNat * 6 + x5.toNat) 1 (Src.box 0 rfl) Try.isAgg5 rfl (by omega) (v := u8v (x2 (x7.toNat * 6 + x5.toNat))) rfl (st := 1) rfl (by omega) rfl rfl rfl ?_
                      refine TL.bin .u8 ((x2 (x7.toNat * 6 + x5.toNat)).toNat : Int) ((0 : UInt8).toNat : Int) rfl rfl rfl rfl (v := .bool (((x2 (x7.toNat * 6 + x5.toNat)).toNat : Int) == ((0 : UInt8).toNat : Int))) rfl ?_
                      refine TL.pick rfl rfl (b := true) rfl (r := .bool (((x2 (x7.toNat * 6 + x5.toNat)).toNat : Int) == ((0 : UInt8).toNat : Int))) rfl ?_
                      refine TL.done ?_
                      exact TC.nrm () () ⟨(by rw [c21]; rfl), rfl, rfl, rfl, rfl, rfl, rfl, rfl, rfl, rfl, rfl, rfl, rfl, rfl, rfl, rfl, rfl, rfl, (by rw [c21]; rfl), trivial⟩ [0] rfl
                    · refine TL.skip rfl rfl (by decide) ?_
                      refine TL.skip rfl rfl (by decide) ?_
                      refine TL.skip rfl rfl (by decide) ?_
                      refine TL.skip rfl rfl (by decide) ?_
                      refine TL.skip rfl rfl (by decide) ?_
                      refine TL.skip rfl rfl (by decide) ?_
                      refine TL.skip rfl rfl (by decide) ?_
                      refine TL.pick rfl rfl (b := false) rfl (r := .bool false) rfl ?_
                      refine TL.done ?_
                      exact TC.nrm () () ⟨(by rw [c22]; rfl), rfl, rfl, rfl, rfl, rfl, rfl, rfl, rfl, rfl, rfl, rfl, rfl, rfl, rfl, rfl, rfl, rfl, (by rw [c22]; rfl), trivial⟩ [0] rfl
                  · refine TL.pick rfl rfl (b := false) rfl (r := .bool ((((x2 (x5.toNat * 6 + x7.toNat)).toNat : Int) == ((0 : UInt8).toNat : Int)) && (((x2 (x7.toNat * 6 + x5.toNat)).toNat : Int) == ((0 : UInt8).toNat : Int)))) rfl ?_
                    refine TL.done ?_
                    exact TC.nrm (((((x2 (x5.toNat * 6 + x7.toNat)).toNat : Int) == ((0 : UInt8).toNat : Int)) && (((x2 (x7.toNat * 6 + x5.toNat)).toNat : Int) == ((0 : UInt8).toNat : Int)))) () ⟨rfl, rfl, rfl, rfl, rfl, rfl, rfl, rfl, rfl, rfl, (by rw [c20]; rfl), trivial⟩ [0] rfl
              · rintro b_2 _
                refine TL.assign rfl rfl (v := .bool b_2) rfl ?_
                refine TL.done ?_
                refine TC.seq ?_
                refine TC.region ?_
                refine TL.assign rfl rfl (v := .int .i64 0) rfl ?_
                refine TL.done ?_
                refine TC.loopK (σ := Int) (γ := Unit) (Γ' := (fun x8 _ => [(1, bp b_1 0), (3, .int .i64 x1), (6, .int .i64 x5), (7, .bool b_2), (8, .int .i64 x7), (9, .int .i64 x8)])) (L' := (fun x8 _ => [box b_1 37 [.one (.int .i64 x1), .arr 36 (enf u8v x2)]])) (Γb := (fun x8 _ => [(1, bp b_1 0), (3, .int .i64 x1), (6, .int .i64 x5), (7, .bool b_2), (8, .int .i64 x7), (9, .int .i64 x8)])) (Lb := (fun x8 _ => [box b_1 37 [.one (.int .i64 x1), .arr 36 (enf u8v x2)]])) (0) (()) ⟨rfl, rfl, rfl, rfl, rfl, rfl, trivial⟩ [0] rfl ?_ ?_
                · rintro x8 _
                  refine TC.seq ?_
                  refine TC.seq ?_
                  refine TC.region ?_
                  refine TL.move rfl rfl (v := .int .i64 x8) rfl ?_
                  refine TL.move rfl rfl (v := .int .i64 x1) rfl ?_
                  refine TL.bin .i64 x8 x1 rfl rfl rfl rfl (v := .bool (decide (x8 < x1))) rfl ?_
                  refine TL.done ?_
                  refine TC.cond (b := (decide (x8 < x1))) rfl (fun c23 => ?_) (fun c24 => ?_)
                  · refine TC.skip ?_
                    refine TC.seq ?_
                    refine TC.block (NoEx.loop rfl (NoEx.loop rfl (NoEx.loop rfl NoEx.body))) ?_
                    refine TC.seq ?_
                    refine TC.wk (Γ' := [(1, bp b_1 0), (3, .int .i64 x1), (6, .int .i64 x5), (7, .bool b_2), (8, .int .i64 x7), (9, .int .i64 x8), (76, .int .i64 x8), (77, .int .i64 x1), (78, .bool (decide (x8 < x1)))]) ⟨rfl, rfl, rfl, rfl, rfl, rfl, rfl, rfl, rfl, trivial⟩ ?_
                    refine TC.chk fun h7 => ?_
                    refine TC.chk fun h8 => ?_
                    refine TC.chk fun h9 => ?_
                    refine TC.chk fun h10 => ?_
                    refine TC.chk fun h11 => ?_
                    refine TC.draw [.int .i64 x5, .int .i64 x7, bp b_1 1, bp b_1 (1 + x5.toNat * 6), bp b_1 (1 + (x5.toNat * 6 + x7.toNat)), u8v (x2 (x5.toNat * 6 + x7.toNat)), .int .i64 x8, bp b_1 1, bp b_1 (1 + (x2 (x5.toNat * 6 + x7.toNat)).toNat * 6), bp b_1 (1 + ((x2 (x5.toNat * 6 + x7.toNat)).toNat * 6 + x8.toNat)), u8v (x2 ((x2 (x5.toNat * 6 + x7.toNat)).toNat * 6 + x8.toNat)), .int .i64 x5, .int .i64 x7, .int .i64 x8, bp b_1 1, bp b_1 (1 + x7.toNat * 6), bp b_1 (1 + (x7.toNat * 6 + x8.toNat)), u8v (x2 (x7.toNat * 6 + x8.toNat)), bp b_1 1, bp b_1 (1 + x5.toNat * 6), bp b_1 (1 + (x5.toNat * 6 + (x2 (x7.toNat * 6 + x8.toNat)).toNat)), u8v (x2 (x5.toNat * 6 + (x2 (x7.toNat * 6 + x8.toNat)).toNat)), .bool (((x2 ((x2 (x5.toNat * 6 + x7.toNat)).toNat * 6 + x8.toNat)).toNat : Int) != ((x2 (x5.toNat * 6 + (x2 (x7.toNat * 6 + x8.toNat)).toNat)).toNat : Int))] 23 [box b_1 37 [.one (.int .i64 x1), .arr 36 (enf u8v x2)]] (by kernel_rfl) rfl rfl rfl rfl ?_ ?_
                    · refine ⟨?_, ?_, ?_, ?_, ?_, ?_, ?_, ?_, ?_, ?_, ?_, ?_, ?_, ?_, ?_, ?_, ?_, ?_, ?_, ?_, ?_, ?_, ?_, trivial⟩
                      · refine TL.move rfl rfl (v := .int .i64 x5) rfl ?_
                        refine TL.done ?_
                        exact TC.nrm () () ⟨rfl, trivial⟩ [0] rfl
                      · refine TL.move rfl rfl (v := .int .i64 x7) rfl ?_
                        refine TL.done ?_
                        exact TC.nrm () () ⟨rfl, trivial⟩ [0] rfl
                      · refine TL.fa Try.underlying37 rfl Try.sizeOf33 rfl 1 rfl rfl rfl rfl ?_
                        refine TL.done ?_
                        exact TC.nrm () () ⟨rfl, trivial⟩ [0] rfl
                      · refine TL.ixa x5 (1 + x5.toNat * 6) h7 Try.underlying33 Try.sizeOf32 rfl rfl rfl rfl (by omega) ?_
                        refine TL.done ?_
                        exact TC.nrm () () ⟨rfl, trivial⟩ [0] rfl
                      · refine TL.ixa x7 (1 + (x5.toNat * 6 + x7.toNat)) h8 Try.underlying32 Try.sizeOf5 rfl rfl rfl rfl (by omega) ?_
                        refine TL.done ?_
                        exact TC.nrm () () ⟨rfl, trivial⟩ [0] rfl
                      · refine TL.loadA (x5.toNat * 6 + x7.toNat) 1 (Src.box 0 rfl) Try.isAgg5 rfl (by omega) (v := u8v (x2 (x5.toNat * 6 + x7.toNat))) rfl (st := 1) rfl (by omega) rfl rfl rfl ?_
                        refine TL.done ?_
                        exact TC.nrm () () ⟨rfl, trivial⟩ [0] rfl
                      · refine TL.move rfl rfl (v := .int .i64 x8) rfl ?_
                        refine TL.done ?_
                        exact TC.nrm () () ⟨rfl, trivial⟩ [0] rfl
                      · refine TL.fa Try.underlying37 rfl Try.sizeOf33 rfl 1 rfl rfl rfl rfl ?_
                        refine TL.done ?_
                        exact TC.nrm () () ⟨rfl, trivial⟩ [0] rfl
                      · refine TL.ixa ((x2 (x5.toNat * 6 + x7.toNat)).toNat : Int) (1 + (x2 (x5.toNat * 6 + x7.toNat)).toNat * 6) h9 Try.underlying33 Try.sizeOf32 rfl rfl rfl rfl (by omega) ?_
                        refine TL.done ?_
                        exact TC.nrm () () ⟨rfl, trivial⟩ [0] rfl
                      · refine TL.ixa x8 (1 + ((x2 (x5.toNat * 6 + x7.toNat)).toNat * 6 + x8.toNat)) h10 Try.underlying32 Try.sizeOf5 rfl rfl rfl rfl (by omega) ?_
                        refine TL.done ?_
                        exact TC.nrm () () ⟨rfl, trivial⟩ [0] rfl
                      · refine TL.loadA ((x2 (x5.toNat * 6 + x7.toNat)).toNat * 6 + x8.toNat) 1 (Src.box 0 rfl) Try.isAgg5 rfl (by omega) (v := u8v (x2 ((x2 (x5.toNat * 6 + x7.toNat)).toNat * 6 + x8.toNat))) rfl (st := 1) rfl (by omega) rfl rfl rfl ?_
                        refine TL.done ?_
                        exact TC.nrm () () ⟨rfl, trivial⟩ [0] rfl
                      · refine TL.move rfl rfl (v := .int .i64 x5) rfl ?_
                        refine TL.done ?_
                        exact TC.nrm () () ⟨rfl, trivial⟩ [0] rfl
                      · refine TL.move rfl rfl (v := .int .i64 x7) rfl ?_
                        refine TL.done ?_
                        exact TC.nrm () () ⟨rfl, trivial⟩ [0] rfl
                      · refine TL.move rfl rfl (v := .int .i64 x8) rfl ?_
                        refine TL.done ?_
                        exact TC.nrm () () ⟨rfl, trivial⟩ [0] rfl
                      · refine TL.fa Try.underlying37 rfl Try.sizeOf33 rfl 1 rfl rfl rfl rfl ?_
                        refine TL.done ?_
                        exact TC.nrm () () ⟨rfl, trivial⟩ [0] rfl
                      · refine TL.ixa x7 (1 + x7.toNat * 6) h8 Try.underlying33 Try.sizeOf32 rfl rfl rfl rfl (by omega) ?_
                        refine TL.done ?_
                        exact TC.nrm () () ⟨rfl, trivial⟩ [0] rfl
                      · refine TL.ixa x8 (1 + (x7.toNat * 6 + x8.toNat)) h10 Try.underlying32 Try.sizeOf5 rfl rfl rfl rfl (by omega) ?_
                        refine TL.done ?_
                        exact TC.nrm () () ⟨rfl, trivial⟩ [0] rfl
                      · refine TL.loadA (x7.toNat * 6 + x8.toNat) 1 (Src.box 0 rfl) Try.isAgg5 rfl (by omega) (v := u8v (x2 (x7.toNat * 6 + x8.toNat))) rfl (st := 1) rfl (by omega) rfl rfl rfl ?_
                        refine TL.done ?_
                        exact TC.nrm () () ⟨rfl, trivial⟩ [0] rfl
                      · refine TL.fa Try.underlying37 rfl Try.sizeOf33 rfl 1 rfl rfl rfl rfl ?_
                        refine TL.done ?_
                        exact TC.nrm () () ⟨rfl, trivial⟩ [0] rfl
                      · refine TL.ixa x5 (1 + x5.toNat * 6) h7 Try.underlying33 Try.sizeOf32 rfl rfl rfl rfl (by omega) ?_
                        refine TL.done ?_
                        exact TC.nrm () () ⟨rfl, trivial⟩ [0] rfl
                      · refine TL.ixa ((x2 (x7.toNat * 6 + x8.toNat)).toNat : Int) (1 + (x5.toNat * 6 + (x2 (x7.toNat * 6 + x8.toNat)).toNat)) h11 Try.underlying32 Try.sizeOf5 rfl rfl rfl rfl (by omega) ?_
                        refine TL.done ?_
                        exact TC.nrm () () ⟨rfl, trivial⟩ [0] rfl
                      · refine TL.loadA (x5.toNat * 6 + (x2 (x7.toNat * 6 + x8.toNat)).toNat) 1 (Src.box 0 rfl) Try.isAgg5 rfl (by omega) (v := u8v (x2 (x5.toNat * 6 + (x2 (x7.toNat * 6 + x8.toNat)).toNat))) rfl (st := 1) rfl (by omega) rfl rfl rfl ?_
                        refine TL.done ?_
                        exact TC.nrm () () ⟨rfl, trivial⟩ [0] rfl
                      · refine TL.bin .u8 ((x2 ((x2 (x5.toNat * 6 + x7.toNat)).toNat * 6 + x8.toNat)).toNat : Int) ((x2 (x5.toNat * 6 + (x2 (x7.toNat * 6 + x8.toNat)).toNat)).toNat : Int) rfl rfl rfl rfl (v := .bool (((x2 ((x2 (x5.toNat * 6 + x7.toNat)).toNat * 6 + x8.toNat)).toNat : Int) != ((x2 (x5.toNat * 6 + (x2 (x7.toNat * 6 + x8.toNat)).toNat)).toNat : Int))) rfl ?_
                        refine TL.done ?_
                        exact TC.nrm () () ⟨rfl, trivial⟩ [0] rfl
                    · refine TC.cond (b := (((x2 ((x2 (x5.toNat * 6 + x7.toNat)).toNat * 6 + x8.toNat)).toNat : Int) != ((x2 (x5.toNat * 6 + (x2 (x7.toNat * 6 + x8.toNat)).toNat)).toNat : Int))) rfl (fun c25 => ?_) (fun c26 => ?_)
                      · refine TC.seq ?_
                        refine TC.region ?_
                        refine TL.assign rfl rfl (v := .bool false) rfl ?_
                        refine TL.done ?_
                        exact TC.retF (Fin.loop Far.ret (Fin.loop Far.ret (Fin.loop Far.ret (Fin.body (fin1 (.inr rfl) rfl (.tmp rfl) [] rfl ⟨rfl, rfl⟩)))))
                      · refine TC.skip ?_
                        refine TC.region ?_
                        refine TL.move rfl rfl (v := .int .i64 x8) rfl ?_
                        refine TL.bin .i64 x8 1 rfl rfl rfl rfl (v := .int .i64 (w64 (x8 + 1))) rfl ?_
                        refine TL.assign rfl rfl (v := .int .i64 (w64 (x8 + 1))) rfl ?_
                        refine TL.done ?_
                        exact TC.next ((w64 (x8 + 1))) (()) ⟨rfl, rfl, rfl, rfl, rfl, rfl, trivial⟩ [0] rfl
                  · exact TC.brk (x8) (()) ⟨rfl, rfl, rfl, rfl, rfl, rfl, trivial⟩ [0] rfl
                · rintro x8 _
                  refine TC.region ?_
                  refine TL.move rfl rfl (v := .int .i64 x7) rfl ?_
                  refine TL.bin .i64 x7 1 rfl rfl rfl rfl (v := .int .i64 (w64 (x7 + 1))) rfl ?_
                  refine TL.assign rfl rfl (v := .int .i64 (w64 (x7 + 1))) rfl ?_
                  refine TL.done ?_
                  exact TC.next ((b_2, (w64 (x7 + 1)))) (()) ⟨rfl, rfl, rfl, rfl, rfl, trivial⟩ [0] rfl
            · exact TC.brk ((x6, x7)) (()) ⟨rfl, rfl, rfl, rfl, rfl, trivial⟩ [0] rfl
          · rintro ⟨x6, x7⟩ _
            refine TC.seq ?_
            refine TC.region ?_
            refine TL.move rfl rfl (v := .bool x6) rfl ?_
            refine TL.not x6 rfl rfl rfl ?_
            refine TL.move rfl rfl (v := .bool (!x6)) rfl ?_
            refine TL.cutJ (σ := Bool) (γ := Unit) (Γ' := fun b_3 _ => [(115, .bool b_3), (1, bp b_1 0), (3, .int .i64 x1), (6, .int .i64 x5), (7, .bool x6), (8, .int .i64 x7), (104, .bool x6), (105, .bool (!x6)), (106, .bool (!x6))]) (L' := fun _ _ => [box b_1 37 [.one (.int .i64 x1), .arr 36 (enf u8v x2)]]) 9 ?_ ?_
            · refine TL.ifb (t := 106) (b := (!x6)) rfl (fun c27 => ?_) (fun c28 => ?_)
              · refine TL.skip rfl rfl (by decide) ?_
                refine TL.skip rfl rfl (by decide) ?_
                refine TL.skip rfl rfl (by decide) ?_
                refine TL.skip rfl rfl (by decide) ?_
                refine TL.skip rfl rfl (by decide) ?_
                refine TL.skip rfl rfl (by decide) ?_
                refine TL.skip rfl rfl (by decide) ?_
                refine TL.skip rfl rfl (by decide) ?_
                refine TL.pick rfl rfl (b := true) rfl (r := .bool true) rfl ?_
                refine TL.done ?_
                exact TC.nrm (true) () ⟨rfl, rfl, rfl, rfl, rfl, rfl, rfl, rfl, (by rw [c27]; rfl), trivial⟩ [0] rfl
              · refine TL.move rfl rfl (v := .int .i64 x5) rfl ?_
                refine TL.fa Try.underlying37 rfl Try.sizeOf33 rfl 1 rfl rfl rfl rfl ?_
                refine TL.ixa 0 1 (by decide) Try.underlying33 Try.sizeOf32 rfl rfl rfl rfl rfl ?_
                refine TL.chk fun h12 => ?_
                refine TL.ixa x5 (1 + x5.toNat) h12 Try.underlying32 Try.sizeOf5 rfl rfl rfl rfl (by omega) ?_
                refine TL.loadA x5.toNat 1 (Src.box 0 rfl) Try.isAgg5 rfl (by omega) (v := u8v (x2 x5.toNat)) rfl (st := 1) rfl (by omega) rfl rfl rfl ?_
                refine TL.conv .u8 .i64 ((x2 x5.toNat).toNat : Int) _ rfl rfl rfl Try.underlying5 Try.underlying2 (v := .int .i64 ((x2 x5.toNat).toNat : Int)) (conv_u8_i64 _) ?_
                refine TL.move rfl rfl (v := .int .i64 x5) rfl ?_
                refine TL.bin .i64 ((x2 x5.toNat).toNat : Int) x5 rfl rfl rfl rfl (v := .bool (((x2 x5.toNat).toNat : Int) != x5)) rfl ?_
                refine TL.pick rfl rfl (b := false) rfl (r := .bool (((x2 x5.toNat).toNat : Int) != x5)) rfl ?_
                refine TL.done ?_
                exact TC.nrm ((((x2 x5.toNat).toNat : Int) != x5)) () ⟨rfl, rfl, rfl, rfl, rfl, rfl, rfl, rfl, (by rw [c28]; rfl), trivial⟩ [0] rfl
            · rintro b_3 _
              refine TL.move rfl rfl (v := .bool b_3) rfl ?_
              refine TL.cutJ (σ := Bool) (γ := Unit) (Γ' := fun b_4 _ => [(125, .bool b_4), (1, bp b_1 0), (3, .int .i64 x1), (6, .int .i64 x5), (7, .bool x6), (8, .int .i64 x7), (104, .bool x6), (105, .bool (!x6)), (106, .bool (!x6)), (115, .bool b_3), (116, .bool b_3)]) (L' := fun _ _ => [box b_1 37 [.one (.int .i64 x1), .arr 36 (enf u8v x2)]]) 9 ?_ ?_
              · refine TL.ifb (t := 116) (b := b_3) rfl (fun c29 => ?_) (fun c30 => ?_)
                · refine TL.skip rfl rfl (by decide) ?_
                  refine TL.skip rfl rfl (by decide) ?_
                  refine TL.skip rfl rfl (by decide) ?_
                  refine TL.skip rfl rfl (by decide) ?_
                  refine TL.skip rfl rfl (by decide) ?_
                  refine TL.skip rfl rfl (by decide) ?_
                  refine TL.skip rfl rfl (by decide) ?_
                  refine TL.skip rfl rfl (by decide) ?_
                  refine TL.pick rfl rfl (b := true) rfl (r := .bool true) rfl ?_
                  refine TL.done ?_
                  exact TC.nrm (true) () ⟨rfl, rfl, rfl, rfl, rfl, rfl, rfl, rfl, rfl, rfl, (by rw [c29]; rfl), trivial⟩ [0] rfl
                · refine TL.move rfl rfl (v := .int .i64 x5) rfl ?_
                  refine TL.fa Try.underlying37 rfl Try.sizeOf33 rfl 1 rfl rfl rfl rfl ?_
                  refine TL.chk fun h13 => ?_
                  refine TL.ixa x5 (1 + x5.toNat * 6) h13 Try.underlying33 Try.sizeOf32 rfl rfl rfl rfl (by omega) ?_
                  refine TL.ixa 0 (1 + x5.toNat * 6) (by decide) Try.underlying32 Try.sizeOf5 rfl rfl rfl rfl (by omega) ?_
                  refine TL.loadA (x5.toNat * 6) 1 (Src.box 0 rfl) Try.isAgg5 rfl (by omega) (v := u8v (x2 (x5.toNat * 6))) rfl (st := 1) rfl (by omega) rfl rfl rfl ?_
                  refine TL.conv .u8 .i64 ((x2 (x5.toNat * 6)).toNat : Int) _ rfl rfl rfl Try.underlying5 Try.underlying2 (v := .int .i64 ((x2 (x5.toNat * 6)).toNat : Int)) (conv_u8_i64 _) ?_
                  refine TL.move rfl rfl (v := .int .i64 x5) rfl ?_
                  refine TL.bin .i64 ((x2 (x5.toNat * 6)).toNat : Int) x5 rfl rfl rfl rfl (v := .bool (((x2 (x5.toNat * 6)).toNat : Int) != x5)) rfl ?_
                  refine TL.pick rfl rfl (b := false) rfl (r := .bool (((x2 (x5.toNat * 6)).toNat : Int) != x5)) rfl ?_
                  refine TL.done ?_
                  exact TC.nrm ((((x2 (x5.toNat * 6)).toNat : Int) != x5)) () ⟨rfl, rfl, rfl, rfl, rfl, rfl, rfl, rfl, rfl, rfl, (by rw [c30]; rfl), trivial⟩ [0] rfl
              · rintro b_4 _
                refine TL.done ?_
                refine TC.cond (b := b_4) rfl (fun c31 => ?_) (fun c32 => ?_)
                · refine TC.seq ?_
                  refine TC.region ?_
                  refine TL.assign rfl rfl (v := .bool false) rfl ?_
                  refine TL.done ?_
                  exact TC.retF (Fin.loop Far.ret (Fin.body (fin1 (.inr rfl) rfl (.tmp rfl) [] rfl ⟨rfl, rfl⟩)))
                · refine TC.skip ?_
                  refine TC.region ?_
                  refine TL.move rfl rfl (v := .int .i64 x5) rfl ?_
                  refine TL.bin .i64 x5 1 rfl rfl rfl rfl (v := .int .i64 (w64 (x5 + 1))) rfl ?_
                  refine TL.assign rfl rfl (v := .int .i64 (w64 (x5 + 1))) rfl ?_
                  refine TL.done ?_
                  exact TC.next ((w64 (x5 + 1))) (()) ⟨rfl, rfl, rfl, trivial⟩ [0] rfl
        · exact TC.brk (x5) (()) ⟨rfl, rfl, rfl, trivial⟩ [0] rfl
      · rintro x5 _
        refine TC.seq ?_
        refine TC.region ?_
        refine TL.assign rfl rfl (v := .bool true) rfl ?_
        refine TL.done ?_
        exact TC.retF (Fin.body (fin1 (.inr rfl) rfl (.tmp rfl) [] rfl ⟨rfl, rfl⟩))

end Go.Proofs.Ytcombgcjgdkbiaa.G

/- spec.l01Prime, as a pure function. -/
set_option linter.unusedVariables false
namespace Go.Proofs.Ytcombgcjgdkbiaa.G
open Go Go.Sx Go.Proofs

def spec_l01Prime.f (p1 : Int) : Option Bool := some ((((((p1 == 2) || (p1 == 3)) || (p1 == 5)) || (p1 == 7)) || (p1 == 11)) || (p1 == 13))

def spec_l01Prime.R (r : Bool) (v : Value) (L : List Asn) : Prop := v = .bool r ∧ L = []

set_option maxRecDepth 100000 in
set_option maxHeartbeats 4000000 in
theorem spec_l01Prime.calls (w : World) (p1 : Int) :
    ∀ r, spec_l01Prime.f p1 = some r → Calls Try.prog 73 #[.int .i64 p1] w (Ret w (spec_l01Prime.R r)) := by

  refine calls_T (n := 25) (Γ := [(0, .int .i64 p1)]) (R := spec_l01Prime.R) Try.func73 rfl rfl (Nat.le_of_ble_eq_true rfl) ⟨rfl, trivial⟩ ?_
  unfold spec_l01Prime.f
  refine TC.seq ?_
  refine TC.region ?_
  refine TL.assign rfl rfl (v := .bool false) rfl ?_
  refine TL.done ?_
  refine TC.seq ?_
  refine TC.region ?_
  refine TL.move rfl rfl (v := .int .i64 p1) rfl ?_
  refine TL.bin .i64 p1 2 rfl rfl rfl rfl (v := .bool (p1 == 2)) rfl ?_
  refine TL.move rfl rfl (v := .bool (p1 == 2)) rfl ?_
  refine TL.cutU 3 [(8, .bool ((p1 == 2) || (p1 == 3))), (0, .int .i64 p1), (2, .bool false), (3, .int .i64 p1), (4, .bool (p1 == 2)), (5, .bool (p1 == 2))] [] ?_ ?_
  · refine TL.cases (t := 5) (b := (p1 == 2)) rfl (fun c1 => ?_) (fun c2 => ?_)
    · refine TL.skip rfl rfl (by decide) ?_
      refine TL.skip rfl rfl (by decide) ?_
      refine TL.pick rfl rfl (b := true) rfl (r := .bool true) rfl ?_
      refine TL.done ?_
      exact TC.nrm () () ⟨(by rw [c1]; rfl), rfl, rfl, rfl, rfl, (by rw [c1]; rfl), trivial⟩ [] rfl
    · refine TL.move rfl rfl (v := .int .i64 p1) rfl ?_
      refine TL.bin .i64 p1 3 rfl rfl rfl rfl (v := .bool (p1 == 3)) rfl ?_
      refine TL.pick rfl rfl (b := false) rfl (r := .bool (p1 == 3)) rfl ?_
      refine TL.done ?_
      exact TC.nrm () () ⟨(by rw [c2]; rfl), rfl, rfl, rfl, rfl, (by rw [c2]; rfl), trivial⟩ [] rfl
  · refine TL.move rfl rfl (v := .bool ((p1 == 2) || (p1 == 3))) rfl ?_
    refine TL.cutU 3 [(12, .bool (((p1 == 2) || (p1 == 3)) || (p1 == 5))), (0, .int .i64 p1), (2, .bool false), (3, .int .i64 p1), (4, .bool (p1 == 2)), (5, .bool (p1 == 2)), (8, .bool ((p1 == 2) || (p1 == 3))), (9, .bool ((p1 == 2) || (p1 == 3)))] [] ?_ ?_
    · refine TL.cases (t := 9) (b := ((p1 == 2) || (p1 == 3))) rfl (fun c3 => ?_) (fun c4 => ?_)
      · refine TL.skip rfl rfl (by decide) ?_
        refine TL.skip rfl rfl (by decide) ?_
        refine TL.pick rfl rfl (b := true) rfl (r := .bool true) rfl ?_
        refine TL.done ?_
        exact TC.nrm () () ⟨(by rw [c3]; rfl), rfl, rfl, rfl, rfl, rfl, rfl, (by rw [c3]; rfl), trivial⟩ [] rfl
      · refine TL.move rfl rfl (v := .int .i64 p1) rfl ?_
        refine TL.bin .i64 p1 5 rfl rfl rfl rfl (v := .bool (p1 == 5)) rfl ?_
        refine TL.pick rfl rfl (b := false) rfl (r := .bool (p1 == 5)) rfl ?_
        refine TL.done ?_
        exact TC.nrm () () ⟨(by rw [c4]; rfl), rfl, rfl, rfl, rfl, rfl, rfl, (by rw [c4]; rfl), trivial⟩ [] rfl
    · refine TL.move rfl rfl (v := .bool (((p1 == 2) || (p1 == 3)) || (p1 == 5))) rfl ?_
      refine TL.cutU 3 [(16, .bool ((((p1 == 2) || (p1 == 3)) || (p1 == 5)) || (p1 == 7))), (0, .int .i64 p1), (2, .bool false), (3, .int .i64 p1), (4, .bool (p1 == 2)), (5, .bool (p1 == 2)), (8, .bool ((p1 == 2) || (p1 == 3))), (9, .bool ((p1 == 2) || (p1 == 3))), (12, .bool (((p1 == 2) || (p1 == 3)) || (p1 == 5))), (13, .bool (((p1 == 2) || (p1 == 3)) || (p1 == 5)))] [] ?_ ?_
      · refine TL.cases (t := 13) (b := (((p1 == 2) || (p1 == 3)) || (p1 == 5))) rfl (fun c5 => ?_) (fun c6 => ?_)
        · refine TL.skip rfl rfl (by decide) ?_
          refine TL.skip rfl rfl (by decide) ?_
          refine TL.pick rfl rfl (b := true) rfl (r := .bool true) rfl ?_
          refine TL.done ?_
          exact TC.nrm () () ⟨(by rw [c5]; rfl), rfl, rfl, rfl, rfl, rfl, rfl, rfl, rfl, (by rw [c5]; rfl), trivial⟩ [] rfl
        · refine TL.move rfl rfl (v := .int .i64 p1) rfl ?_
          refine TL.bin .i64 p1 7 rfl rfl rfl rfl (v := .bool (p1 == 7)) rfl ?_
          refine TL.pick rfl rfl (b := false) rfl (r := .bool (p1 == 7)) rfl ?_
          refine TL.done ?_
          exact TC.nrm () () ⟨(by rw [c6]; rfl), rfl, rfl, rfl, rfl, rfl, rfl, rfl, rfl, (by rw [c6]; rfl), trivial⟩ [] rfl
      · refine TL.move rfl rfl (v := .bool ((((p1 == 2) || (p1 == 3)) || (p1 == 5)) || (p1 == 7))) rfl ?_
        refine TL.cutU 3 [(20, .bool (((((p1 == 2) || (p1 == 3)) || (p1 == 5)) || (p1 == 7)) || (p1 == 11))), (0, .int .i64 p1), (2, .bool false), (3, .int .i64 p1), (4, .bool (p1 == 2)), (5, .bool (p1 == 2)), (8, .bool ((p1 == 2) || (p1 == 3))), (9, .bool ((p1 == 2) || (p1 == 3))), (12, .bool (((p1 == 2) || (p1 == 3)) || (p1 == 5))), (13, .bool (((p1 == 2) || (p1 == 3)) || (p1 == 5))), (16, .bool ((((p1 == 2) || (p1 == 3)) || (p1 == 5)) || (p1 == 7))), (17, .bool ((((p1 == 2) || (p1 == 3)) || (p1 == 5)) || (p1 == 7)))] [] ?_ ?_
        · refine TL.cases (t := 17) (b := ((((p1 == 2) || (p1 == 3)) || (p1 == 5)) || (p1 == 7))) rfl (fun c7 => ?_) (fun c8 => ?_)
          · refine TL.skip rfl rfl (by decide) ?_
            refine TL.skip rfl rfl (by decide) ?_
            refine TL.pick rfl rfl (b := true) rfl (r := .bool true) rfl ?_
            refine TL.done ?_
            exact TC.nrm () () ⟨(by rw [c7]; rfl), rfl, rfl, rfl, rfl, rfl, rfl, rfl, rfl, rfl, rfl, (by rw [c7]; rfl), trivial⟩ [] rfl
          · refine TL.move rfl rfl (v := .int .i64 p1) rfl ?_
            refine TL.bin .i64 p1 11 rfl rfl rfl rfl (v := .bool (p1 == 11)) rfl ?_
            refine TL.pick rfl rfl (b := false) rfl (r := .bool (p1 == 11)) rfl ?_
            refine TL.done ?_
            exact TC.nrm () () ⟨(by rw [c8]; rfl), rfl, rfl, rfl, rfl, rfl, rfl, rfl, rfl, rfl, rfl, (by rw [c8]; rfl), trivial⟩ [] rfl
        · refine TL.move rfl rfl (v := .bool (((((p1 == 2) || (p1 == 3)) || (p1 == 5)) || (p1 == 7)) || (p1 == 11))) rfl ?_
          refine TL.cutU 3 [(24, .bool ((((((p1 == 2) || (p1 == 3)) || (p1 == 5)) || (p1 == 7)) || (p1 == 11)) || (p1 == 13))), (0, .int .i64 p1), (2, .bool false), (3, .int .i64 p1), (4, .bool (p1 == 2)), (5, .bool (p1 == 2)), (8, .bool ((p1 == 2) || (p1 == 3))), (9, .bool ((p1 == 2) || (p1 == 3))), (12, .bool (((p1 == 2) || (p1 == 3)) || (p1 == 5))), (13, .bool (((p1 == 2) || (p1 == 3)) || (p1 == 5))), (16, .bool ((((p1 == 2) || (p1 == 3)) || (p1 == 5)) || (p1 == 7))), (17, .bool ((((p1 == 2) || (p1 == 3)) || (p1 == 5)) || (p1 == 7))), (20, .bool (((((p1 == 2) || (p1 == 3)) || (p1 == 5)) || (p1 == 7)) || (p1 == 11))), (21, .bool (((((p1 == 2) || (p1 == 3)) || (p1 == 5)) || (p1 == 7)) || (p1 == 11)))] [] ?_ ?_
          · refine TL.cases (t := 21) (b := (((((p1 == 2) || (p1 == 3)) || (p1 == 5)) || (p1 == 7)) || (p1 == 11))) rfl (fun c9 => ?_) (fun c10 => ?_)
            · refine TL.skip rfl rfl (by decide) ?_
              refine TL.skip rfl rfl (by decide) ?_
              refine TL.pick rfl rfl (b := true) rfl (r := .bool true) rfl ?_
              refine TL.done ?_
              exact TC.nrm () () ⟨(by rw [c9]; rfl), rfl, rfl, rfl, rfl, rfl, rfl, rfl, rfl, rfl, rfl, rfl, rfl, (by rw [c9]; rfl), trivial⟩ [] rfl
            · refine TL.move rfl rfl (v := .int .i64 p1) rfl ?_
              refine TL.bin .i64 p1 13 rfl rfl rfl rfl (v := .bool (p1 == 13)) rfl ?_
              refine TL.pick rfl rfl (b := false) rfl (r := .bool (p1 == 13)) rfl ?_
              refine TL.done ?_
              exact TC.nrm () () ⟨(by rw [c10]; rfl), rfl, rfl, rfl, rfl, rfl, rfl, rfl, rfl, rfl, rfl, rfl, rfl, (by rw [c10]; rfl), trivial⟩ [] rfl
          · refine TL.assign rfl rfl (v := .bool ((((((p1 == 2) || (p1 == 3)) || (p1 == 5)) || (p1 == 7)) || (p1 == 11)) || (p1 == 13))) rfl ?_
            refine TL.done ?_
            exact TC.retF (Fin.body (fin1 (.inr rfl) rfl (.tmp rfl) [] rfl ⟨rfl, rfl⟩))

end Go.Proofs.Ytcombgcjgdkbiaa.G

/- spec.l06Code, as a pure function. -/
set_option linter.unusedVariables false
namespace Go.Proofs.Ytcombgcjgdkbiaa.G
open Go Go.Sx Go.Proofs

def spec_l06Code.f (p1 : Int) (g1 : Int) (g2 : Nat → UInt8) : Option Int := (G.spec_l06Is.f g1 g2).bind (fun r_1 => (bif (!r_1) then some 1 else (G.spec_l01Prime.f p1).bind (fun r_2 => (bif (!r_2) then some 2 else some 0))))

def spec_l06Code.R (r : Int) (v : Value) (L : List Asn) : Prop := v = .int .i64 r ∧ L = []

set_option maxRecDepth 100000 in
set_option maxHeartbeats 4000000 in
theorem spec_l06Code.calls (w : World) (p1 : Int) (g1 : Int) (g2 : Nat → UInt8) :
    ∀ r, spec_l06Code.f p1 g1 g2 = some r → Calls Try.prog 95 #[.int .i64 p1, sval [.one (.int .i64 g1), .arr 36 (enf u8v g2)]] w (Ret w (spec_l06Code.R r)) := by

  refine calls_T (n := 13) (Γ := [(0, .int .i64 p1), (1, sval [.one (.int .i64 g1), .arr 36 (enf u8v g2)])]) (R := spec_l06Code.R) Try.func95 rfl rfl (Nat.le_of_ble_eq_true rfl) ⟨rfl, rfl, trivial⟩ ?_
  unfold spec_l06Code.f
  refine TC.seq ?_
  refine TC.region ?_
  refine TL.box [.one (.int .i64 g1), .arr 36 (enf u8v g2)] rfl rfl rfl rfl fun b_1 => ?_
  refine TL.assign rfl rfl (v := .int .i64 0) rfl ?_
  refine TL.done ?_
  refine TC.seq ?_
  refine TC.block NoEx.body ?_
  refine TC.seq ?_
  refine TC.region ?_
  refine TL.loadM 0 2 (Src.box 0 rfl) Try.isAgg37 Try.sizeOf37 (mid := [.one (.int .i64 g1), .arr 36 (enf u8v g2)]) rfl rfl rfl rfl rfl rfl ?_
  refine TL.call (R := G.spec_l06Is.R) Try.call61 rfl rfl rfl (fun w hS => G.spec_l06Is.calls w g1 g2) ?_
  rintro r_1 _ _ ⟨rfl, rfl⟩
  refine TL.not r_1 rfl rfl rfl ?_
  refine TL.assign rfl rfl (v := .bool (!r_1)) rfl ?_
  refine TL.done ?_
  refine TC.cond (b := (!r_1)) rfl (fun c1 => ?_) (fun c2 => ?_)
  · refine TC.seq ?_
    refine TC.region ?_
    refine TL.assign rfl rfl (v := .int .i64 1) rfl ?_
    refine TL.done ?_
    exact TC.retF (Fin.body (fin1 (.inr rfl) rfl (.tmp rfl) [] rfl ⟨rfl, rfl⟩))
  · refine TC.seq ?_
    refine TC.region ?_
    refine TL.move rfl rfl (v := .int .i64 p1) rfl ?_
    refine TL.call (R := G.spec_l01Prime.R) Try.call73 rfl rfl rfl (fun w hS => G.spec_l01Prime.calls w p1) ?_
    rintro r_2 _ _ ⟨rfl, rfl⟩
    refine TL.not r_2 rfl rfl rfl ?_
    refine TL.assign rfl rfl (v := .bool (!r_2)) rfl ?_
    refine TL.done ?_
    refine TC.cond (b := (!r_2)) rfl (fun c3 => ?_) (fun c4 => ?_)
    · refine TC.seq ?_
      refine TC.region ?_
      refine TL.assign rfl rfl (v := .int .i64 2) rfl ?_
      refine TL.done ?_
      exact TC.retF (Fin.body (fin1 (.inr rfl) rfl (.tmp rfl) [] rfl ⟨rfl, rfl⟩))
    · refine TC.skip ?_
      refine TC.seq ?_
      refine TC.region ?_
      refine TL.assign rfl rfl (v := .int .i64 0) rfl ?_
      refine TL.done ?_
      exact TC.retF (Fin.body (fin1 (.inr rfl) rfl (.tmp rfl) [] rfl ⟨rfl, rfl⟩))

end Go.Proofs.Ytcombgcjgdkbiaa.G

/- spec.l06Algebra, as a pure function. -/
set_option linter.unusedVariables false
namespace Go.Proofs.Ytcombgcjgdkbiaa.G
open Go Go.Sx Go.Proofs

def spec_l06Algebra.b0 (g1 : Int) (i1 : Int) (g2 : Nat → UInt8) : (Nat → UInt8) × Int → Option (LB ((Nat → UInt8) × Int)) := fun p => match p with | (out2, j1) => (bif (decide (j1 < g1)) then chk i1 6 (chk j1 6 (chk ((g2 (i1.toNat * 6 + j1.toNat)).toNat : Int) 6 (some (.next ((upd out2 (i1.toNat * 36 + j1.toNat * 6 + (g2 (i1.toNat * 6 + j1.toNat)).toNat) (1 : UInt8)), (w64 (j1 + 1))))))) else some (.brk (out2, j1)))

def spec_l06Algebra.b1 (g1 : Int) (g2 : Nat → UInt8) : (Nat → UInt8) × Int → Option (LB ((Nat → UInt8) × Int)) := fun p => match p with | (out1, i1) => (bif (decide (i1 < g1)) then (loop1 (spec_l06Algebra.b0 g1 i1 g2) (out1, 0)).bind (fun p => match p with | (out2, j1) => some (.next (out2, (w64 (i1 + 1))))) else some (.brk (out1, i1)))

def spec_l06Algebra.f (p1 : Int) (g1 : Int) (g2 : Nat → UInt8) : Option (Int × Int × (Nat → UInt8) × (Nat → UInt8)) := (loop1 (spec_l06Algebra.b1 g1 g2) ((fun _ => (0 : UInt8)), 0)).bind (fun p => match p with | (out1, i1) => some (p1, g1, out1, (upd (fun _ => (0 : UInt8)) 0 (1 : UInt8))))

def spec_l06Algebra.R (r : Int × Int × (Nat → UInt8) × (Nat → UInt8)) (v : Value) (L : List Asn) : Prop := v = sval [.one (.int .i64 r.1), .one (.int .i64 r.2.1), .arr 216 (enf u8v r.2.2.1), .arr 6 (enf u8v r.2.2.2)] ∧ L = []

set_option maxRecDepth 100000 in
set_option maxHeartbeats 4000000 in
theorem spec_l06Algebra.calls (w : World) (p1 : Int) (g1 : Int) (g2 : Nat → UInt8) :
    ∀ r, spec_l06Algebra.f p1 g1 g2 = some r → Calls Try.prog 96 #[.int .i64 p1, sval [.one (.int .i64 g1), .arr 36 (enf u8v g2)]] w (Ret w (spec_l06Algebra.R r)) := by

  refine calls_T (n := 39) (Γ := [(0, .int .i64 p1), (1, sval [.one (.int .i64 g1), .arr 36 (enf u8v g2)])]) (R := spec_l06Algebra.R) Try.func96 rfl rfl (Nat.le_of_ble_eq_true rfl) ⟨rfl, rfl, trivial⟩ ?_
  unfold spec_l06Algebra.f
  refine TC.seq ?_
  refine TC.region ?_
  refine TL.box [.one (.int .i64 g1), .arr 36 (enf u8v g2)] rfl rfl rfl rfl fun b_1 => ?_
  refine TL.alloc [.one (.int .i64 0), .one (.int .i64 0), .arr 216 (enf u8v (fun _ => (0 : UInt8))), .arr 6 (enf u8v (fun _ => (0 : UInt8)))] rfl rfl Try.zeroValue45 rfl fun b_2 => ?_
  refine TL.done ?_
  refine TC.seq ?_
  refine TC.region ?_
  refine TL.move rfl rfl (v := .int .i64 p1) rfl ?_
  refine TL.fa Try.underlying37 rfl Try.sizeOf2 rfl 0 rfl rfl rfl rfl ?_
  refine TL.load1 0 (Src.box 1 rfl) Try.isAgg2 rfl rfl rfl rfl rfl ?_
  refine TL.buildS (segs0 := [.one (.int .i64 0), .one (.int .i64 0), .arr 216 (enf u8v (fun _ => (0 : UInt8))), .arr 6 (enf u8v (fun _ => (0 : UInt8)))]) (segs := [.one (.int .i64 p1), .one (.int .i64 g1), .arr 216 (enf u8v (fun _ => (0 : UInt8))), .arr 6 (enf u8v (fun _ => (0 : UInt8)))]) [1, 1, 216, 6] Try.underlying45 ⟨Try.sizeOf2, Try.sizeOf2, Try.sizeOf42, Try.sizeOf43, trivial⟩ Try.zeroValue45 rfl [(0, .int .i64 p1), (1, .int .i64 g1)] rfl (fun pl hpl => by subst hpl; exact fill_one 0 rfl rfl rfl rfl (fill_one 1 rfl rfl rfl rfl (rfl))) rfl rfl ?_
  refine TL.alloc [.one (.int .i64 0), .one (.int .i64 0), .arr 216 (enf u8v (fun _ => (0 : UInt8))), .arr 6 (enf u8v (fun _ => (0 : UInt8)))] rfl rfl Try.zeroValue45 rfl fun b_3 => ?_
  refine TL.stM (news := [.one (.int .i64 p1), .one (.int .i64 g1), .arr 216 (enf u8v (fun _ => (0 : UInt8))), .arr 6 (enf u8v (fun _ => (0 : UInt8)))]) 0 0 4 rfl Try.sizeOf45 (ones_one rfl (ones_one rfl (ones_arr (fun _ => rfl) (ones_arr (fun _ => rfl) ones_nil)))) rfl rfl rfl rfl rfl rfl ?_
  refine TL.done ?_
  refine TC.seq ?_
  refine TC.seq ?_
  refine TC.region ?_
  refine TL.assign rfl rfl (v := .int .i64 0) rfl ?_
  refine TL.done ?_
  refine TC.loop1 (σ := (Nat → UInt8) × Int) (γ := Unit) (Γ' := (fun p q => match p, q with | (out1, i1), _ => [(3, bp b_1 0), (4, bp b_2 0), (5, bp b_3 0), (6, .int .i64 i1)])) (L' := (fun p q => match p, q with | (out1, i1), _ => [box b_1 37 [.one (.int .i64 g1), .arr 36 (enf u8v g2)], box b_2 45 [.one (.int .i64 0), .one (.int .i64 0), .arr 216 (enf u8v (fun _ => (0 : UInt8))), .arr 6 (enf u8v (fun _ => (0 : UInt8)))], box b_3 45 [.one (.int .i64 p1), .one (.int .i64 g1), .arr 216 (enf u8v out1), .arr 6 (enf u8v (fun _ => (0 : UInt8)))]])) (Γb := (fun p q => match p, q with | (out1, i1), _ => [(3, bp b_1 0), (4, bp b_2 0), (5, bp b_3 0), (6, .int .i64 i1)])) (Lb := (fun p q => match p, q with | (out1, i1), _ => [box b_1 37 [.one (.int .i64 g1), .arr 36 (enf u8v g2)], box b_2 45 [.one (.int .i64 0), .one (.int .i64 0), .arr 216 (enf u8v (fun _ => (0 : UInt8))), .arr 6 (enf u8v (fun _ => (0 : UInt8)))], box b_3 45 [.one (.int .i64 p1), .one (.int .i64 g1), .arr 216 (enf u8v out1), .arr 6 (enf u8v (fun _ => (0 : UInt8)))]])) (((fun _ => (0 : UInt8)), 0)) (()) ⟨rfl, rfl, rfl, rfl, trivial⟩ [2, 1, 0] rfl ?_ ?_
  · rintro ⟨out1, i1⟩ _
    refine TC.seq ?_
    refine TC.seq ?_
    refine TC.region ?_
    refine TL.move rfl rfl (v := .int .i64 i1) rfl ?_
    refine TL.fa Try.underlying37 rfl Try.sizeOf2 rfl 0 rfl rfl rfl rfl ?_
    refine TL.load1 0 (Src.box 0 rfl) Try.isAgg2 rfl rfl rfl rfl rfl ?_
    refine TL.bin .i64 i1 g1 rfl rfl rfl rfl (v := .bool (decide (i1 < g1))) rfl ?_
    refine TL.done ?_
    refine TC.cond (b := (decide (i1 < g1))) rfl (fun c1 => ?_) (fun c2 => ?_)
    · refine TC.skip ?_
      refine TC.seq ?_
      refine TC.block (NoEx.loop1 rfl) ?_
      refine TC.seq ?_
      refine TC.region ?_
      refine TL.assign rfl rfl (v := .int .i64 0) rfl ?_
      refine TL.done ?_
      refine TC.loop1 (σ := (Nat → UInt8) × Int) (γ := Unit) (Γ' := (fun p q => match p, q with | (out2, j1), _ => [(3, bp b_1 0), (4, bp b_2 0), (5, bp b_3 0), (6, .int .i64 i1), (7, .int .i64 j1)])) (L' := (fun p q => match p, q with | (out2, j1), _ => [box b_1 37 [.one (.int .i64 g1), .arr 36 (enf u8v g2)], box b_2 45 [.one (.int .i64 0), .one (.int .i64 0), .arr 216 (enf u8v (fun _ => (0 : UInt8))), .arr 6 (enf u8v (fun _ => (0 : UInt8)))], box b_3 45 [.one (.int .i64 p1), .one (.int .i64 g1), .arr 216 (enf u8v out2), .arr 6 (enf u8v (fun _ => (0 : UInt8)))]])) (Γb := (fun p q => match p, q with | (out2, j1), _ => [(3, bp b_1 0), (4, bp b_2 0), (5, bp b_3 0), (6, .int .i64 i1), (7, .int .i64 j1)])) (Lb := (fun p q => match p, q with | (out2, j1), _ => [box b_1 37 [.one (.int .i64 g1), .arr 36 (enf u8v g2)], box b_2 45 [.one (.int .i64 0), .one (.int .i64 0), .arr 216 (enf u8v (fun _ => (0 : UInt8))), .arr 6 (enf u8v (fun _ => (0 : UInt8)))], box b_3 45 [.one (.int .i64 p1), .one (.int .i64 g1), .arr 216 (enf u8v out2), .arr 6 (enf u8v (fun _ => (0 : UInt8)))]])) ((out1, 0)) (()) ⟨rfl, rfl, rfl, rfl, rfl, trivial⟩ [0, 0, 0] rfl ?_ ?_
      · rintro ⟨out2, j1⟩ _
        refine TC.seq ?_
        refine TC.seq ?_
        refine TC.region ?_
        refine TL.move rfl rfl (v := .int .i64 j1) rfl ?_
        refine TL.fa Try.underlying37 rfl Try.sizeOf2 rfl 0 rfl rfl rfl rfl ?_
        refine TL.load1 0 (Src.box 0 rfl) Try.isAgg2 rfl rfl rfl rfl rfl ?_
        refine TL.bin .i64 j1 g1 rfl rfl rfl rfl (v := .bool (decide (j1 < g1))) rfl ?_
        refine TL.done ?_
        refine TC.cond (b := (decide (j1 < g1))) rfl (fun c3 => ?_) (fun c4 => ?_)
        · refine TC.skip ?_
          refine TC.seq ?_
          refine TC.block (NoEx.loop1 rfl) ?_
          refine TC.wk (Γ' := [(3, bp b_1 0), (4, bp b_2 0), (5, bp b_3 0), (6, .int .i64 i1), (7, .int .i64 j1), (18, .int .i64 j1), (19, bp b_1 0), (20, .int .i64 g1), (21, .bool (decide (j1 < g1)))]) ⟨rfl, rfl, rfl, rfl, rfl, rfl, rfl, rfl, rfl, trivial⟩ ?_
          refine TC.chk fun h1 => ?_
          refine TC.chk fun h2 => ?_
          refine TC.chk fun h3 => ?_
          refine TC.drawG [(3, bp b_1 0), (4, bp b_2 0), (5, bp b_3 0), (6, .int .i64 i1), (7, .int .i64 j1), (18, .int .i64 j1), (19, bp b_1 0), (20, .int .i64 g1), (21, .bool (decide (j1 < g1)))] [] ⟨rfl, rfl, rfl, rfl, rfl, rfl, rfl, rfl, rfl, trivial⟩ trivial (fun l_ g3 => [box b_1 37 [.one (.int .i64 g1), .arr 36 (enf u8v g2)], box b_2 45 [.one (.int .i64 0), .one (.int .i64 0), .arr 216 (enf u8v (fun _ => (0 : UInt8))), .arr 6 (enf u8v (fun _ => (0 : UInt8)))], (bif nb l_ 12 then box b_3 45 [.one (.int .i64 p1), .one (.int .i64 g1), .arr 216 (enf u8v (upd out2 (i1.toNat * 36 + j1.toNat * 6 + (g2 (i1.toNat * 6 + j1.toNat)).toNat) (1 : UInt8))), .arr 6 (enf u8v (fun _ => (0 : UInt8)))] else box b_3 45 [.one (.int .i64 p1), .one (.int .i64 g1), .arr 216 (enf u8v out2), .arr 6 (enf u8v (fun _ => (0 : UInt8)))])]) (fun g3 => [.int .i64 i1, .int .i64 j1, .int .i64 i1, .int .i64 j1, bp b_1 1, bp b_1 (1 + i1.toNat * 6), bp b_1 (1 + (i1.toNat * 6 + j1.toNat)), u8v (g2 (i1.toNat * 6 + j1.toNat)), bp b_3 2, bp b_3 (2 + i1.toNat * 36), bp b_3 (2 + (i1.toNat * 36 + j1.toNat * 6)), bp b_3 (2 + (i1.toNat * 36 + j1.toNat * 6 + (g2 (i1.toNat * 6 + j1.toNat)).toNat)), undef]) [[], [], [], [], [], [2, 4], [2, 3, 4, 5], [2, 3, 4, 5, 6], [], [0, 8], [0, 1, 8, 9], [0, 1, 2, 3, 4, 5, 6, 7, 8, 9, 10], [0, 1, 2, 3, 4, 5, 6, 7, 8, 9, 10, 11]] [[some false, none, none, none, none, none, none, none, none, some false, some false, some false, some false], [none, some false, none, none, none, none, none, none, none, none, some false, some false, some false], [none, none, some false, none, none, some false, some false, some false, none, none, none, some false, some false], [none, none, none, some false, none, none, some false, some false, none, none, none, some false, some false], [none, none, none, none, some false, some false, some false, some false, none, none, none, some false, some false], [none, none, some true, none, some true, some false, some false, some false, none, none, none, some false, some false], [none, none, some true, some true, some true, some true, some false, some false, none, none, none, some false, some false], [none, none, some true, some true, some true, some true, some true, some false, none, none, none, some false, some false], [none, none, none, none, none, none, none, none, some false, some false, some false, some false, some false], [some true, none, none, none, none, none, none, none, some true, some false, some false, some false, some false], [some true, some true, none, none, none, none, none, none, some true, some true, some false, some false, some false], [some true, some true, some true, some true, some true, some true, some true, some true, some true, some true, some true, some false, some false], [some true, some true, some true, some true, some true, some true, some true, some true, some true, some true, some true, some true, some false]] (by kernel_rfl) (fun _ => rfl) rfl rfl rfl rfl rfl (fun _ _ => ⟨⟨⟨⟨⟨⟨⟨⟨⟨⟨⟨⟨⟨trivial, rfl⟩, rfl⟩, rfl⟩, rfl⟩, rfl⟩, rfl⟩, rfl⟩, rfl⟩, rfl⟩, rfl⟩, rfl⟩, rfl⟩, rfl⟩) 0 [0, 0, 0] (fun _ => rfl) ?_ ?_
          · refine ⟨rfl, ?_, rfl, ?_, rfl, ?_, rfl, ?_, rfl, ?_, rfl, ?_, rfl, ?_, rfl, ?_, rfl, ?_, rfl, ?_, rfl, ?_, rfl, ?_, rfl, ?_, trivial⟩
            · intro b1_ b2_ b3_ b4_ b5_ b6_ b7_ b8_ g3
              refine TL.move rfl rfl (v := .int .i64 i1) rfl ?_
              refine TL.done ?_
              exact TC.nrm () [] ⟨rfl, trivial⟩ [0, 0, 0] rfl
            · intro b0_ b2_ b3_ b4_ b5_ b6_ b7_ b8_ b9_ g3
              refine TL.move rfl rfl (v := .int .i64 j1) rfl ?_
              refine TL.done ?_
              exact TC.nrm () [] ⟨rfl, trivial⟩ [0, 0, 0] rfl
            · intro b0_ b1_ b3_ b4_ b8_ b9_ b10_ g3
              refine TL.move rfl rfl (v := .int .i64 i1) rfl ?_
              refine TL.done ?_
              exact TC.nrm () [] ⟨rfl, trivial⟩ [0, 0, 0] rfl
            · intro b0_ b1_ b2_ b4_ b5_ b8_ b9_ b10_ g3
              refine TL.move rfl rfl (v := .int .i64 j1) rfl ?_
              refine TL.done ?_
              exact TC.nrm () [] ⟨rfl, trivial⟩ [0, 0, 0] rfl
            · intro b0_ b1_ b2_ b3_ b8_ b9_ b10_ g3
              refine TL.asL [box b_1 37 [.one (.int .i64 g1), .arr 36 (enf u8v g2)], box b_2 45 [.one (.int .i64 0), .one (.int .i64 0), .arr 216 (enf u8v (fun _ => (0 : UInt8))), .arr 6 (enf u8v (fun _ => (0 : UInt8)))], box b_3 45 [.one (.int .i64 p1), .one (.int .i64 g1), .arr 216 (enf u8v out2), .arr 6 (enf u8v (fun _ => (0 : UInt8)))]] rfl ?_
              refine TL.fa Try.underlying37 rfl Try.sizeOf33 rfl 1 rfl rfl rfl rfl ?_
              refine TL.done ?_
              exact TC.nrm () [] ⟨rfl, trivial⟩ [0, 0, 0] rfl
            · intro b0_ b1_ b3_ b8_ b9_ b10_ g3
              refine TL.asL [box b_1 37 [.one (.int .i64 g1), .arr 36 (enf u8v g2)], box b_2 45 [.one (.int .i64 0), .one (.int .i64 0), .arr 216 (enf u8v (fun _ => (0 : UInt8))), .arr 6 (enf u8v (fun _ => (0 : UInt8)))], box b_3 45 [.one (.int .i64 p1), .one (.int .i64 g1), .arr 216 (enf u8v out2), .arr 6 (enf u8v (fun _ => (0 : UInt8)))]] rfl ?_
              refine TL.ixa i1 (1 + i1.toNat * 6) h1 Try.underlying33 Try.sizeOf32 rfl rfl rfl rfl (by omega) ?_
              refine TL.done ?_
              exact TC.nrm () [] ⟨rfl, trivial⟩ [0, 0, 0] rfl
            · intro b0_ b1_ b8_ b9_ b10_ g3
              refine TL.asL [box b_1 37 [.one (.int .i64 g1), .arr 36 (enf u8v g2)], box b_2 45 [.one (.int .i64 0), .one (.int .i64 0), .arr 216 (enf u8v (fun _ => (0 : UInt8))), .arr 6 (enf u8v (fun _ => (0 : UInt8)))], box b_3 45 [.one (.int .i64 p1), .one (.int .i64 g1), .arr 216 (enf u8v out2), .arr 6 (enf u8v (fun _ => (0 : UInt8)))]] rfl ?_
              refine TL.ixa j1 (1 + (i1.toNat * 6 + j1.toNat)) h2 Try.underlying32 Try.sizeOf5 rfl rfl rfl rfl (by omega) ?_
              refine TL.done ?_
              exact TC.nrm () [] ⟨rfl, trivial⟩ [0, 0, 0] rfl
            · intro b0_ b1_ b8_ b9_ b10_ g3
              refine TL.asL [box b_1 37 [.one (.int .i64 g1), .arr 36 (enf u8v g2)], box b_2 45 [.one (.int .i64 0), .one (.int .i64 0), .arr 216 (enf u8v (fun _ => (0 : UInt8))), .arr 6 (enf u8v (fun _ => (0 : UInt8)))], box b_3 45 [.one (.int .i64 p1), .one (.int .i64 g1), .arr 216 (enf u8v out2), .arr 6 (enf u8v (fun _ => (0 : UInt8)))]] rfl ?_
              refine TL.loadA (i1.toNat * 6 + j1.toNat) 1 (Src.box 0 rfl) Try.isAgg5 rfl (by omega) (v := u8v (g2 (i1.toNat * 6 + j1.toNat))) rfl (st := 1) rfl (by omega) rfl rfl rfl ?_
              refine TL.done ?_
              exact TC.nrm () [] ⟨rfl, trivial⟩ [0, 0, 0] rfl
            · intro b0_ b1_ b2_ b3_ b4_ b5_ b6_ b7_ g3
              refine TL.asL [box b_1 37 [.one (.int .i64 g1), .arr 36 (enf u8v g2)], box b_2 45 [.one (.int .i64 0), .one (.int .i64 0), .arr 216 (enf u8v (fun _ => (0 : UInt8))), .arr 6 (enf u8v (fun _ => (0 : UInt8)))], box b_3 45 [.one (.int .i64 p1), .one (.int .i64 g1), .arr 216 (enf u8v out2), .arr 6 (enf u8v (fun _ => (0 : UInt8)))]] rfl ?_
              refine TL.fa Try.underlying45 rfl Try.sizeOf42 rfl 2 rfl rfl rfl rfl ?_
              refine TL.done ?_
              exact TC.nrm () [] ⟨rfl, trivial⟩ [0, 0, 0] rfl
            · intro b1_ b2_ b3_ b4_ b5_ b6_ b7_ g3
              refine TL.asL [box b_1 37 [.one (.int .i64 g1), .arr 36 (enf u8v g2)], box b_2 45 [.one (.int .i64 0), .one (.int .i64 0), .arr 216 (enf u8v (fun _ => (0 : UInt8))), .arr 6 (enf u8v (fun _ => (0 : UInt8)))], box b_3 45 [.one (.int .i64 p1), .one (.int .i64 g1), .arr 216 (enf u8v out2), .arr 6 (enf u8v (fun _ => (0 : UInt8)))]] rfl ?_
              refine TL.ixa i1 (2 + i1.toNat * 36) h1 Try.underlying42 Try.sizeOf33 rfl rfl rfl rfl (by omega) ?_
              refine TL.done ?_
              exact TC.nrm () [] ⟨rfl, trivial⟩ [0, 0, 0] rfl
            · intro b2_ b3_ b4_ b5_ b6_ b7_ g3
              refine TL.asL [box b_1 37 [.one (.int .i64 g1), .arr 36 (enf u8v g2)], box b_2 45 [.one (.int .i64 0), .one (.int .i64 0), .arr 216 (enf u8v (fun _ => (0 : UInt8))), .arr 6 (enf u8v (fun _ => (0 : UInt8)))], box b_3 45 [.one (.int .i64 p1), .one (.int .i64 g1), .arr 216 (enf u8v out2), .arr 6 (enf u8v (fun _ => (0 : UInt8)))]] rfl ?_
              refine TL.ixa j1 (2 + (i1.toNat * 36 + j1.toNat * 6)) h2 Try.underlying33 Try.sizeOf32 rfl rfl rfl rfl (by omega) ?_
              refine TL.done ?_
              exact TC.nrm () [] ⟨rfl, trivial⟩ [0, 0, 0] rfl
            · intro g3
              refine TL.asL [box b_1 37 [.one (.int .i64 g1), .arr 36 (enf u8v g2)], box b_2 45 [.one (.int .i64 0), .one (.int .i64 0), .arr 216 (enf u8v (fun _ => (0 : UInt8))), .arr 6 (enf u8v (fun _ => (0 : UInt8)))], box b_3 45 [.one (.int .i64 p1), .one (.int .i64 g1), .arr 216 (enf u8v out2), .arr 6 (enf u8v (fun _ => (0 : UInt8)))]] rfl ?_
              refine TL.ixa ((g2 (i1.toNat * 6 + j1.toNat)).toNat : Int) (2 + (i1.toNat * 36 + j1.toNat * 6 + (g2 (i1.toNat * 6 + j1.toNat)).toNat)) h3 Try.underlying32 Try.sizeOf5 rfl rfl rfl rfl (by omega) ?_
              refine TL.done ?_
              exact TC.nrm () [] ⟨rfl, trivial⟩ [0, 0, 0] rfl
            · intro g3
              refine TL.asL [box b_1 37 [.one (.int .i64 g1), .arr 36 (enf u8v g2)], box b_2 45 [.one (.int .i64 0), .one (.int .i64 0), .arr 216 (enf u8v (fun _ => (0 : UInt8))), .arr 6 (enf u8v (fun _ => (0 : UInt8)))], box b_3 45 [.one (.int .i64 p1), .one (.int .i64 g1), .arr 216 (enf u8v out2), .arr 6 (enf u8v (fun _ => (0 : UInt8)))]] rfl ?_
              refine TL.stA (e := u8v) (z := (1 : UInt8)) 2 2 (i1.toNat * 36 + j1.toNat * 6 + (g2 (i1.toNat * 6 + j1.toNat)).toNat) rfl Try.sizeOf5 rfl (by omega) (s := 2) rfl (by omega) rfl rfl rfl rfl rfl ?_
              refine TL.done ?_
              exact TC.nrm () [] trivial [0, 0, 0] rfl
          · intro g3
            refine TC.asL [box b_1 37 [.one (.int .i64 g1), .arr 36 (enf u8v g2)], box b_2 45 [.one (.int .i64 0), .one (.int .i64 0), .arr 216 (enf u8v (fun _ => (0 : UInt8))), .arr 6 (enf u8v (fun _ => (0 : UInt8)))], box b_3 45 [.one (.int .i64 p1), .one (.int .i64 g1), .arr 216 (enf u8v (upd out2 (i1.toNat * 36 + j1.toNat * 6 + (g2 (i1.toNat * 6 + j1.toNat)).toNat) (1 : UInt8))), .arr 6 (enf u8v (fun _ => (0 : UInt8)))]] rfl ?_
            refine TC.region ?_
            refine TL.move rfl rfl (v := .int .i64 j1) rfl ?_
            refine TL.bin .i64 j1 1 rfl rfl rfl rfl (v := .int .i64 (w64 (j1 + 1))) rfl ?_
            refine TL.assign rfl rfl (v := .int .i64 (w64 (j1 + 1))) rfl ?_
            refine TL.done ?_
            exact TC.next1 (((upd out2 (i1.toNat * 36 + j1.toNat * 6 + (g2 (i1.toNat * 6 + j1.toNat)).toNat) (1 : UInt8)), (w64 (j1 + 1)))) (()) ⟨rfl, rfl, rfl, rfl, rfl, trivial⟩ [0, 0, 0] rfl
        · exact TC.brk1 ((out2, j1)) (()) ⟨rfl, rfl, rfl, rfl, rfl, trivial⟩ [0, 0, 0] rfl
      · rintro ⟨out2, j1⟩ _
        refine TC.region ?_
        refine TL.move rfl rfl (v := .int .i64 i1) rfl ?_
        refine TL.bin .i64 i1 1 rfl rfl rfl rfl (v := .int .i64 (w64 (i1 + 1))) rfl ?_
        refine TL.assign rfl rfl (v := .int .i64 (w64 (i1 + 1))) rfl ?_
        refine TL.done ?_
        exact TC.next1 ((out2, (w64 (i1 + 1)))) (()) ⟨rfl, rfl, rfl, rfl, trivial⟩ [0, 0, 0] rfl
    · exact TC.brk1 ((out1, i1)) (()) ⟨rfl, rfl, rfl, rfl, trivial⟩ [0, 0, 0] rfl
  · rintro ⟨out1, i1⟩ _
    refine TC.seq ?_
    refine TC.region ?_
    refine TL.fa Try.underlying45 rfl Try.sizeOf43 rfl 218 rfl rfl rfl rfl ?_
    refine TL.ixa 0 218 (by decide) Try.underlying43 Try.sizeOf5 rfl rfl rfl rfl rfl ?_
    refine TL.stA (e := u8v) (z := (1 : UInt8)) 2 3 0 rfl Try.sizeOf5 rfl (by omega) (s := 218) rfl rfl rfl rfl rfl rfl rfl ?_
    refine TL.done ?_
    refine TC.seq ?_
    refine TC.region ?_
    refine TL.loadM 0 4 (Src.box 2 rfl) Try.isAgg45 Try.sizeOf45 (mid := [.one (.int .i64 p1), .one (.int .i64 g1), .arr 216 (enf u8v out1), .arr 6 (enf u8v (upd (fun _ => (0 : UInt8)) 0 (1 : UInt8)))]) rfl rfl rfl rfl rfl rfl ?_
    refine TL.stM (news := [.one (.int .i64 p1), .one (.int .i64 g1), .arr 216 (enf u8v out1), .arr 6 (enf u8v (upd (fun _ => (0 : UInt8)) 0 (1 : UInt8)))]) 1 0 4 rfl Try.sizeOf45 (ones_one rfl (ones_one rfl (ones_arr (fun _ => rfl) (ones_arr (fun _ => rfl) ones_nil)))) rfl rfl rfl rfl rfl rfl ?_
    refine TL.done ?_
    exact TC.retF (Fin.body (fin1 (.inr rfl) rfl (.cellN rfl (Src.box 1 rfl) Try.isAgg45 Try.sizeOf45 rfl) [] rfl ⟨rfl, rfl⟩))

end Go.Proofs.Ytcombgcjgdkbiaa.G

/- spec.GroupAlgebra, as a pure function. -/
set_option linter.unusedVariables false
namespace Go.Proofs.Ytcombgcjgdkbiaa.G
open Go Go.Sx Go.Proofs

def spec_GroupAlgebra.f (p1 : Int) (g1 : Int) (g2 : Nat → UInt8) : Option (Int × Int × (Nat → UInt8) × (Nat → UInt8) × Int) := (G.spec_l06Code.f p1 g1 g2).bind (fun r_1 => (bif (r_1 != 0) then some (0, 0, (fun _ => (0 : UInt8)), (fun _ => (0 : UInt8)), r_1) else (G.spec_l06Algebra.f p1 g1 g2).bind (fun p => match p with | (r_2, r_3, r_4, r_5) => some (r_2, r_3, r_4, r_5, 0))))

def spec_GroupAlgebra.R (r : Int × Int × (Nat → UInt8) × (Nat → UInt8) × Int) (v : Value) (L : List Asn) : Prop := v = .tuple #[sval [.one (.int .i64 r.1), .one (.int .i64 r.2.1), .arr 216 (enf u8v r.2.2.1), .arr 6 (enf u8v r.2.2.2.1)], .int .i64 r.2.2.2.2] ∧ L = []

set_option maxRecDepth 100000 in
set_option maxHeartbeats 4000000 in
theorem spec_GroupAlgebra.calls (w : World) (p1 : Int) (g1 : Int) (g2 : Nat → UInt8) :
    ∀ r, spec_GroupAlgebra.f p1 g1 g2 = some r → Calls Try.prog 37 #[.int .i64 p1, sval [.one (.int .i64 g1), .arr 36 (enf u8v g2)]] w (Ret w (spec_GroupAlgebra.R r)) := by

  refine calls_T (n := 17) (Γ := [(0, .int .i64 p1), (1, sval [.one (.int .i64 g1), .arr 36 (enf u8v g2)])]) (R := spec_GroupAlgebra.R) Try.func37 rfl rfl (Nat.le_of_ble_eq_true rfl) ⟨rfl, rfl, trivial⟩ ?_
  unfold spec_GroupAlgebra.f
  refine TC.seq ?_
  refine TC.region ?_
  refine TL.box [.one (.int .i64 g1), .arr 36 (enf u8v g2)] rfl rfl rfl rfl fun b_1 => ?_
  refine TL.alloc [.one (.int .i64 0), .one (.int .i64 0), .arr 216 (enf u8v (fun _ => (0 : UInt8))), .arr 6 (enf u8v (fun _ => (0 : UInt8)))] rfl rfl Try.zeroValue45 rfl fun b_2 => ?_
  refine TL.assign rfl rfl (v := .int .i64 0) rfl ?_
  refine TL.done ?_
  refine TC.seq ?_
  refine TC.seq ?_
  refine TC.region ?_
  refine TL.move rfl rfl (v := .int .i64 p1) rfl ?_
  refine TL.loadM 0 2 (Src.box 1 rfl) Try.isAgg37 Try.sizeOf37 (mid := [.one (.int .i64 g1), .arr 36 (enf u8v g2)]) rfl rfl rfl rfl rfl rfl ?_
  refine TL.call (R := G.spec_l06Code.R) Try.call95 rfl rfl rfl (fun w hS => G.spec_l06Code.calls w p1 g1 g2) ?_
  rintro r_1 _ _ ⟨rfl, rfl⟩
  refine TL.assign rfl rfl (v := .int .i64 r_1) rfl ?_
  refine TL.done ?_
  refine TC.seq ?_
  refine TC.region ?_
  refine TL.move rfl rfl (v := .int .i64 r_1) rfl ?_
  refine TL.bin .i64 r_1 0 rfl rfl rfl rfl (v := .bool (r_1 != 0)) rfl ?_
  refine TL.done ?_
  refine TC.cond (b := (r_1 != 0)) rfl (fun c1 => ?_) (fun c2 => ?_)
  · refine TC.seq ?_
    refine TC.region ?_
    refine TL.buildS (segs0 := [.one (.int .i64 0), .one (.int .i64 0), .arr 216 (enf u8v (fun _ => (0 : UInt8))), .arr 6 (enf u8v (fun _ => (0 : UInt8)))]) (segs := [.one (.int .i64 0), .one (.int .i64 0), .arr 216 (enf u8v (fun _ => (0 : UInt8))), .arr 6 (enf u8v (fun _ => (0 : UInt8)))]) [1, 1, 216, 6] Try.underlying45 ⟨Try.sizeOf2, Try.sizeOf2, Try.sizeOf42, Try.sizeOf43, trivial⟩ Try.zeroValue45 rfl [] rfl (fun pl hpl => by subst hpl; exact rfl) rfl rfl ?_
    refine TL.move rfl rfl (v := .int .i64 r_1) rfl ?_
    refine TL.stM (news := [.one (.int .i64 0), .one (.int .i64 0), .arr 216 (enf u8v (fun _ => (0 : UInt8))), .arr 6 (enf u8v (fun _ => (0 : UInt8)))]) 0 0 4 rfl Try.sizeOf45 (ones_one rfl (ones_one rfl (ones_arr (fun _ => rfl) (ones_arr (fun _ => rfl) ones_nil)))) rfl rfl rfl rfl rfl rfl ?_
    refine TL.assign rfl rfl (v := .int .i64 r_1) rfl ?_
    refine TL.done ?_
    exact TC.retF (Fin.body (fin2 (.inr rfl) rfl (.cellN rfl (Src.box 0 rfl) Try.isAgg45 Try.sizeOf45 rfl) (.tmp rfl) [] rfl ⟨rfl, rfl⟩))
  · refine TC.skip ?_
    refine TC.seq ?_
    refine TC.region ?_
    refine TL.move rfl rfl (v := .int .i64 p1) rfl ?_
    refine TL.loadM 0 2 (Src.box 1 rfl) Try.isAgg37 Try.sizeOf37 (mid := [.one (.int .i64 g1), .arr 36 (enf u8v g2)]) rfl rfl rfl rfl rfl rfl ?_
    refine TL.call (R := G.spec_l06Algebra.R) Try.call96 rfl rfl rfl (fun w hS => G.spec_l06Algebra.calls w p1 g1 g2) ?_
    rintro ⟨r_2, r_3, r_4, r_5⟩ _ _ ⟨rfl, rfl⟩
    refine TL.stM (news := [.one (.int .i64 r_2), .one (.int .i64 r_3), .arr 216 (enf u8v r_4), .arr 6 (enf u8v r_5)]) 0 0 4 rfl Try.sizeOf45 (ones_one rfl (ones_one rfl (ones_arr (fun _ => rfl) (ones_arr (fun _ => rfl) ones_nil)))) rfl rfl rfl rfl rfl rfl ?_
    refine TL.assign rfl rfl (v := .int .i64 0) rfl ?_
    refine TL.done ?_
    exact TC.retF (Fin.body (fin2 (.inr rfl) rfl (.cellN rfl (Src.box 0 rfl) Try.isAgg45 Try.sizeOf45 rfl) (.tmp rfl) [] rfl ⟨rfl, rfl⟩))

end Go.Proofs.Ytcombgcjgdkbiaa.G
