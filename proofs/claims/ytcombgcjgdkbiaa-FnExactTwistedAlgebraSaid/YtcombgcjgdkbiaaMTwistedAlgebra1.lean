/- Functions of the program, as pure functions. -/
import Derived.Test.YtcombgcjgdkbiaaSy2
import Derived.Test.YtcombgcjgdkbiaaProg
/- laws.toByteA6, as a pure function. -/
set_option linter.unusedVariables false
namespace Go.Proofs.Ytcombgcjgdkbiaa.G
open Go Go.Sx Go.Proofs

def laws_toByteA6.b0 (a_1 : Nat → UInt8) : (Nat → UInt8) × Int → Option (LB ((Nat → UInt8) × Int)) := fun p => match p with | (out1, i1) => (bif (decide (i1 < 6)) then chk i1 6 (some (.next ((upd out1 i1.toNat (a_1 i1.toNat)), (w64 (i1 + 1))))) else some (.brk (out1, i1)))

def laws_toByteA6.f (a_1 : Nat → UInt8) : Option (Nat → UInt8) := (loop1 (laws_toByteA6.b0 a_1) ((fun _ => (0 : UInt8)), 0)).bind (fun p => match p with | (out1, i1) => some out1)

def laws_toByteA6.R (r : Nat → UInt8) (v : Value) (L : List Asn) : Prop := v = sval [.arr 6 (enf u8v r)] ∧ L = []

set_option maxRecDepth 100000 in
set_option maxHeartbeats 4000000 in
theorem laws_toByteA6.calls (w : World) (a_1 : Nat → UInt8) :
    ∀ r, laws_toByteA6.f a_1 = some r → Calls Try.prog 113 #[sval [.arr 6 (enf u8v a_1)]] w (Ret w (laws_toByteA6.R r)) := by

  refine calls_T (n := 15) (Γ := [(0, sval [.arr 6 (enf u8v a_1)])]) (R := laws_toByteA6.R) Try.func113 rfl rfl (Nat.le_of_ble_eq_true rfl) ⟨rfl, trivial⟩ ?_
  unfold laws_toByteA6.f
  refine TC.seq ?_
  refine TC.region ?_
  refine TL.box [.arr 6 (enf u8v a_1)] rfl rfl rfl rfl fun b_1 => ?_
  refine TL.alloc [.arr 6 (enf u8v (fun _ => (0 : UInt8)))] rfl rfl Try.zeroValue32 rfl fun b_2 => ?_
  refine TL.done ?_
  refine TC.seq ?_
  refine TC.region ?_
  refine TL.alloc [.arr 6 (enf u8v (fun _ => (0 : UInt8)))] rfl rfl Try.zeroValue32 rfl fun b_3 => ?_
  refine TL.done ?_
  refine TC.seq ?_
  refine TC.seq ?_
  refine TC.region ?_
  refine TL.assign rfl rfl (v := .int .i64 0) rfl ?_
  refine TL.done ?_
  refine TC.loop1 (σ := (Nat → UInt8) × Int) (γ := Unit) (Γ' := (fun p q => match p, q with | (out1, i1), _ => [(1, bp b_1 0), (2, bp b_2 0), (3, bp b_3 0), (4, .int .i64 i1)])) (L' := (fun p q => match p, q with | (out1, i1), _ => [box b_1 32 [.arr 6 (enf u8v a_1)], box b_2 32 [.arr 6 (enf u8v (fun _ => (0 : UInt8)))], box b_3 32 [.arr 6 (enf u8v out1)]])) (Γb := (fun p q => match p, q with | (out1, i1), _ => [(1, bp b_1 0), (2, bp b_2 0), (3, bp b_3 0), (4, .int .i64 i1)])) (Lb := (fun p q => match p, q with | (out1, i1), _ => [box b_1 32 [.arr 6 (enf u8v a_1)], box b_2 32 [.arr 6 (enf u8v (fun _ => (0 : UInt8)))], box b_3 32 [.arr 6 (enf u8v out1)]])) (((fun _ => (0 : UInt8)), 0)) (()) ⟨rfl, rfl, rfl, rfl, trivial⟩ [2, 1, 0] rfl ?_ ?_
  · rintro ⟨out1, i1⟩ _
    refine TC.seq ?_
    refine TC.seq ?_
    refine TC.region ?_
    refine TL.move rfl rfl (v := .int .i64 i1) rfl ?_
    refine TL.bin .i64 i1 6 rfl rfl rfl rfl (v := .bool (decide (i1 < 6))) rfl ?_
    refine TL.done ?_
    refine TC.cond (b := (decide (i1 < 6))) rfl (fun c1 => ?_) (fun c2 => ?_)
    · refine TC.skip ?_
      refine TC.seq ?_
      refine TC.block (NoEx.loop1 rfl) ?_
      refine TC.region ?_
      refine TL.move rfl rfl (v := .int .i64 i1) rfl ?_
      refine TL.move rfl rfl (v := .int .i64 i1) rfl ?_
      refine TL.chk fun h1 => ?_
      refine TL.ixa i1 i1.toNat h1 Try.underlying32 Try.sizeOf5 rfl rfl rfl rfl (by omega) ?_
      refine TL.loadA i1.toNat 0 (Src.box 0 rfl) Try.isAgg5 rfl (by omega) (v := u8v (a_1 i1.toNat)) rfl (st := 0) rfl (by omega) rfl rfl rfl ?_
      refine TL.ixa i1 i1.toNat h1 Try.underlying32 Try.sizeOf5 rfl rfl rfl rfl (by omega) ?_
      refine TL.stA (e := u8v) (z := (a_1 i1.toNat)) 2 0 i1.toNat rfl Try.sizeOf5 rfl (by omega) (s := 0) rfl (by omega) rfl rfl rfl rfl rfl ?_
      refine TL.done ?_
      refine TC.region ?_
      refine TL.move rfl rfl (v := .int .i64 i1) rfl ?_
      refine TL.bin .i64 i1 1 rfl rfl rfl rfl (v := .int .i64 (w64 (i1 + 1))) rfl ?_
      refine TL.assign rfl rfl (v := .int .i64 (w64 (i1 + 1))) rfl ?_
      refine TL.done ?_
      exact TC.next1 (((upd out1 i1.toNat (a_1 i1.toNat)), (w64 (i1 + 1)))) (()) ⟨rfl, rfl, rfl, rfl, trivial⟩ [0, 0, 0] rfl
    · exact TC.brk1 ((out1, i1)) (()) ⟨rfl, rfl, rfl, rfl, trivial⟩ [0, 0, 0] rfl
  · rintro ⟨out1, i1⟩ _
    refine TC.seq ?_
    refine TC.region ?_
    refine TL.loadM 0 1 (Src.box 2 rfl) Try.isAgg32 Try.sizeOf32 (mid := [.arr 6 (enf u8v out1)]) rfl rfl rfl rfl rfl rfl ?_
    refine TL.stM (news := [.arr 6 (enf u8v out1)]) 1 0 1 rfl Try.sizeOf32 (ones_arr (fun _ => rfl) ones_nil) rfl rfl rfl rfl rfl rfl ?_
    refine TL.done ?_
    exact TC.retF (Fin.body (fin1 (.inr rfl) rfl (.cellN rfl (Src.box 1 rfl) Try.isAgg32 Try.sizeOf32 rfl) [] rfl ⟨rfl, rfl⟩))

end Go.Proofs.Ytcombgcjgdkbiaa.G

/- laws.toByteA6A6, as a pure function. -/
set_option linter.unusedVariables false
namespace Go.Proofs.Ytcombgcjgdkbiaa.G
open Go Go.Sx Go.Proofs

def laws_toByteA6A6.b0 (a_1 : Nat → UInt8) : (Nat → UInt8) × Int → Option (LB ((Nat → UInt8) × Int)) := fun p => match p with | (out1, i1) => (bif (decide (i1 < 6)) then chk i1 6 ((G.laws_toByteA6.f (sub a_1 (i1.toNat * 6))).bind (fun r_1 => some (.next ((updN out1 (i1.toNat * 6) 6 r_1), (w64 (i1 + 1)))))) else some (.brk (out1, i1)))

def laws_toByteA6A6.f (a_1 : Nat → UInt8) : Option (Nat → UInt8) := (loop1 (laws_toByteA6A6.b0 a_1) ((fun _ => (0 : UInt8)), 0)).bind (fun p => match p with | (out1, i1) => some out1)

def laws_toByteA6A6.R (r : Nat → UInt8) (v : Value) (L : List Asn) : Prop := v = sval [.arr 36 (enf u8v r)] ∧ L = []

set_option maxRecDepth 100000 in
set_option maxHeartbeats 4000000 in
theorem laws_toByteA6A6.calls (w : World) (a_1 : Nat → UInt8) :
    ∀ r, laws_toByteA6A6.f a_1 = some r → Calls Try.prog 63 #[sval [.arr 36 (enf u8v a_1)]] w (Ret w (laws_toByteA6A6.R r)) := by

  refine calls_T (n := 16) (Γ := [(0, sval [.arr 36 (enf u8v a_1)])]) (R := laws_toByteA6A6.R) Try.func63 rfl rfl (Nat.le_of_ble_eq_true rfl) ⟨rfl, trivial⟩ ?_
  unfold laws_toByteA6A6.f
  refine TC.seq ?_
  refine TC.region ?_
  refine TL.box [.arr 36 (enf u8v a_1)] rfl rfl rfl rfl fun b_1 => ?_
  refine TL.alloc [.arr 36 (enf u8v (fun _ => (0 : UInt8)))] rfl rfl Try.zeroValue33 rfl fun b_2 => ?_
  refine TL.done ?_
  refine TC.seq ?_
  refine TC.region ?_
  refine TL.alloc [.arr 36 (enf u8v (fun _ => (0 : UInt8)))] rfl rfl Try.zeroValue33 rfl fun b_3 => ?_
  refine TL.done ?_
  refine TC.seq ?_
  refine TC.seq ?_
  refine TC.region ?_
  refine TL.assign rfl rfl (v := .int .i64 0) rfl ?_
  refine TL.done ?_
  refine TC.loop1 (σ := (Nat → UInt8) × Int) (γ := Unit) (Γ' := (fun p q => match p, q with | (out1, i1), _ => [(1, bp b_1 0), (2, bp b_2 0), (3, bp b_3 0), (4, .int .i64 i1)])) (L' := (fun p q => match p, q with | (out1, i1), _ => [box b_1 33 [.arr 36 (enf u8v a_1)], box b_2 33 [.arr 36 (enf u8v (fun _ => (0 : UInt8)))], box b_3 33 [.arr 36 (enf u8v out1)]])) (Γb := (fun p q => match p, q with | (out1, i1), _ => [(1, bp b_1 0), (2, bp b_2 0), (3, bp b_3 0), (4, .int .i64 i1)])) (Lb := (fun p q => match p, q with | (out1, i1), _ => [box b_1 33 [.arr 36 (enf u8v a_1)], box b_2 33 [.arr 36 (enf u8v (fun _ => (0 : UInt8)))], box b_3 33 [.arr 36 (enf u8v out1)]])) (((fun _ => (0 : UInt8)), 0)) (()) ⟨rfl, rfl, rfl, rfl, trivial⟩ [2, 1, 0] rfl ?_ ?_
  · rintro ⟨out1, i1⟩ _
    refine TC.seq ?_
    refine TC.seq ?_
    refine TC.region ?_
    refine TL.move rfl rfl (v := .int .i64 i1) rfl ?_
    refine TL.bin .i64 i1 6 rfl rfl rfl rfl (v := .bool (decide (i1 < 6))) rfl ?_
    refine TL.done ?_
    refine TC.cond (b := (decide (i1 < 6))) rfl (fun c1 => ?_) (fun c2 => ?_)
    · refine TC.skip ?_
      refine TC.seq ?_
      refine TC.block (NoEx.loop1 rfl) ?_
      refine TC.region ?_
      refine TL.move rfl rfl (v := .int .i64 i1) rfl ?_
      refine TL.move rfl rfl (v := .int .i64 i1) rfl ?_
      refine TL.chk fun h1 => ?_
      refine TL.ixa i1 (i1.toNat * 6) h1 Try.underlying33 Try.sizeOf32 rfl rfl rfl rfl (by omega) ?_
      refine TL.loadS (i1.toNat * 6) 0 (Src.box 0 rfl) Try.isAgg32 Try.sizeOf32 rfl (by omega) (v := sval [.arr 6 (enf u8v (sub a_1 (i1.toNat * 6)))]) rfl (st := 0) rfl (by omega) rfl rfl rfl ?_
      refine TL.call (R := G.laws_toByteA6.R) Try.call113 rfl rfl rfl (fun w hS => G.laws_toByteA6.calls w (sub a_1 (i1.toNat * 6))) ?_
      rintro r_1 _ _ ⟨rfl, rfl⟩
      refine TL.ixa i1 (i1.toNat * 6) h1 Try.underlying33 Try.sizeOf32 rfl rfl rfl rfl (by omega) ?_
      refine TL.stS (e := u8v) 2 0 (i1.toNat * 6) rfl Try.sizeOf32 (fun _ => rfl) rfl (by omega) (s := 0) rfl (by omega) rfl rfl rfl ?_
      refine TL.done ?_
      refine TC.region ?_
      refine TL.move rfl rfl (v := .int .i64 i1) rfl ?_
      refine TL.bin .i64 i1 1 rfl rfl rfl rfl (v := .int .i64 (w64 (i1 + 1))) rfl ?_
      refine TL.assign rfl rfl (v := .int .i64 (w64 (i1 + 1))) rfl ?_
      refine TL.done ?_
      exact TC.next1 (((updN out1 (i1.toNat * 6) 6 r_1), (w64 (i1 + 1)))) (()) ⟨rfl, rfl, rfl, rfl, trivial⟩ [0, 0, 0] rfl
    · exact TC.brk1 ((out1, i1)) (()) ⟨rfl, rfl, rfl, rfl, trivial⟩ [0, 0, 0] rfl
  · rintro ⟨out1, i1⟩ _
    refine TC.seq ?_
    refine TC.region ?_
    refine TL.loadM 0 1 (Src.box 2 rfl) Try.isAgg33 Try.sizeOf33 (mid := [.arr 36 (enf u8v out1)]) rfl rfl rfl rfl rfl rfl ?_
    refine TL.stM (news := [.arr 36 (enf u8v out1)]) 1 0 1 rfl Try.sizeOf33 (ones_arr (fun _ => rfl) ones_nil) rfl rfl rfl rfl rfl rfl ?_
    refine TL.done ?_
    exact TC.retF (Fin.body (fin1 (.inr rfl) rfl (.cellN rfl (Src.box 1 rfl) Try.isAgg33 Try.sizeOf33 rfl) [] rfl ⟨rfl, rfl⟩))

end Go.Proofs.Ytcombgcjgdkbiaa.G

/- laws.toGroup, as a pure function. -/
set_option linter.unusedVariables false
namespace Go.Proofs.Ytcombgcjgdkbiaa.G
open Go Go.Sx Go.Proofs

def laws_toGroup.f (a_1 : Int) (a_2 : Nat → UInt8) : Option (Int × (Nat → UInt8)) := (G.laws_toByteA6A6.f a_2).bind (fun r_1 => some (a_1, r_1))

def laws_toGroup.R (r : Int × (Nat → UInt8)) (v : Value) (L : List Asn) : Prop := v = sval [.one (.int .i64 r.1), .arr 36 (enf u8v r.2)] ∧ L = []

set_option maxRecDepth 100000 in
set_option maxHeartbeats 4000000 in
theorem laws_toGroup.calls (w : World) (a_1 : Int) (a_2 : Nat → UInt8) :
    ∀ r, laws_toGroup.f a_1 a_2 = some r → Calls Try.prog 24 #[sval [.one (.int .i64 a_1), .arr 36 (enf u8v a_2)]] w (Ret w (laws_toGroup.R r)) := by

  refine calls_T (n := 12) (Γ := [(0, sval [.one (.int .i64 a_1), .arr 36 (enf u8v a_2)])]) (R := laws_toGroup.R) Try.func24 rfl rfl (Nat.le_of_ble_eq_true rfl) ⟨rfl, trivial⟩ ?_
  unfold laws_toGroup.f
  refine TC.seq ?_
  refine TC.region ?_
  refine TL.box [.one (.int .i64 a_1), .arr 36 (enf u8v a_2)] rfl rfl rfl rfl fun b_1 => ?_
  refine TL.alloc [.one (.int .i64 0), .arr 36 (enf u8v (fun _ => (0 : UInt8)))] rfl rfl Try.zeroValue37 rfl fun b_2 => ?_
  refine TL.done ?_
  refine TC.seq ?_
  refine TC.region ?_
  refine TL.alloc [.one (.int .i64 0), .arr 36 (enf u8v (fun _ => (0 : UInt8)))] rfl rfl Try.zeroValue37 rfl fun b_3 => ?_
  refine TL.done ?_
  refine TC.seq ?_
  refine TC.region ?_
  refine TL.fa Try.underlying35 rfl Try.sizeOf2 rfl 0 rfl rfl rfl rfl ?_
  refine TL.load1 0 (Src.box 2 rfl) Try.isAgg2 rfl rfl rfl rfl rfl ?_
  refine TL.fa Try.underlying37 rfl Try.sizeOf2 rfl 0 rfl rfl rfl rfl ?_
  refine TL.st1 0 0 rfl Try.sizeOf2 rfl rfl rfl rfl rfl rfl rfl ?_
  refine TL.done ?_
  refine TC.seq ?_
  refine TC.region ?_
  refine TL.fa Try.underlying35 rfl Try.sizeOf33 rfl 1 rfl rfl rfl rfl ?_
  refine TL.loadM 1 1 (Src.box 2 rfl) Try.isAgg33 Try.sizeOf33 (mid := [.arr 36 (enf u8v a_2)]) rfl rfl rfl rfl rfl rfl ?_
  refine TL.call (R := G.laws_toByteA6A6.R) Try.call63 rfl rfl rfl (fun w hS => G.laws_toByteA6A6.calls w a_2) ?_
  rintro r_1 _ _ ⟨rfl, rfl⟩
  refine TL.fa Try.underlying37 rfl Try.sizeOf33 rfl 1 rfl rfl rfl rfl ?_
  refine TL.stM (news := [.arr 36 (enf u8v r_1)]) 0 1 1 rfl Try.sizeOf33 (ones_arr (fun _ => rfl) ones_nil) rfl rfl rfl rfl rfl rfl ?_
  refine TL.done ?_
  refine TC.seq ?_
  refine TC.region ?_
  refine TL.loadM 0 2 (Src.box 0 rfl) Try.isAgg37 Try.sizeOf37 (mid := [.one (.int .i64 a_1), .arr 36 (enf u8v r_1)]) rfl rfl rfl rfl rfl rfl ?_
  refine TL.stM (news := [.one (.int .i64 a_1), .arr 36 (enf u8v r_1)]) 1 0 2 rfl Try.sizeOf37 (ones_one rfl (ones_arr (fun _ => rfl) ones_nil)) rfl rfl rfl rfl rfl rfl ?_
  refine TL.done ?_
  exact TC.retF (Fin.body (fin1 (.inr rfl) rfl (.cellN rfl (Src.box 1 rfl) Try.isAgg37 Try.sizeOf37 rfl) [] rfl ⟨rfl, rfl⟩))

end Go.Proofs.Ytcombgcjgdkbiaa.G

/- laws.eqByteA6, as a pure function. -/
set_option linter.unusedVariables false
namespace Go.Proofs.Ytcombgcjgdkbiaa.G
open Go Go.Sx Go.Proofs

def laws_eqByteA6.b0 (a_1 : Nat → UInt8) (b_1 : Nat → UInt8) : Int → Option (LR Int Bool) := fun i1 => (bif (decide (i1 < 6)) then chk i1 6 ((bif (((a_1 i1.toNat).toNat : Int) != ((b_1 i1.toNat).toNat : Int)) then some (.ret (false)) else some (.next (w64 (i1 + 1))))) else some (.brk i1))

def laws_eqByteA6.f (a_1 : Nat → UInt8) (b_1 : Nat → UInt8) : Option Bool := (loop (laws_eqByteA6.b0 a_1 b_1) 0).bind (ln (fun i1 => some true))

def laws_eqByteA6.R (r : Bool) (v : Value) (L : List Asn) : Prop := v = .bool r ∧ L = []

set_option maxRecDepth 100000 in
set_option maxHeartbeats 4000000 in
theorem laws_eqByteA6.calls (w : World) (a_1 : Nat → UInt8) (b_1 : Nat → UInt8) :
    ∀ r, laws_eqByteA6.f a_1 b_1 = some r → Calls Try.prog 127 #[sval [.arr 6 (enf u8v a_1)], sval [.arr 6 (enf u8v b_1)]] w (Ret w (laws_eqByteA6.R r)) := by

  refine calls_T (n := 17) (Γ := [(0, sval [.arr 6 (enf u8v a_1)]), (1, sval [.arr 6 (enf u8v b_1)])]) (R := laws_eqByteA6.R) Try.func127 rfl rfl (Nat.le_of_ble_eq_true rfl) ⟨rfl, rfl, trivial⟩ ?_
  unfold laws_eqByteA6.f
  refine TC.seq ?_
  refine TC.region ?_
  refine TL.box [.arr 6 (enf u8v a_1)] rfl rfl rfl rfl fun b_2 => ?_
  refine TL.box [.arr 6 (enf u8v b_1)] rfl rfl rfl rfl fun b_3 => ?_
  refine TL.assign rfl rfl (v := .bool false) rfl ?_
  refine TL.done ?_
  refine TC.seq ?_
  refine TC.seq ?_
  refine TC.region ?_
  refine TL.assign rfl rfl (v := .int .i64 0) rfl ?_
  refine TL.done ?_
  refine TC.loopK (σ := Int) (γ := Unit) (Γ' := (fun i1 _ => [(2, bp b_2 0), (3, bp b_3 0), (5, .int .i64 i1)])) (L' := (fun i1 _ => [box b_2 32 [.arr 6 (enf u8v a_1)], box b_3 32 [.arr 6 (enf u8v b_1)]])) (Γb := (fun i1 _ => [(2, bp b_2 0), (3, bp b_3 0), (5, .int .i64 i1)])) (Lb := (fun i1 _ => [box b_2 32 [.arr 6 (enf u8v a_1)], box b_3 32 [.arr 6 (enf u8v b_1)]])) (0) (()) ⟨rfl, rfl, rfl, trivial⟩ [1, 0] rfl ?_ ?_
  · rintro i1 _
    refine TC.seq ?_
    refine TC.seq ?_
    refine TC.region ?_
    refine TL.move rfl rfl (v := .int .i64 i1) rfl ?_
    refine TL.bin .i64 i1 6 rfl rfl rfl rfl (v := .bool (decide (i1 < 6))) rfl ?_
    refine TL.done ?_
    refine TC.cond (b := (decide (i1 < 6))) rfl (fun c1 => ?_) (fun c2 => ?_)
    · refine TC.skip ?_
      refine TC.seq ?_
      refine TC.block (NoEx.loop rfl NoEx.body) ?_
      refine TC.seq ?_
      refine TC.wk (Γ' := [(2, bp b_2 0), (3, bp b_3 0), (5, .int .i64 i1), (6, .int .i64 i1), (7, .bool (decide (i1 < 6)))]) ⟨rfl, rfl, rfl, rfl, rfl, trivial⟩ ?_
      refine TC.chk fun h1 => ?_
      refine TC.draw [.int .i64 i1, bp b_2 i1.toNat, u8v (a_1 i1.toNat), .int .i64 i1, bp b_3 i1.toNat, u8v (b_1 i1.toNat), .bool (((a_1 i1.toNat).toNat : Int) != ((b_1 i1.toNat).toNat : Int))] 7 [box b_2 32 [.arr 6 (enf u8v a_1)], box b_3 32 [.arr 6 (enf u8v b_1)]] (by kernel_rfl) rfl rfl rfl rfl ?_ ?_
      · refine ⟨?_, ?_, ?_, ?_, ?_, ?_, ?_, trivial⟩
        · refine TL.move rfl rfl (v := .int .i64 i1) rfl ?_
          refine TL.done ?_
          exact TC.nrm () () ⟨rfl, trivial⟩ [0, 0] rfl
        · refine TL.ixa i1 i1.toNat h1 Try.underlying32 Try.sizeOf5 rfl rfl rfl rfl (by omega) ?_
          refine TL.done ?_
          exact TC.nrm () () ⟨rfl, trivial⟩ [0, 0] rfl
        · refine TL.loadA i1.toNat 0 (Src.box 0 rfl) Try.isAgg5 rfl (by omega) (v := u8v (a_1 i1.toNat)) rfl (st := 0) rfl (by omega) rfl rfl rfl ?_
          refine TL.done ?_
          exact TC.nrm () () ⟨rfl, trivial⟩ [0, 0] rfl
        · refine TL.move rfl rfl (v := .int .i64 i1) rfl ?_
          refine TL.done ?_
          exact TC.nrm () () ⟨rfl, trivial⟩ [0, 0] rfl
        · refine TL.ixa i1 i1.toNat h1 Try.underlying32 Try.sizeOf5 rfl rfl rfl rfl (by omega) ?_
          refine TL.done ?_
          exact TC.nrm () () ⟨rfl, trivial⟩ [0, 0] rfl
        · refine TL.loadA i1.toNat 0 (Src.box 1 rfl) Try.isAgg5 rfl (by omega) (v := u8v (b_1 i1.toNat)) rfl (st := 0) rfl (by omega) rfl rfl rfl ?_
          refine TL.done ?_
          exact TC.nrm () () ⟨rfl, trivial⟩ [0, 0] rfl
        · refine TL.bin .u8 ((a_1 i1.toNat).toNat : Int) ((b_1 i1.toNat).toNat : Int) rfl rfl rfl rfl (v := .bool (((a_1 i1.toNat).toNat : Int) != ((b_1 i1.toNat).toNat : Int))) rfl ?_
          refine TL.done ?_
          exact TC.nrm () () ⟨rfl, trivial⟩ [0, 0] rfl
      · refine TC.cond (b := (((a_1 i1.toNat).toNat : Int) != ((b_1 i1.toNat).toNat : Int))) rfl (fun c3 => ?_) (fun c4 => ?_)
        · refine TC.seq ?_
          refine TC.region ?_
          refine TL.assign rfl rfl (v := .bool false) rfl ?_
          refine TL.done ?_
          exact TC.retF (Fin.loop Far.ret (Fin.body (fin1 (.inr rfl) rfl (.tmp rfl) [] rfl ⟨rfl, rfl⟩)))
        · refine TC.skip ?_
          refine TC.region ?_
          refine TL.move rfl rfl (v := .int .i64 i1) rfl ?_
          refine TL.bin .i64 i1 1 rfl rfl rfl rfl (v := .int .i64 (w64 (i1 + 1))) rfl ?_
          refine TL.assign rfl rfl (v := .int .i64 (w64 (i1 + 1))) rfl ?_
          refine TL.done ?_
          exact TC.next ((w64 (i1 + 1))) (()) ⟨rfl, rfl, rfl, trivial⟩ [0, 0] rfl
    · exact TC.brk (i1) (()) ⟨rfl, rfl, rfl, trivial⟩ [0, 0] rfl
  · rintro i1 _
    refine TC.seq ?_
    refine TC.region ?_
    refine TL.assign rfl rfl (v := .bool true) rfl ?_
    refine TL.done ?_
    exact TC.retF (Fin.body (fin1 (.inr rfl) rfl (.tmp rfl) [] rfl ⟨rfl, rfl⟩))

end Go.Proofs.Ytcombgcjgdkbiaa.G

/- laws.eqByteA6A6, as a pure function. -/
set_option linter.unusedVariables false
namespace Go.Proofs.Ytcombgcjgdkbiaa.G
open Go Go.Sx Go.Proofs

def laws_eqByteA6A6.b0 (a_1 : Nat → UInt8) (b_1 : Nat → UInt8) : Int → Option (LR Int Bool) := fun i1 => (bif (decide (i1 < 6)) then chk i1 6 ((G.laws_eqByteA6.f (sub a_1 (i1.toNat * 6)) (sub b_1 (i1.toNat * 6))).bind (fun r_1 => (bif (!r_1) then some (.ret (false)) else some (.next (w64 (i1 + 1)))))) else some (.brk i1))

def laws_eqByteA6A6.f (a_1 : Nat → UInt8) (b_1 : Nat → UInt8) : Option Bool := (loop (laws_eqByteA6A6.b0 a_1 b_1) 0).bind (ln (fun i1 => some true))

def laws_eqByteA6A6.R (r : Bool) (v : Value) (L : List Asn) : Prop := v = .bool r ∧ L = []

set_option maxRecDepth 100000 in
set_option maxHeartbeats 4000000 in
theorem laws_eqByteA6A6.calls (w : World) (a_1 : Nat → UInt8) (b_1 : Nat → UInt8) :
    ∀ r, laws_eqByteA6A6.f a_1 b_1 = some r → Calls Try.prog 118 #[sval [.arr 36 (enf u8v a_1)], sval [.arr 36 (enf u8v b_1)]] w (Ret w (laws_eqByteA6A6.R r)) := by

  refine calls_T (n := 18) (Γ := [(0, sval [.arr 36 (enf u8v a_1)]), (1, sval [.arr 36 (enf u8v b_1)])]) (R := laws_eqByteA6A6.R) Try.func118 rfl rfl (Nat.le_of_ble_eq_true rfl) ⟨rfl, rfl, trivial⟩ ?_
  unfold laws_eqByteA6A6.f
  refine TC.seq ?_
  refine TC.region ?_
  refine TL.box [.arr 36 (enf u8v a_1)] rfl rfl rfl rfl fun b_2 => ?_
  refine TL.box [.arr 36 (enf u8v b_1)] rfl rfl rfl rfl fun b_3 => ?_
  refine TL.assign rfl rfl (v := .bool false) rfl ?_
  refine TL.done ?_
  refine TC.seq ?_
  refine TC.seq ?_
  refine TC.region ?_
  refine TL.assign rfl rfl (v := .int .i64 0) rfl ?_
  refine TL.done ?_
  refine TC.loopK (σ := Int) (γ := Unit) (Γ' := (fun i1 _ => [(2, bp b_2 0), (3, bp b_3 0), (5, .int .i64 i1)])) (L' := (fun i1 _ => [box b_2 33 [.arr 36 (enf u8v a_1)], box b_3 33 [.arr 36 (enf u8v b_1)]])) (Γb := (fun i1 _ => [(2, bp b_2 0), (3, bp b_3 0), (5, .int .i64 i1)])) (Lb := (fun i1 _ => [box b_2 33 [.arr 36 (enf u8v a_1)], box b_3 33 [.arr 36 (enf u8v b_1)]])) (0) (()) ⟨rfl, rfl, rfl, trivial⟩ [1, 0] rfl ?_ ?_
  · rintro i1 _
    refine TC.seq ?_
    refine TC.seq ?_
    refine TC.region ?_
    refine TL.move rfl rfl (v := .int .i64 i1) rfl ?_
    refine TL.bin .i64 i1 6 rfl rfl rfl rfl (v := .bool (decide (i1 < 6))) rfl ?_
    refine TL.done ?_
    refine TC.cond (b := (decide (i1 < 6))) rfl (fun c1 => ?_) (fun c2 => ?_)
    · refine TC.skip ?_
      refine TC.seq ?_
      refine TC.block (NoEx.loop rfl NoEx.body) ?_
      refine TC.seq ?_
      refine TC.wk (Γ' := [(2, bp b_2 0), (3, bp b_3 0), (5, .int .i64 i1), (6, .int .i64 i1), (7, .bool (decide (i1 < 6)))]) ⟨rfl, rfl, rfl, rfl, rfl, trivial⟩ ?_
      refine TC.chk fun h1 => ?_
      refine TC.bindE fun r_1 hr1 => ?_
      refine TC.draw [.int .i64 i1, bp b_2 (i1.toNat * 6), sval [.arr 6 (enf u8v (sub a_1 (i1.toNat * 6)))], .int .i64 i1, bp b_3 (i1.toNat * 6), sval [.arr 6 (enf u8v (sub b_1 (i1.toNat * 6)))], .bool r_1, .bool (!r_1)] 8 [box b_2 33 [.arr 36 (enf u8v a_1)], box b_3 33 [.arr 36 (enf u8v b_1)]] (by kernel_rfl) rfl rfl rfl rfl ?_ ?_
      · refine ⟨?_, ?_, ?_, ?_, ?_, ?_, ?_, ?_, trivial⟩
        · refine TL.move rfl rfl (v := .int .i64 i1) rfl ?_
          refine TL.done ?_
          exact TC.nrm () () ⟨rfl, trivial⟩ [0, 0] rfl
        · refine TL.ixa i1 (i1.toNat * 6) h1 Try.underlying33 Try.sizeOf32 rfl rfl rfl rfl (by omega) ?_
          refine TL.done ?_
          exact TC.nrm () () ⟨rfl, trivial⟩ [0, 0] rfl
        · refine TL.loadS (i1.toNat * 6) 0 (Src.box 0 rfl) Try.isAgg32 Try.sizeOf32 rfl (by omega) (v := sval [.arr 6 (enf u8v (sub a_1 (i1.toNat * 6)))]) rfl (st := 0) rfl (by omega) rfl rfl rfl ?_
          refine TL.done ?_
          exact TC.nrm () () ⟨rfl, trivial⟩ [0, 0] rfl
        · refine TL.move rfl rfl (v := .int .i64 i1) rfl ?_
          refine TL.done ?_
          exact TC.nrm () () ⟨rfl, trivial⟩ [0, 0] rfl
        · refine TL.ixa i1 (i1.toNat * 6) h1 Try.underlying33 Try.sizeOf32 rfl rfl rfl rfl (by omega) ?_
          refine TL.done ?_
          exact TC.nrm () () ⟨rfl, trivial⟩ [0, 0] rfl
        · refine TL.loadS (i1.toNat * 6) 0 (Src.box 1 rfl) Try.isAgg32 Try.sizeOf32 rfl (by omega) (v := sval [.arr 6 (enf u8v (sub b_1 (i1.toNat * 6)))]) rfl (st := 0) rfl (by omega) rfl rfl rfl ?_
          refine TL.done ?_
          exact TC.nrm () () ⟨rfl, trivial⟩ [0, 0] rfl
        · refine TL.callH (R := G.laws_eqByteA6.R) hr1 Try.call127 rfl rfl rfl (fun w hS => G.laws_eqByteA6.calls w (sub a_1 (i1.toNat * 6)) (sub b_1 (i1.toNat * 6))) ?_
          rintro _ _ ⟨rfl, rfl⟩
          refine TL.done ?_
          exact TC.nrm () () ⟨rfl, trivial⟩ [0, 0] rfl
        · refine TL.not r_1 rfl rfl rfl ?_
          refine TL.done ?_
          exact TC.nrm () () ⟨rfl, trivial⟩ [0, 0] rfl
      · refine TC.cond (b := (!r_1)) rfl (fun c3 => ?_) (fun c4 => ?_)
        · refine TC.seq ?_
          refine TC.region ?_
          refine TL.assign rfl rfl (v := .bool false) rfl ?_
          refine TL.done ?_
          exact TC.retF (Fin.loop Far.ret (Fin.body (fin1 (.inr rfl) rfl (.tmp rfl) [] rfl ⟨rfl, rfl⟩)))
        · refine TC.skip ?_
          refine TC.region ?_
          refine TL.move rfl rfl (v := .int .i64 i1) rfl ?_
          refine TL.bin .i64 i1 1 rfl rfl rfl rfl (v := .int .i64 (w64 (i1 + 1))) rfl ?_
          refine TL.assign rfl rfl (v := .int .i64 (w64 (i1 + 1))) rfl ?_
          refine TL.done ?_
          exact TC.next ((w64 (i1 + 1))) (()) ⟨rfl, rfl, rfl, trivial⟩ [0, 0] rfl
    · exact TC.brk (i1) (()) ⟨rfl, rfl, rfl, trivial⟩ [0, 0] rfl
  · rintro i1 _
    refine TC.seq ?_
    refine TC.region ?_
    refine TL.assign rfl rfl (v := .bool true) rfl ?_
    refine TL.done ?_
    exact TC.retF (Fin.body (fin1 (.inr rfl) rfl (.tmp rfl) [] rfl ⟨rfl, rfl⟩))

end Go.Proofs.Ytcombgcjgdkbiaa.G

/- laws.eqByteA6A6A6, as a pure function. -/
set_option linter.unusedVariables false
namespace Go.Proofs.Ytcombgcjgdkbiaa.G
open Go Go.Sx Go.Proofs

def laws_eqByteA6A6A6.b0 (a_1 : Nat → UInt8) (b_1 : Nat → UInt8) : Int → Option (LR Int Bool) := fun i1 => (bif (decide (i1 < 6)) then chk i1 6 ((G.laws_eqByteA6A6.f (sub a_1 (i1.toNat * 36)) (sub b_1 (i1.toNat * 36))).bind (fun r_1 => (bif (!r_1) then some (.ret (false)) else some (.next (w64 (i1 + 1)))))) else some (.brk i1))

def laws_eqByteA6A6A6.f (a_1 : Nat → UInt8) (b_1 : Nat → UInt8) : Option Bool := (loop (laws_eqByteA6A6A6.b0 a_1 b_1) 0).bind (ln (fun i1 => some true))

def laws_eqByteA6A6A6.R (r : Bool) (v : Value) (L : List Asn) : Prop := v = .bool r ∧ L = []

set_option maxRecDepth 100000 in
set_option maxHeartbeats 4000000 in
theorem laws_eqByteA6A6A6.calls (w : World) (a_1 : Nat → UInt8) (b_1 : Nat → UInt8) :
    ∀ r, laws_eqByteA6A6A6.f a_1 b_1 = some r → Calls Try.prog 83 #[sval [.arr 216 (enf u8v a_1)], sval [.arr 216 (enf u8v b_1)]] w (Ret w (laws_eqByteA6A6A6.R r)) := by

  refine calls_T (n := 18) (Γ := [(0, sval [.arr 216 (enf u8v a_1)]), (1, sval [.arr 216 (enf u8v b_1)])]) (R := laws_eqByteA6A6A6.R) Try.func83 rfl rfl (Nat.le_of_ble_eq_true rfl) ⟨rfl, rfl, trivial⟩ ?_
  unfold laws_eqByteA6A6A6.f
  refine TC.seq ?_
  refine TC.region ?_
  refine TL.box [.arr 216 (enf u8v a_1)] rfl rfl rfl rfl fun b_2 => ?_
  refine TL.box [.arr 216 (enf u8v b_1)] rfl rfl rfl rfl fun b_3 => ?_
  refine TL.assign rfl rfl (v := .bool false) rfl ?_
  refine TL.done ?_
  refine TC.seq ?_
  refine TC.seq ?_
  refine TC.region ?_
  refine TL.assign rfl rfl (v := .int .i64 0) rfl ?_
  refine TL.done ?_
  refine TC.loopK (σ := Int) (γ := Unit) (Γ' := (fun i1 _ => [(2, bp b_2 0), (3, bp b_3 0), (5, .int .i64 i1)])) (L' := (fun i1 _ => [box b_2 42 [.arr 216 (enf u8v a_1)], box b_3 42 [.arr 216 (enf u8v b_1)]])) (Γb := (fun i1 _ => [(2, bp b_2 0), (3, bp b_3 0), (5, .int .i64 i1)])) (Lb := (fun i1 _ => [box b_2 42 [.arr 216 (enf u8v a_1)], box b_3 42 [.arr 216 (enf u8v b_1)]])) (0) (()) ⟨rfl, rfl, rfl, trivial⟩ [1, 0] rfl ?_ ?_
  · rintro i1 _
    refine TC.seq ?_
    refine TC.seq ?_
    refine TC.region ?_
    refine TL.move rfl rfl (v := .int .i64 i1) rfl ?_
    refine TL.bin .i64 i1 6 rfl rfl rfl rfl (v := .bool (decide (i1 < 6))) rfl ?_
    refine TL.done ?_
    refine TC.cond (b := (decide (i1 < 6))) rfl (fun c1 => ?_) (fun c2 => ?_)
    · refine TC.skip ?_
      refine TC.seq ?_
      refine TC.block (NoEx.loop rfl NoEx.body) ?_
      refine TC.seq ?_
      refine TC.wk (Γ' := [(2, bp b_2 0), (3, bp b_3 0), (5, .int .i64 i1), (6, .int .i64 i1), (7, .bool (decide (i1 < 6)))]) ⟨rfl, rfl, rfl, rfl, rfl, trivial⟩ ?_
      refine TC.chk fun h1 => ?_
      refine TC.bindE fun r_1 hr1 => ?_
      refine TC.draw [.int .i64 i1, bp b_2 (i1.toNat * 36), sval [.arr 36 (enf u8v (sub a_1 (i1.toNat * 36)))], .int .i64 i1, bp b_3 (i1.toNat * 36), sval [.arr 36 (enf u8v (sub b_1 (i1.toNat * 36)))], .bool r_1, .bool (!r_1)] 8 [box b_2 42 [.arr 216 (enf u8v a_1)], box b_3 42 [.arr 216 (enf u8v b_1)]] (by kernel_rfl) rfl rfl rfl rfl ?_ ?_
      · refine ⟨?_, ?_, ?_, ?_, ?_, ?_, ?_, ?_, trivial⟩
        · refine TL.move rfl rfl (v := .int .i64 i1) rfl ?_
          refine TL.done ?_
          exact TC.nrm () () ⟨rfl, trivial⟩ [0, 0] rfl
        · refine TL.ixa i1 (i1.toNat * 36) h1 Try.underlying42 Try.sizeOf33 rfl rfl rfl rfl (by omega) ?_
          refine TL.done ?_
          exact TC.nrm () () ⟨rfl, trivial⟩ [0, 0] rfl
        · refine TL.loadS (i1.toNat * 36) 0 (Src.box 0 rfl) Try.isAgg33 Try.sizeOf33 rfl (by omega) (v := sval [.arr 36 (enf u8v (sub a_1 (i1.toNat * 36)))]) rfl (st := 0) rfl (by omega) rfl rfl rfl ?_
          refine TL.done ?_
          exact TC.nrm () () ⟨rfl, trivial⟩ [0, 0] rfl
        · refine TL.move rfl rfl (v := .int .i64 i1) rfl ?_
          refine TL.done ?_
          exact TC.nrm () () ⟨rfl, trivial⟩ [0, 0] rfl
        · refine TL.ixa i1 (i1.toNat * 36) h1 Try.underlying42 Try.sizeOf33 rfl rfl rfl rfl (by omega) ?_
          refine TL.done ?_
          exact TC.nrm () () ⟨rfl, trivial⟩ [0, 0] rfl
        · refine TL.loadS (i1.toNat * 36) 0 (Src.box 1 rfl) Try.isAgg33 Try.sizeOf33 rfl (by omega) (v := sval [.arr 36 (enf u8v (sub b_1 (i1.toNat * 36)))]) rfl (st := 0) rfl (by omega) rfl rfl rfl ?_
          refine TL.done ?_
          exact TC.nrm () () ⟨rfl, trivial⟩ [0, 0] rfl
        · refine TL.callH (R := G.laws_eqByteA6A6.R) hr1 Try.call118 rfl rfl rfl (fun w hS => G.laws_eqByteA6A6.calls w (sub a_1 (i1.toNat * 36)) (sub b_1 (i1.toNat * 36))) ?_
          rintro _ _ ⟨rfl, rfl⟩
          refine TL.done ?_
          exact TC.nrm () () ⟨rfl, trivial⟩ [0, 0] rfl
        · refine TL.not r_1 rfl rfl rfl ?_
          refine TL.done ?_
          exact TC.nrm () () ⟨rfl, trivial⟩ [0, 0] rfl
      · refine TC.cond (b := (!r_1)) rfl (fun c3 => ?_) (fun c4 => ?_)
        · refine TC.seq ?_
          refine TC.region ?_
          refine TL.assign rfl rfl (v := .bool false) rfl ?_
          refine TL.done ?_
          exact TC.retF (Fin.loop Far.ret (Fin.body (fin1 (.inr rfl) rfl (.tmp rfl) [] rfl ⟨rfl, rfl⟩)))
        · refine TC.skip ?_
          refine TC.region ?_
          refine TL.move rfl rfl (v := .int .i64 i1) rfl ?_
          refine TL.bin .i64 i1 1 rfl rfl rfl rfl (v := .int .i64 (w64 (i1 + 1))) rfl ?_
          refine TL.assign rfl rfl (v := .int .i64 (w64 (i1 + 1))) rfl ?_
          refine TL.done ?_
          exact TC.next ((w64 (i1 + 1))) (()) ⟨rfl, rfl, rfl, trivial⟩ [0, 0] rfl
    · exact TC.brk (i1) (()) ⟨rfl, rfl, rfl, trivial⟩ [0, 0] rfl
  · rintro i1 _
    refine TC.seq ?_
    refine TC.region ?_
    refine TL.assign rfl rfl (v := .bool true) rfl ?_
    refine TL.done ?_
    exact TC.retF (Fin.body (fin1 (.inr rfl) rfl (.tmp rfl) [] rfl ⟨rfl, rfl⟩))

end Go.Proofs.Ytcombgcjgdkbiaa.G

/- laws.eqVector, as a pure function. -/
set_option linter.unusedVariables false
namespace Go.Proofs.Ytcombgcjgdkbiaa.G
open Go Go.Sx Go.Proofs

def laws_eqVector.b0 (a_1 : Nat → UInt8) (b_1 : Nat → UInt8) : Int → Option (LR Int Bool) := fun i1 => (bif (decide (i1 < 6)) then chk i1 6 ((bif (((a_1 i1.toNat).toNat : Int) != ((b_1 i1.toNat).toNat : Int)) then some (.ret (false)) else some (.next (w64 (i1 + 1))))) else some (.brk i1))

def laws_eqVector.f (a_1 : Nat → UInt8) (b_1 : Nat → UInt8) : Option Bool := (loop (laws_eqVector.b0 a_1 b_1) 0).bind (ln (fun i1 => some true))

def laws_eqVector.R (r : Bool) (v : Value) (L : List Asn) : Prop := v = .bool r ∧ L = []

set_option maxRecDepth 100000 in
set_option maxHeartbeats 4000000 in
theorem laws_eqVector.calls (w : World) (a_1 : Nat → UInt8) (b_1 : Nat → UInt8) :
    ∀ r, laws_eqVector.f a_1 b_1 = some r → Calls Try.prog 84 #[sval [.arr 6 (enf u8v a_1)], sval [.arr 6 (enf u8v b_1)]] w (Ret w (laws_eqVector.R r)) := by

  refine calls_T (n := 17) (Γ := [(0, sval [.arr 6 (enf u8v a_1)]), (1, sval [.arr 6 (enf u8v b_1)])]) (R := laws_eqVector.R) Try.func84 rfl rfl (Nat.le_of_ble_eq_true rfl) ⟨rfl, rfl, trivial⟩ ?_
  unfold laws_eqVector.f
  refine TC.seq ?_
  refine TC.region ?_
  refine TL.box [.arr 6 (enf u8v a_1)] rfl rfl rfl rfl fun b_2 => ?_
  refine TL.box [.arr 6 (enf u8v b_1)] rfl rfl rfl rfl fun b_3 => ?_
  refine TL.assign rfl rfl (v := .bool false) rfl ?_
  refine TL.done ?_
  refine TC.seq ?_
  refine TC.seq ?_
  refine TC.region ?_
  refine TL.assign rfl rfl (v := .int .i64 0) rfl ?_
  refine TL.done ?_
  refine TC.loopK (σ := Int) (γ := Unit) (Γ' := (fun i1 _ => [(2, bp b_2 0), (3, bp b_3 0), (5, .int .i64 i1)])) (L' := (fun i1 _ => [box b_2 43 [.arr 6 (enf u8v a_1)], box b_3 43 [.arr 6 (enf u8v b_1)]])) (Γb := (fun i1 _ => [(2, bp b_2 0), (3, bp b_3 0), (5, .int .i64 i1)])) (Lb := (fun i1 _ => [box b_2 43 [.arr 6 (enf u8v a_1)], box b_3 43 [.arr 6 (enf u8v b_1)]])) (0) (()) ⟨rfl, rfl, rfl, trivial⟩ [1, 0] rfl ?_ ?_
  · rintro i1 _
    refine TC.seq ?_
    refine TC.seq ?_
    refine TC.region ?_
    refine TL.move rfl rfl (v := .int .i64 i1) rfl ?_
    refine TL.bin .i64 i1 6 rfl rfl rfl rfl (v := .bool (decide (i1 < 6))) rfl ?_
    refine TL.done ?_
    refine TC.cond (b := (decide (i1 < 6))) rfl (fun c1 => ?_) (fun c2 => ?_)
    · refine TC.skip ?_
      refine TC.seq ?_
      refine TC.block (NoEx.loop rfl NoEx.body) ?_
      refine TC.seq ?_
      refine TC.wk (Γ' := [(2, bp b_2 0), (3, bp b_3 0), (5, .int .i64 i1), (6, .int .i64 i1), (7, .bool (decide (i1 < 6)))]) ⟨rfl, rfl, rfl, rfl, rfl, trivial⟩ ?_
      refine TC.chk fun h1 => ?_
      refine TC.draw [.int .i64 i1, bp b_2 i1.toNat, u8v (a_1 i1.toNat), .int .i64 i1, bp b_3 i1.toNat, u8v (b_1 i1.toNat), .bool (((a_1 i1.toNat).toNat : Int) != ((b_1 i1.toNat).toNat : Int))] 7 [box b_2 43 [.arr 6 (enf u8v a_1)], box b_3 43 [.arr 6 (enf u8v b_1)]] (by kernel_rfl) rfl rfl rfl rfl ?_ ?_
      · refine ⟨?_, ?_, ?_, ?_, ?_, ?_, ?_, trivial⟩
        · refine TL.move rfl rfl (v := .int .i64 i1) rfl ?_
          refine TL.done ?_
          exact TC.nrm () () ⟨rfl, trivial⟩ [0, 0] rfl
        · refine TL.ixa i1 i1.toNat h1 Try.underlying43 Try.sizeOf5 rfl rfl rfl rfl (by omega) ?_
          refine TL.done ?_
          exact TC.nrm () () ⟨rfl, trivial⟩ [0, 0] rfl
        · refine TL.loadA i1.toNat 0 (Src.box 0 rfl) Try.isAgg5 rfl (by omega) (v := u8v (a_1 i1.toNat)) rfl (st := 0) rfl (by omega) rfl rfl rfl ?_
          refine TL.done ?_
          exact TC.nrm () () ⟨rfl, trivial⟩ [0, 0] rfl
        · refine TL.move rfl rfl (v := .int .i64 i1) rfl ?_
          refine TL.done ?_
          exact TC.nrm () () ⟨rfl, trivial⟩ [0, 0] rfl
        · refine TL.ixa i1 i1.toNat h1 Try.underlying43 Try.sizeOf5 rfl rfl rfl rfl (by omega) ?_
          refine TL.done ?_
          exact TC.nrm () () ⟨rfl, trivial⟩ [0, 0] rfl
        · refine TL.loadA i1.toNat 0 (Src.box 1 rfl) Try.isAgg5 rfl (by omega) (v := u8v (b_1 i1.toNat)) rfl (st := 0) rfl (by omega) rfl rfl rfl ?_
          refine TL.done ?_
          exact TC.nrm () () ⟨rfl, trivial⟩ [0, 0] rfl
        · refine TL.bin .u8 ((a_1 i1.toNat).toNat : Int) ((b_1 i1.toNat).toNat : Int) rfl rfl rfl rfl (v := .bool (((a_1 i1.toNat).toNat : Int) != ((b_1 i1.toNat).toNat : Int))) rfl ?_
          refine TL.done ?_
          exact TC.nrm () () ⟨rfl, trivial⟩ [0, 0] rfl
      · refine TC.cond (b := (((a_1 i1.toNat).toNat : Int) != ((b_1 i1.toNat).toNat : Int))) rfl (fun c3 => ?_) (fun c4 => ?_)
        · refine TC.seq ?_
          refine TC.region ?_
          refine TL.assign rfl rfl (v := .bool false) rfl ?_
          refine TL.done ?_
          exact TC.retF (Fin.loop Far.ret (Fin.body (fin1 (.inr rfl) rfl (.tmp rfl) [] rfl ⟨rfl, rfl⟩)))
        · refine TC.skip ?_
          refine TC.region ?_
          refine TL.move rfl rfl (v := .int .i64 i1) rfl ?_
          refine TL.bin .i64 i1 1 rfl rfl rfl rfl (v := .int .i64 (w64 (i1 + 1))) rfl ?_
          refine TL.assign rfl rfl (v := .int .i64 (w64 (i1 + 1))) rfl ?_
          refine TL.done ?_
          exact TC.next ((w64 (i1 + 1))) (()) ⟨rfl, rfl, rfl, trivial⟩ [0, 0] rfl
    · exact TC.brk (i1) (()) ⟨rfl, rfl, rfl, trivial⟩ [0, 0] rfl
  · rintro i1 _
    refine TC.seq ?_
    refine TC.region ?_
    refine TL.assign rfl rfl (v := .bool true) rfl ?_
    refine TL.done ?_
    exact TC.retF (Fin.body (fin1 (.inr rfl) rfl (.tmp rfl) [] rfl ⟨rfl, rfl⟩))

end Go.Proofs.Ytcombgcjgdkbiaa.G

/- laws.eqAlgebra, as a pure function. -/
set_option linter.unusedVariables false
namespace Go.Proofs.Ytcombgcjgdkbiaa.G
open Go Go.Sx Go.Proofs

def laws_eqAlgebra.f (a_1 : Int) (a_2 : Int) (a_3 : Nat → UInt8) (a_4 : Nat → UInt8) (b_1 : Int) (b_2 : Int) (b_3 : Nat → UInt8) (b_4 : Nat → UInt8) : Option Bool := (bif (a_1 != b_1) then some false else (bif (a_2 != b_2) then some false else (G.laws_eqByteA6A6A6.f a_3 b_3).bind (fun r_1 => (bif (!r_1) then some false else (G.laws_eqVector.f a_4 b_4).bind (fun r_2 => (bif (!r_2) then some false else some true))))))

def laws_eqAlgebra.R (r : Bool) (v : Value) (L : List Asn) : Prop := v = .bool r ∧ L = []

set_option maxRecDepth 100000 in
set_option maxHeartbeats 4000000 in
theorem laws_eqAlgebra.calls (w : World) (a_1 : Int) (a_2 : Int) (a_3 : Nat → UInt8) (a_4 : Nat → UInt8) (b_1 : Int) (b_2 : Int) (b_3 : Nat → UInt8) (b_4 : Nat → UInt8) :
    ∀ r, laws_eqAlgebra.f a_1 a_2 a_3 a_4 b_1 b_2 b_3 b_4 = some r → Calls Try.prog 32 #[sval [.one (.int .i64 a_1), .one (.int .i64 a_2), .arr 216 (enf u8v a_3), .arr 6 (enf u8v a_4)], sval [.one (.int .i64 b_1), .one (.int .i64 b_2), .arr 216 (enf u8v b_3), .arr 6 (enf u8v b_4)]] w (Ret w (laws_eqAlgebra.R r)) := by

  refine calls_T (n := 27) (Γ := [(0, sval [.one (.int .i64 a_1), .one (.int .i64 a_2), .arr 216 (enf u8v a_3), .arr 6 (enf u8v a_4)]), (1, sval [.one (.int .i64 b_1), .one (.int .i64 b_2), .arr 216 (enf u8v b_3), .arr 6 (enf u8v b_4)])]) (R := laws_eqAlgebra.R) Try.func32 rfl rfl (Nat.le_of_ble_eq_true rfl) ⟨rfl, rfl, trivial⟩ ?_
  unfold laws_eqAlgebra.f
  refine TC.seq ?_
  refine TC.region ?_
  refine TL.box [.one (.int .i64 a_1), .one (.int .i64 a_2), .arr 216 (enf u8v a_3), .arr 6 (enf u8v a_4)] rfl rfl rfl rfl fun b_5 => ?_
  refine TL.box [.one (.int .i64 b_1), .one (.int .i64 b_2), .arr 216 (enf u8v b_3), .arr 6 (enf u8v b_4)] rfl rfl rfl rfl fun b_6 => ?_
  refine TL.assign rfl rfl (v := .bool false) rfl ?_
  refine TL.done ?_
  refine TC.seq ?_
  refine TC.seq ?_
  refine TC.region ?_
  refine TL.fa Try.underlying45 rfl Try.sizeOf2 rfl 0 rfl rfl rfl rfl ?_
  refine TL.load1 0 (Src.box 1 rfl) Try.isAgg2 rfl rfl rfl rfl rfl ?_
  refine TL.fa Try.underlying45 rfl Try.sizeOf2 rfl 0 rfl rfl rfl rfl ?_
  refine TL.load1 0 (Src.box 0 rfl) Try.isAgg2 rfl rfl rfl rfl rfl ?_
  refine TL.bin .i64 a_1 b_1 rfl rfl rfl rfl (v := .bool (a_1 != b_1)) rfl ?_
  refine TL.done ?_
  refine TC.cond (b := (a_1 != b_1)) rfl (fun c1 => ?_) (fun c2 => ?_)
  · refine TC.seq ?_
    refine TC.region ?_
    refine TL.assign rfl rfl (v := .bool false) rfl ?_
    refine TL.done ?_
    exact TC.retF (Fin.body (fin1 (.inr rfl) rfl (.tmp rfl) [] rfl ⟨rfl, rfl⟩))
  · refine TC.skip ?_
    refine TC.seq ?_
    refine TC.seq ?_
    refine TC.region ?_
    refine TL.fa Try.underlying45 rfl Try.sizeOf2 rfl 1 rfl rfl rfl rfl ?_
    refine TL.load1 1 (Src.box 1 rfl) Try.isAgg2 rfl rfl rfl rfl rfl ?_
    refine TL.fa Try.underlying45 rfl Try.sizeOf2 rfl 1 rfl rfl rfl rfl ?_
    refine TL.load1 1 (Src.box 0 rfl) Try.isAgg2 rfl rfl rfl rfl rfl ?_
    refine TL.bin .i64 a_2 b_2 rfl rfl rfl rfl (v := .bool (a_2 != b_2)) rfl ?_
    refine TL.done ?_
    refine TC.cond (b := (a_2 != b_2)) rfl (fun c3 => ?_) (fun c4 => ?_)
    · refine TC.seq ?_
      refine TC.region ?_
      refine TL.assign rfl rfl (v := .bool false) rfl ?_
      refine TL.done ?_
      exact TC.retF (Fin.body (fin1 (.inr rfl) rfl (.tmp rfl) [] rfl ⟨rfl, rfl⟩))
    · refine TC.skip ?_
      refine TC.seq ?_
      refine TC.seq ?_
      refine TC.region ?_
      refine TL.fa Try.underlying45 rfl Try.sizeOf42 rfl 2 rfl rfl rfl rfl ?_
      refine TL.loadM 2 1 (Src.box 1 rfl) Try.isAgg42 Try.sizeOf42 (mid := [.arr 216 (enf u8v a_3)]) rfl rfl rfl rfl rfl rfl ?_
      refine TL.fa Try.underlying45 rfl Try.sizeOf42 rfl 2 rfl rfl rfl rfl ?_
      refine TL.loadM 2 1 (Src.box 0 rfl) Try.isAgg42 Try.sizeOf42 (mid := [.arr 216 (enf u8v b_3)]) rfl rfl rfl rfl rfl rfl ?_
      refine TL.call (R := G.laws_eqByteA6A6A6.R) Try.call83 rfl rfl rfl (fun w hS => G.laws_eqByteA6A6A6.calls w a_3 b_3) ?_
      rintro r_1 _ _ ⟨rfl, rfl⟩
      refine TL.not r_1 rfl rfl rfl ?_
      refine TL.done ?_
      refine TC.cond (b := (!r_1)) rfl (fun c5 => ?_) (fun c6 => ?_)
      · refine TC.seq ?_
        refine TC.region ?_
        refine TL.assign rfl rfl (v := .bool false) rfl ?_
        refine TL.done ?_
        exact TC.retF (Fin.body (fin1 (.inr rfl) rfl (.tmp rfl) [] rfl ⟨rfl, rfl⟩))
      · refine TC.skip ?_
        refine TC.seq ?_
        refine TC.seq ?_
        refine TC.region ?_
        refine TL.fa Try.underlying45 rfl Try.sizeOf43 rfl 218 rfl rfl rfl rfl ?_
        refine TL.loadM 3 1 (Src.box 1 rfl) Try.isAgg43 Try.sizeOf43 (mid := [.arr 6 (enf u8v a_4)]) rfl rfl rfl rfl rfl rfl ?_
        refine TL.fa Try.underlying45 rfl Try.sizeOf43 rfl 218 rfl rfl rfl rfl ?_
        refine TL.loadM 3 1 (Src.box 0 rfl) Try.isAgg43 Try.sizeOf43 (mid := [.arr 6 (enf u8v b_4)]) rfl rfl rfl rfl rfl rfl ?_
        refine TL.call (R := G.laws_eqVector.R) Try.call84 rfl rfl rfl (fun w hS => G.laws_eqVector.calls w a_4 b_4) ?_
        rintro r_2 _ _ ⟨rfl, rfl⟩
        refine TL.not r_2 rfl rfl rfl ?_
        refine TL.done ?_
        refine TC.cond (b := (!r_2)) rfl (fun c7 => ?_) (fun c8 => ?_)
        · refine TC.seq ?_
          refine TC.region ?_
          refine TL.assign rfl rfl (v := .bool false) rfl ?_
          refine TL.done ?_
          exact TC.retF (Fin.body (fin1 (.inr rfl) rfl (.tmp rfl) [] rfl ⟨rfl, rfl⟩))
        · refine TC.skip ?_
          refine TC.seq ?_
          refine TC.region ?_
          refine TL.assign rfl rfl (v := .bool true) rfl ?_
          refine TL.done ?_
          exact TC.retF (Fin.body (fin1 (.inr rfl) rfl (.tmp rfl) [] rfl ⟨rfl, rfl⟩))

end Go.Proofs.Ytcombgcjgdkbiaa.G

/- laws.eqInt64S, as a pure function. -/
set_option linter.unusedVariables false
namespace Go.Proofs.Ytcombgcjgdkbiaa.G
open Go Go.Sx Go.Proofs

def laws_eqInt64S.b0 (a_1 : List Int) (b_1 : List Int) : Int → Option (LR Int Bool) := fun i1 => (bif (decide (i1 < (a_1.length : Int))) then chk i1 a_1.length (chk i1 b_1.length ((bif ((gt a_1 i1) != (gt b_1 i1)) then some (.ret (false)) else some (.next (w64 (i1 + 1)))))) else some (.brk i1))

def laws_eqInt64S.f (a_1 : List Int) (b_1 : List Int) : Option Bool := (bif ((a_1.length : Int) != (b_1.length : Int)) then some false else (loop (laws_eqInt64S.b0 a_1 b_1) 0).bind (ln (fun i1 => some true)))

def laws_eqInt64S.R (r : Bool) (v : Value) (L : List Asn) : Prop := v = .bool r ∧ L = []

set_option maxRecDepth 100000 in
set_option maxHeartbeats 4000000 in
theorem laws_eqInt64S.calls (w : World) (s1 : SV) (a_1 : List Int) (s2 : SV) (b_1 : List Int) (h1 : Reads Ei (hp w) s1 a_1) (h2 : Reads Ei (hp w) s2 b_1) :
    ∀ r, laws_eqInt64S.f a_1 b_1 = some r → Calls Try.prog 18 #[SV.v s1, SV.v s2] w (Ret w (laws_eqInt64S.R r)) := by

  refine calls_T (n := 26) (Γ := [(0, SV.v s1), (1, SV.v s2)]) (R := laws_eqInt64S.R) Try.func18 rfl rfl (Nat.le_of_ble_eq_true rfl) ⟨rfl, rfl, trivial⟩ ?_
  unfold laws_eqInt64S.f
  refine TC.seq ?_
  refine TC.region ?_
  refine TL.assign rfl rfl (v := .bool false) rfl ?_
  refine TL.done ?_
  refine TC.seq ?_
  refine TC.seq ?_
  refine TC.region ?_
  refine TL.move rfl rfl (v := SV.v s1) rfl ?_
  refine TL.len (Rd.old h1) Try.underlying22 rfl rfl rfl ?_
  refine TL.move rfl rfl (v := SV.v s2) rfl ?_
  refine TL.len (Rd.old h2) Try.underlying22 rfl rfl rfl ?_
  refine TL.bin .i64 (a_1.length : Int) (b_1.length : Int) rfl rfl rfl rfl (v := .bool ((a_1.length : Int) != (b_1.length : Int))) rfl ?_
  refine TL.done ?_
  refine TC.cond (b := ((a_1.length : Int) != (b_1.length : Int))) rfl (fun c1 => ?_) (fun c2 => ?_)
  · refine TC.seq ?_
    refine TC.region ?_
    refine TL.assign rfl rfl (v := .bool false) rfl ?_
    refine TL.done ?_
    exact TC.retF (Fin.body (fin1 (.inr rfl) rfl (.tmp rfl) [] rfl ⟨rfl, rfl⟩))
  · refine TC.skip ?_
    refine TC.seq ?_
    refine TC.seq ?_
    refine TC.region ?_
    refine TL.assign rfl rfl (v := .int .i64 0) rfl ?_
    refine TL.done ?_
    refine TC.loopK (σ := Int) (γ := Unit) (Γ' := (fun i1 _ => [(0, SV.v s1), (1, SV.v s2), (5, .int .i64 i1)])) (L' := (fun i1 _ => [])) (Γb := (fun i1 _ => [(0, SV.v s1), (1, SV.v s2), (5, .int .i64 i1)])) (Lb := (fun i1 _ => [])) (0) (()) ⟨rfl, rfl, rfl, trivial⟩ [] rfl ?_ ?_
    · rintro i1 _
      refine TC.seq ?_
      refine TC.seq ?_
      refine TC.region ?_
      refine TL.move rfl rfl (v := .int .i64 i1) rfl ?_
      refine TL.move rfl rfl (v := SV.v s1) rfl ?_
      refine TL.len (Rd.old h1) Try.underlying22 rfl rfl rfl ?_
      refine TL.bin .i64 i1 (a_1.length : Int) rfl rfl rfl rfl (v := .bool (decide (i1 < (a_1.length : Int)))) rfl ?_
      refine TL.done ?_
      refine TC.cond (b := (decide (i1 < (a_1.length : Int)))) rfl (fun c3 => ?_) (fun c4 => ?_)
      · refine TC.skip ?_
        refine TC.seq ?_
        refine TC.block (NoEx.loop rfl NoEx.body) ?_
        refine TC.seq ?_
        refine TC.wk (Γ' := [(0, SV.v s1), (1, SV.v s2), (5, .int .i64 i1), (11, .int .i64 i1), (12, SV.v s1), (13, .int .i64 (a_1.length : Int)), (14, .bool (decide (i1 < (a_1.length : Int))))]) ⟨rfl, rfl, rfl, rfl, rfl, rfl, rfl, trivial⟩ ?_
        refine TC.chk fun h3 => ?_
        refine TC.chk fun h4 => ?_
        refine TC.draw [SV.v s1, .int .i64 i1, ep s1 i1.toNat, .int .i64 (gt a_1 i1), SV.v s2, .int .i64 i1, ep s2 i1.toNat, .int .i64 (gt b_1 i1), .bool ((gt a_1 i1) != (gt b_1 i1))] 9 [] (by kernel_rfl) rfl rfl rfl rfl ?_ ?_
        · refine ⟨?_, ?_, ?_, ?_, ?_, ?_, ?_, ?_, ?_, trivial⟩
          · refine TL.move rfl rfl (v := SV.v s1) rfl ?_
            refine TL.done ?_
            exact TC.nrm () () ⟨rfl, trivial⟩ [] rfl
          · refine TL.move rfl rfl (v := .int .i64 i1) rfl ?_
            refine TL.done ?_
            exact TC.nrm () () ⟨rfl, trivial⟩ [] rfl
          · refine TL.ixs i1 i1.toNat (Rd.old h1) h3 Try.underlying22 Try.sizeOf2 rfl rfl rfl rfl (by omega) ?_
            refine TL.done ?_
            exact TC.nrm () () ⟨rfl, trivial⟩ [] rfl
          · refine TL.loadE (Rd.old h1) Try.isAgg2 i1.toNat 0 (gt_spec h3) (v := .int .i64 (gt a_1 i1)) rfl (by simp only [show Ei.sz = 1 from rfl]; omega) rfl rfl rfl ?_
            refine TL.done ?_
            exact TC.nrm () () ⟨rfl, trivial⟩ [] rfl
          · refine TL.move rfl rfl (v := SV.v s2) rfl ?_
            refine TL.done ?_
            exact TC.nrm () () ⟨rfl, trivial⟩ [] rfl
          · refine TL.move rfl rfl (v := .int .i64 i1) rfl ?_
            refine TL.done ?_
            exact TC.nrm () () ⟨rfl, trivial⟩ [] rfl
          · refine TL.ixs i1 i1.toNat (Rd.old h2) h4 Try.underlying22 Try.sizeOf2 rfl rfl rfl rfl (by omega) ?_
            refine TL.done ?_
            exact TC.nrm () () ⟨rfl, trivial⟩ [] rfl
          · refine TL.loadE (Rd.old h2) Try.isAgg2 i1.toNat 0 (gt_spec h4) (v := .int .i64 (gt b_1 i1)) rfl (by simp only [show Ei.sz = 1 from rfl]; omega) rfl rfl rfl ?_
            refine TL.done ?_
            exact TC.nrm () () ⟨rfl, trivial⟩ [] rfl
          · refine TL.bin .i64 (gt a_1 i1) (gt b_1 i1) rfl rfl rfl rfl (v := .bool ((gt a_1 i1) != (gt b_1 i1))) rfl ?_
            refine TL.done ?_
            exact TC.nrm () () ⟨rfl, trivial⟩ [] rfl
        · refine TC.cond (b := ((gt a_1 i1) != (gt b_1 i1))) rfl (fun c5 => ?_) (fun c6 => ?_)
          · refine TC.seq ?_
            refine TC.region ?_
            refine TL.assign rfl rfl (v := .bool false) rfl ?_
            refine TL.done ?_
            exact TC.retF (Fin.loop Far.ret (Fin.body (fin1 (.inr rfl) rfl (.tmp rfl) [] rfl ⟨rfl, rfl⟩)))
          · refine TC.skip ?_
            refine TC.region ?_
            refine TL.move rfl rfl (v := .int .i64 i1) rfl ?_
            refine TL.bin .i64 i1 1 rfl rfl rfl rfl (v := .int .i64 (w64 (i1 + 1))) rfl ?_
            refine TL.assign rfl rfl (v := .int .i64 (w64 (i1 + 1))) rfl ?_
            refine TL.done ?_
            exact TC.next ((w64 (i1 + 1))) (()) ⟨rfl, rfl, rfl, trivial⟩ [] rfl
      · exact TC.brk (i1) (()) ⟨rfl, rfl, rfl, trivial⟩ [] rfl
    · rintro i1 _
      refine TC.seq ?_
      refine TC.region ?_
      refine TL.assign rfl rfl (v := .bool true) rfl ?_
      refine TL.done ?_
      exact TC.retF (Fin.body (fin1 (.inr rfl) rfl (.tmp rfl) [] rfl ⟨rfl, rfl⟩))

end Go.Proofs.Ytcombgcjgdkbiaa.G

/- laws.eqInt64SS, as a pure function. -/
set_option linter.unusedVariables false
namespace Go.Proofs.Ytcombgcjgdkbiaa.G
open Go Go.Sx Go.Proofs

def laws_eqInt64SS.b0 (a_1 : List (List Int)) (b_1 : List (List Int)) : Int → Option (LR Int Bool) := fun i1 => (bif (decide (i1 < (a_1.length : Int))) then chk i1 a_1.length (chk i1 b_1.length ((G.laws_eqInt64S.f (gt a_1 i1) (gt b_1 i1)).bind (fun r_1 => (bif (!r_1) then some (.ret (false)) else some (.next (w64 (i1 + 1))))))) else some (.brk i1))

def laws_eqInt64SS.f (a_1 : List (List Int)) (b_1 : List (List Int)) : Option Bool := (bif ((a_1.length : Int) != (b_1.length : Int)) then some false else (loop (laws_eqInt64SS.b0 a_1 b_1) 0).bind (ln (fun i1 => some true)))

def laws_eqInt64SS.R (r : Bool) (v : Value) (L : List Asn) : Prop := v = .bool r ∧ L = []

set_option maxRecDepth 100000 in
set_option maxHeartbeats 4000000 in
theorem laws_eqInt64SS.calls (w : World) (s1 : SV) (ss1 : List SV) (a_1 : List (List Int)) (s2 : SV) (ss2 : List SV) (b_1 : List (List Int)) (h1 : ReadsM Ei (hp w) s1 ss1 a_1) (h2 : ReadsM Ei (hp w) s2 ss2 b_1) :
    ∀ r, laws_eqInt64SS.f a_1 b_1 = some r → Calls Try.prog 41 #[SV.v s1, SV.v s2] w (Ret w (laws_eqInt64SS.R r)) := by

  refine calls_T (n := 27) (Γ := [(0, SV.v s1), (1, SV.v s2)]) (R := laws_eqInt64SS.R) Try.func41 rfl rfl (Nat.le_of_ble_eq_true rfl) ⟨rfl, rfl, trivial⟩ ?_
  unfold laws_eqInt64SS.f
  refine TC.seq ?_
  refine TC.region ?_
  refine TL.assign rfl rfl (v := .bool false) rfl ?_
  refine TL.done ?_
  refine TC.seq ?_
  refine TC.seq ?_
  refine TC.region ?_
  refine TL.move rfl rfl (v := SV.v s1) rfl ?_
  refine TL.lenM (RdM.old h1) Try.underlying53 rfl rfl rfl ?_
  refine TL.move rfl rfl (v := SV.v s2) rfl ?_
  refine TL.lenM (RdM.old h2) Try.underlying53 rfl rfl rfl ?_
  refine TL.bin .i64 (a_1.length : Int) (b_1.length : Int) rfl rfl rfl rfl (v := .bool ((a_1.length : Int) != (b_1.length : Int))) rfl ?_
  refine TL.done ?_
  refine TC.cond (b := ((a_1.length : Int) != (b_1.length : Int))) rfl (fun c1 => ?_) (fun c2 => ?_)
  · refine TC.seq ?_
    refine TC.region ?_
    refine TL.assign rfl rfl (v := .bool false) rfl ?_
    refine TL.done ?_
    exact TC.retF (Fin.body (fin1 (.inr rfl) rfl (.tmp rfl) [] rfl ⟨rfl, rfl⟩))
  · refine TC.skip ?_
    refine TC.seq ?_
    refine TC.seq ?_
    refine TC.region ?_
    refine TL.assign rfl rfl (v := .int .i64 0) rfl ?_
    refine TL.done ?_
    refine TC.loopK (σ := Int) (γ := Unit) (Γ' := (fun i1 _ => [(0, SV.v s1), (1, SV.v s2), (5, .int .i64 i1)])) (L' := (fun i1 _ => [])) (Γb := (fun i1 _ => [(0, SV.v s1), (1, SV.v s2), (5, .int .i64 i1)])) (Lb := (fun i1 _ => [])) (0) (()) ⟨rfl, rfl, rfl, trivial⟩ [] rfl ?_ ?_
    · rintro i1 _
      refine TC.seq ?_
      refine TC.seq ?_
      refine TC.region ?_
      refine TL.move rfl rfl (v := .int .i64 i1) rfl ?_
      refine TL.move rfl rfl (v := SV.v s1) rfl ?_
      refine TL.lenM (RdM.old h1) Try.underlying53 rfl rfl rfl ?_
      refine TL.bin .i64 i1 (a_1.length : Int) rfl rfl rfl rfl (v := .bool (decide (i1 < (a_1.length : Int)))) rfl ?_
      refine TL.done ?_
      refine TC.cond (b := (decide (i1 < (a_1.length : Int)))) rfl (fun c3 => ?_) (fun c4 => ?_)
      · refine TC.skip ?_
        refine TC.seq ?_
        refine TC.block (NoEx.loop rfl NoEx.body) ?_
        refine TC.seq ?_
        refine TC.wk (Γ' := [(0, SV.v s1), (1, SV.v s2), (5, .int .i64 i1), (11, .int .i64 i1), (12, SV.v s1), (13, .int .i64 (a_1.length : Int)), (14, .bool (decide (i1 < (a_1.length : Int))))]) ⟨rfl, rfl, rfl, rfl, rfl, rfl, rfl, trivial⟩ ?_
        refine TC.chk fun h3 => ?_
        refine TC.chk fun h4 => ?_
        refine TC.bindE fun r_1 hr1 => ?_
        refine TC.draw [SV.v s1, .int .i64 i1, ep s1 i1.toNat, SV.v (gt ss1 i1), SV.v s2, .int .i64 i1, ep s2 i1.toNat, SV.v (gt ss2 i1), .bool r_1, .bool (!r_1)] 10 [] (by kernel_rfl) rfl rfl rfl rfl ?_ ?_
        · refine ⟨?_, ?_, ?_, ?_, ?_, ?_, ?_, ?_, ?_, ?_, trivial⟩
          · refine TL.move rfl rfl (v := SV.v s1) rfl ?_
            refine TL.done ?_
            exact TC.nrm () () ⟨rfl, trivial⟩ [] rfl
          · refine TL.move rfl rfl (v := .int .i64 i1) rfl ?_
            refine TL.done ?_
            exact TC.nrm () () ⟨rfl, trivial⟩ [] rfl
          · refine TL.ixsM i1 i1.toNat (RdM.old h1) h3 Try.underlying53 Try.sizeOf22 rfl rfl rfl rfl (by omega) ?_
            refine TL.done ?_
            exact TC.nrm () () ⟨rfl, trivial⟩ [] rfl
          · refine TL.loadM2 (RdM.old h1) Try.isAgg22 i1 h3 (by omega) rfl rfl rfl ?_
            refine TL.done ?_
            exact TC.nrm () () ⟨rfl, trivial⟩ [] rfl
          · refine TL.move rfl rfl (v := SV.v s2) rfl ?_
            refine TL.done ?_
            exact TC.nrm () () ⟨rfl, trivial⟩ [] rfl
          · refine TL.move rfl rfl (v := .int .i64 i1) rfl ?_
            refine TL.done ?_
            exact TC.nrm () () ⟨rfl, trivial⟩ [] rfl
          · refine TL.ixsM i1 i1.toNat (RdM.old h2) h4 Try.underlying53 Try.sizeOf22 rfl rfl rfl rfl (by omega) ?_
            refine TL.done ?_
            exact TC.nrm () () ⟨rfl, trivial⟩ [] rfl
          · refine TL.loadM2 (RdM.old h2) Try.isAgg22 i1 h4 (by omega) rfl rfl rfl ?_
            refine TL.done ?_
            exact TC.nrm () () ⟨rfl, trivial⟩ [] rfl
          · refine TL.callH (R := G.laws_eqInt64S.R) hr1 Try.call18 rfl rfl rfl (fun w hS => G.laws_eqInt64S.calls w (gt ss1 i1) (gt a_1 i1) (gt ss2 i1) (gt b_1 i1) ((RdM.inn (RdM.old h1) h3) w hS) ((RdM.inn (RdM.old h2) h4) w hS)) ?_
            rintro _ _ ⟨rfl, rfl⟩
            refine TL.done ?_
            exact TC.nrm () () ⟨rfl, trivial⟩ [] rfl
          · refine TL.not r_1 rfl rfl rfl ?_
            refine TL.done ?_
            exact TC.nrm () () ⟨rfl, trivial⟩ [] rfl
        · refine TC.cond (b := (!r_1)) rfl (fun c5 => ?_) (fun c6 => ?_)
          · refine TC.seq ?_
            refine TC.region ?_
            refine TL.assign rfl rfl (v := .bool false) rfl ?_
            refine TL.done ?_
            exact TC.retF (Fin.loop Far.ret (Fin.body (fin1 (.inr rfl) rfl (.tmp rfl) [] rfl ⟨rfl, rfl⟩)))
          · refine TC.skip ?_
            refine TC.region ?_
            refine TL.move rfl rfl (v := .int .i64 i1) rfl ?_
            refine TL.bin .i64 i1 1 rfl rfl rfl rfl (v := .int .i64 (w64 (i1 + 1))) rfl ?_
            refine TL.assign rfl rfl (v := .int .i64 (w64 (i1 + 1))) rfl ?_
            refine TL.done ?_
            exact TC.next ((w64 (i1 + 1))) (()) ⟨rfl, rfl, rfl, trivial⟩ [] rfl
      · exact TC.brk (i1) (()) ⟨rfl, rfl, rfl, trivial⟩ [] rfl
    · rintro i1 _
      refine TC.seq ?_
      refine TC.region ?_
      refine TL.assign rfl rfl (v := .bool true) rfl ?_
      refine TL.done ?_
      exact TC.retF (Fin.body (fin1 (.inr rfl) rfl (.tmp rfl) [] rfl ⟨rfl, rfl⟩))

end Go.Proofs.Ytcombgcjgdkbiaa.G

/- laws.szInt64S, as a pure function. -/
set_option linter.unusedVariables false
namespace Go.Proofs.Ytcombgcjgdkbiaa.G
open Go Go.Sx Go.Proofs

def laws_szInt64S.f (a_1 : List Int) (left_1 : Int) : Option Int := (bif (decide ((w64 (left_1 - (a_1.length : Int))) < 0)) then some (-1) else some (w64 (left_1 - (a_1.length : Int))))

def laws_szInt64S.R (r : Int) (v : Value) (L : List Asn) : Prop := v = .int .i64 r ∧ L = []

set_option maxRecDepth 100000 in
set_option maxHeartbeats 4000000 in
theorem laws_szInt64S.calls (w : World) (s1 : SV) (a_1 : List Int) (left_1 : Int) (h1 : Reads Ei (hp w) s1 a_1) :
    ∀ r, laws_szInt64S.f a_1 left_1 = some r → Calls Try.prog 101 #[SV.v s1, .int .i64 left_1] w (Ret w (laws_szInt64S.R r)) := by

  refine calls_T (n := 12) (Γ := [(0, SV.v s1), (1, .int .i64 left_1)]) (R := laws_szInt64S.R) Try.func101 rfl rfl (Nat.le_of_ble_eq_true rfl) ⟨rfl, rfl, trivial⟩ ?_
  unfold laws_szInt64S.f
  refine TC.seq ?_
  refine TC.region ?_
  refine TL.assign rfl rfl (v := .int .i64 0) rfl ?_
  refine TL.done ?_
  refine TC.seq ?_
  refine TC.region ?_
  refine TL.move rfl rfl (v := .int .i64 left_1) rfl ?_
  refine TL.move rfl rfl (v := SV.v s1) rfl ?_
  refine TL.len (Rd.old h1) Try.underlying22 rfl rfl rfl ?_
  refine TL.bin .i64 left_1 (a_1.length : Int) rfl rfl rfl rfl (v := .int .i64 (w64 (left_1 - (a_1.length : Int)))) rfl ?_
  refine TL.assign rfl rfl (v := .int .i64 (w64 (left_1 - (a_1.length : Int)))) rfl ?_
  refine TL.done ?_
  refine TC.seq ?_
  refine TC.seq ?_
  refine TC.region ?_
  refine TL.move rfl rfl (v := .int .i64 (w64 (left_1 - (a_1.length : Int)))) rfl ?_
  refine TL.bin .i64 (w64 (left_1 - (a_1.length : Int))) 0 rfl rfl rfl rfl (v := .bool (decide ((w64 (left_1 - (a_1.length : Int))) < 0))) rfl ?_
  refine TL.done ?_
  refine TC.cond (b := (decide ((w64 (left_1 - (a_1.length : Int))) < 0))) rfl (fun c1 => ?_) (fun c2 => ?_)
  · refine TC.seq ?_
    refine TC.region ?_
    refine TL.assign rfl rfl (v := .int .i64 (-1)) rfl ?_
    refine TL.done ?_
    exact TC.retF (Fin.body (fin1 (.inr rfl) rfl (.tmp rfl) [] rfl ⟨rfl, rfl⟩))
  · refine TC.skip ?_
    refine TC.seq ?_
    refine TC.region ?_
    refine TL.move rfl rfl (v := .int .i64 (w64 (left_1 - (a_1.length : Int)))) rfl ?_
    refine TL.assign rfl rfl (v := .int .i64 (w64 (left_1 - (a_1.length : Int)))) rfl ?_
    refine TL.done ?_
    exact TC.retF (Fin.body (fin1 (.inr rfl) rfl (.tmp rfl) [] rfl ⟨rfl, rfl⟩))

end Go.Proofs.Ytcombgcjgdkbiaa.G

/- laws.szInt64SS, as a pure function. -/
set_option linter.unusedVariables false
namespace Go.Proofs.Ytcombgcjgdkbiaa.G
open Go Go.Sx Go.Proofs

def laws_szInt64SS.b0 (a_1 : List (List Int)) : Int × Int → Option (LR (Int × Int) Int) := fun p => match p with | (left_2, i1) => (bif (decide (i1 < (a_1.length : Int))) then chk i1 a_1.length ((G.laws_szInt64S.f (gt a_1 i1) left_2).bind (fun r_1 => (bif (decide (r_1 < 0)) then some (.ret ((-1))) else some (.next (r_1, (w64 (i1 + 1))))))) else some (.brk (left_2, i1)))

def laws_szInt64SS.f (a_1 : List (List Int)) (left_1 : Int) : Option Int := (bif (decide ((w64 (left_1 - (a_1.length : Int))) < 0)) then some (-1) else (loop (laws_szInt64SS.b0 a_1) ((w64 (left_1 - (a_1.length : Int))), 0)).bind (ln (fun p => match p with | (left_2, i1) => some left_2)))

def laws_szInt64SS.R (r : Int) (v : Value) (L : List Asn) : Prop := v = .int .i64 r ∧ L = []

set_option maxRecDepth 100000 in
set_option maxHeartbeats 4000000 in
theorem laws_szInt64SS.calls (w : World) (s1 : SV) (ss1 : List SV) (a_1 : List (List Int)) (left_1 : Int) (h1 : ReadsM Ei (hp w) s1 ss1 a_1) :
    ∀ r, laws_szInt64SS.f a_1 left_1 = some r → Calls Try.prog 44 #[SV.v s1, .int .i64 left_1] w (Ret w (laws_szInt64SS.R r)) := by

  refine calls_T (n := 27) (Γ := [(0, SV.v s1), (1, .int .i64 left_1)]) (R := laws_szInt64SS.R) Try.func44 rfl rfl (Nat.le_of_ble_eq_true rfl) ⟨rfl, rfl, trivial⟩ ?_
  unfold laws_szInt64SS.f
  refine TC.seq ?_
  refine TC.region ?_
  refine TL.assign rfl rfl (v := .int .i64 0) rfl ?_
  refine TL.done ?_
  refine TC.seq ?_
  refine TC.region ?_
  refine TL.move rfl rfl (v := .int .i64 left_1) rfl ?_
  refine TL.move rfl rfl (v := SV.v s1) rfl ?_
  refine TL.lenM (RdM.old h1) Try.underlying53 rfl rfl rfl ?_
  refine TL.bin .i64 left_1 (a_1.length : Int) rfl rfl rfl rfl (v := .int .i64 (w64 (left_1 - (a_1.length : Int)))) rfl ?_
  refine TL.assign rfl rfl (v := .int .i64 (w64 (left_1 - (a_1.length : Int)))) rfl ?_
  refine TL.done ?_
  refine TC.seq ?_
  refine TC.seq ?_
  refine TC.region ?_
  refine TL.move rfl rfl (v := .int .i64 (w64 (left_1 - (a_1.length : Int)))) rfl ?_
  refine TL.bin .i64 (w64 (left_1 - (a_1.length : Int))) 0 rfl rfl rfl rfl (v := .bool (decide ((w64 (left_1 - (a_1.length : Int))) < 0))) rfl ?_
  refine TL.done ?_
  refine TC.cond (b := (decide ((w64 (left_1 - (a_1.length : Int))) < 0))) rfl (fun c1 => ?_) (fun c2 => ?_)
  · refine TC.seq ?_
    refine TC.region ?_
    refine TL.assign rfl rfl (v := .int .i64 (-1)) rfl ?_
    refine TL.done ?_
    exact TC.retF (Fin.body (fin1 (.inr rfl) rfl (.tmp rfl) [] rfl ⟨rfl, rfl⟩))
  · refine TC.skip ?_
    refine TC.seq ?_
    refine TC.seq ?_
    refine TC.region ?_
    refine TL.assign rfl rfl (v := .int .i64 0) rfl ?_
    refine TL.done ?_
    refine TC.loopK (σ := Int × Int) (γ := Unit) (Γ' := (fun p q => match p, q with | (left_2, i1), _ => [(0, SV.v s1), (1, .int .i64 left_2), (5, .int .i64 i1)])) (L' := (fun p q => match p, q with | (left_2, i1), _ => [])) (Γb := (fun p q => match p, q with | (left_2, i1), _ => [(0, SV.v s1), (1, .int .i64 left_2), (5, .int .i64 i1)])) (Lb := (fun p q => match p, q with | (left_2, i1), _ => [])) (((w64 (left_1 - (a_1.length : Int))), 0)) (()) ⟨rfl, rfl, rfl, trivial⟩ [] rfl ?_ ?_
    · rintro ⟨left_2, i1⟩ _
      refine TC.seq ?_
      refine TC.seq ?_
      refine TC.region ?_
      refine TL.move rfl rfl (v := .int .i64 i1) rfl ?_
      refine TL.move rfl rfl (v := SV.v s1) rfl ?_
      refine TL.lenM (RdM.old h1) Try.underlying53 rfl rfl rfl ?_
      refine TL.bin .i64 i1 (a_1.length : Int) rfl rfl rfl rfl (v := .bool (decide (i1 < (a_1.length : Int)))) rfl ?_
      refine TL.done ?_
      refine TC.cond (b := (decide (i1 < (a_1.length : Int)))) rfl (fun c3 => ?_) (fun c4 => ?_)
      · refine TC.skip ?_
        refine TC.seq ?_
        refine TC.block (NoEx.loop rfl NoEx.body) ?_
        refine TC.seq ?_
        refine TC.region ?_
        refine TL.move rfl rfl (v := SV.v s1) rfl ?_
        refine TL.move rfl rfl (v := .int .i64 i1) rfl ?_
        refine TL.chk fun h2 => ?_
        refine TL.ixsM i1 i1.toNat (RdM.old h1) h2 Try.underlying53 Try.sizeOf22 rfl rfl rfl rfl (by omega) ?_
        refine TL.loadM2 (RdM.old h1) Try.isAgg22 i1 h2 (by omega) rfl rfl rfl ?_
        refine TL.move rfl rfl (v := .int .i64 left_2) rfl ?_
        refine TL.call (R := G.laws_szInt64S.R) Try.call101 rfl rfl rfl (fun w hS => G.laws_szInt64S.calls w (gt ss1 i1) (gt a_1 i1) left_2 ((RdM.inn (RdM.old h1) h2) w hS)) ?_
        rintro r_1 _ _ ⟨rfl, rfl⟩
        refine TL.assign rfl rfl (v := .int .i64 r_1) rfl ?_
        refine TL.done ?_
        refine TC.seq ?_
        refine TC.region ?_
        refine TL.move rfl rfl (v := .int .i64 r_1) rfl ?_
        refine TL.bin .i64 r_1 0 rfl rfl rfl rfl (v := .bool (decide (r_1 < 0))) rfl ?_
        refine TL.done ?_
        refine TC.cond (b := (decide (r_1 < 0))) rfl (fun c5 => ?_) (fun c6 => ?_)
        · refine TC.seq ?_
          refine TC.region ?_
          refine TL.assign rfl rfl (v := .int .i64 (-1)) rfl ?_
          refine TL.done ?_
          exact TC.retF (Fin.loop Far.ret (Fin.body (fin1 (.inr rfl) rfl (.tmp rfl) [] rfl ⟨rfl, rfl⟩)))
        · refine TC.skip ?_
          refine TC.region ?_
          refine TL.move rfl rfl (v := .int .i64 i1) rfl ?_
          refine TL.bin .i64 i1 1 rfl rfl rfl rfl (v := .int .i64 (w64 (i1 + 1))) rfl ?_
          refine TL.assign rfl rfl (v := .int .i64 (w64 (i1 + 1))) rfl ?_
          refine TL.done ?_
          exact TC.next ((r_1, (w64 (i1 + 1)))) (()) ⟨rfl, rfl, rfl, trivial⟩ [] rfl
      · exact TC.brk ((left_2, i1)) (()) ⟨rfl, rfl, rfl, trivial⟩ [] rfl
    · rintro ⟨left_2, i1⟩ _
      refine TC.seq ?_
      refine TC.region ?_
      refine TL.move rfl rfl (v := .int .i64 left_2) rfl ?_
      refine TL.assign rfl rfl (v := .int .i64 left_2) rfl ?_
      refine TL.done ?_
      exact TC.retF (Fin.body (fin1 (.inr rfl) rfl (.tmp rfl) [] rfl ⟨rfl, rfl⟩))

end Go.Proofs.Ytcombgcjgdkbiaa.G

/- laws.toInt64S, as a pure function. -/
set_option linter.unusedVariables false
namespace Go.Proofs.Ytcombgcjgdkbiaa.G
open Go Go.Sx Go.Proofs

def laws_toInt64S.b0 (a_1 : List Int) : (List Int) × Int → Option (LB ((List Int) × Int)) := fun p => match p with | (out1, i1) => (bif (decide (i1 < (a_1.length : Int))) then chk i1 a_1.length (chk i1 out1.length (some (.next ((out1.set i1.toNat (gt a_1 i1)), (w64 (i1 + 1)))))) else some (.brk (out1, i1)))

def laws_toInt64S.f (a_1 : List Int) : Option (List Int) := small a_1.length ((loop1 (laws_toInt64S.b0 a_1) ((List.replicate (a_1.length : Int).toNat (0 : Int)), 0)).bind (fun p => match p with | (out1, i1) => some out1))

def laws_toInt64S.R (r : List Int) (v : Value) (L : List Asn) : Prop := ∃ (s0 : SV), v = SV.v s0 ∧ L = [row Ei 2 s0 r]

set_option maxRecDepth 100000 in
set_option maxHeartbeats 4000000 in
theorem laws_toInt64S.calls (w : World) (s1 : SV) (a_1 : List Int) (h1 : Reads Ei (hp w) s1 a_1) :
    ∀ r, laws_toInt64S.f a_1 = some r → Calls Try.prog 16 #[SV.v s1] w (Ret w (laws_toInt64S.R r)) := by

  refine calls_T (n := 22) (Γ := [(0, SV.v s1)]) (R := laws_toInt64S.R) Try.func16 rfl rfl (Nat.le_of_ble_eq_true rfl) ⟨rfl, trivial⟩ ?_
  unfold laws_toInt64S.f
  refine TC.seq ?_
  refine TC.region ?_
  refine TL.assign rfl rfl (v := SV.v ⟨none, 0, 0⟩) rfl ?_
  refine TL.done ?_
  refine TC.seq ?_
  refine TC.region ?_
  refine TL.move rfl rfl (v := SV.v s1) rfl ?_
  refine TL.len (Rd.old h1) Try.underlying22 rfl rfl rfl ?_
  refine TL.small fun h2 => ?_
  refine TL.mkslice Ei (0 : Int) (a_1.length : Int) Try.underlying22 (info_of Try.type2) (zv := (Try.t2.zero.getD (.bool false))) rfl rfl rfl (by simp [Ei, flat, Seg.cells]) (by decide) (by omega) (by omega) rfl rfl rfl rfl fun s2 => ?_
  refine TL.assign rfl rfl (v := SV.v s2) rfl ?_
  refine TL.done ?_
  refine TC.seq ?_
  refine TC.seq ?_
  refine TC.region ?_
  refine TL.assign rfl rfl (v := .int .i64 0) rfl ?_
  refine TL.done ?_
  refine TC.loop1 (σ := (List Int) × Int) (γ := Unit) (Γ' := (fun p q => match p, q with | (out1, i1), _ => [(0, SV.v s1), (3, SV.v s2), (4, .int .i64 i1)])) (L' := (fun p q => match p, q with | (out1, i1), _ => [row Ei 2 s2 out1])) (Γb := (fun p q => match p, q with | (out1, i1), _ => [(0, SV.v s1), (3, SV.v s2), (4, .int .i64 i1)])) (Lb := (fun p q => match p, q with | (out1, i1), _ => [row Ei 2 s2 out1])) (((List.replicate (a_1.length : Int).toNat (0 : Int)), 0)) (()) ⟨rfl, rfl, rfl, trivial⟩ [0] rfl ?_ ?_
  · rintro ⟨out1, i1⟩ _
    refine TC.seq ?_
    refine TC.seq ?_
    refine TC.region ?_
    refine TL.move rfl rfl (v := .int .i64 i1) rfl ?_
    refine TL.move rfl rfl (v := SV.v s1) rfl ?_
    refine TL.len (Rd.old h1) Try.underlying22 rfl rfl rfl ?_
    refine TL.bin .i64 i1 (a_1.length : Int) rfl rfl rfl rfl (v := .bool (decide (i1 < (a_1.length : Int)))) rfl ?_
    refine TL.done ?_
    refine TC.cond (b := (decide (i1 < (a_1.length : Int)))) rfl (fun c1 => ?_) (fun c2 => ?_)
    · refine TC.skip ?_
      refine TC.seq ?_
      refine TC.block (NoEx.loop1 rfl) ?_
      refine TC.region ?_
      refine TL.move rfl rfl (v := SV.v s2) rfl ?_
      refine TL.move rfl rfl (v := .int .i64 i1) rfl ?_
      refine TL.move rfl rfl (v := SV.v s1) rfl ?_
      refine TL.move rfl rfl (v := .int .i64 i1) rfl ?_
      refine TL.chk fun h4 => ?_
      refine TL.ixs i1 i1.toNat (Rd.old h1) h4 Try.underlying22 Try.sizeOf2 rfl rfl rfl rfl (by omega) ?_
      refine TL.loadE (Rd.old h1) Try.isAgg2 i1.toNat 0 (gt_spec h4) (v := .int .i64 (gt a_1 i1)) rfl (by simp only [show Ei.sz = 1 from rfl]; omega) rfl rfl rfl ?_
      refine TL.chk fun h5 => ?_
      refine TL.ixs i1 i1.toNat (Rd.row 0 rfl) h5 Try.underlying22 Try.sizeOf2 rfl rfl rfl rfl (by omega) ?_
      refine TL.stE 0 (i1.toNat) (gt a_1 i1) (v := .int .i64 (gt a_1 i1)) rfl Try.sizeOf2 rfl rfl rfl (by have h_ := h5; omega) (by simp only [show Ei.sz = 1 from rfl]; omega) rfl rfl rfl ?_
      refine TL.done ?_
      refine TC.region ?_
      refine TL.move rfl rfl (v := .int .i64 i1) rfl ?_
      refine TL.bin .i64 i1 1 rfl rfl rfl rfl (v := .int .i64 (w64 (i1 + 1))) rfl ?_
      refine TL.assign rfl rfl (v := .int .i64 (w64 (i1 + 1))) rfl ?_
      refine TL.done ?_
      exact TC.next1 (((out1.set i1.toNat (gt a_1 i1)), (w64 (i1 + 1)))) (()) ⟨rfl, rfl, rfl, trivial⟩ [0] rfl
    · exact TC.brk1 ((out1, i1)) (()) ⟨rfl, rfl, rfl, trivial⟩ [0] rfl
  · rintro ⟨out1, i1⟩ _
    refine TC.seq ?_
    refine TC.region ?_
    refine TL.move rfl rfl (v := SV.v s2) rfl ?_
    refine TL.assign rfl rfl (v := SV.v s2) rfl ?_
    refine TL.done ?_
    exact TC.retF (Fin.body (fin1 (.inr rfl) rfl (.tmp rfl) [0] rfl ⟨s2, rfl, rfl⟩))

end Go.Proofs.Ytcombgcjgdkbiaa.G

/- laws.toInt64SS, as a pure function. -/
set_option linter.unusedVariables false
namespace Go.Proofs.Ytcombgcjgdkbiaa.G
open Go Go.Sx Go.Proofs

def laws_toInt64SS.b0 (a_1 : List (List Int)) : (List (List Int)) × Int → Option (LB ((List (List Int)) × Int)) := fun p => match p with | (out1, i1) => (bif (decide (i1 < (a_1.length : Int))) then chk i1 a_1.length ((G.laws_toInt64S.f (gt a_1 i1)).bind (fun r_1 => chk i1 out1.length (some (.next ((out1.set i1.toNat r_1), (w64 (i1 + 1))))))) else some (.brk (out1, i1)))

def laws_toInt64SS.f (a_1 : List (List Int)) : Option (List (List Int)) := small a_1.length ((loop1 (laws_toInt64SS.b0 a_1) ((List.replicate (a_1.length : Int).toNat ([] : List Int)), 0)).bind (fun p => match p with | (out1, i1) => some out1))

def laws_toInt64SS.R (r : List (List Int)) (v : Value) (L : List Asn) : Prop := ∃ (s0 : SV) (ss0 : List SV), v = SV.v s0 ∧ L = [mat Ei 2 22 s0 ss0 r]

set_option maxRecDepth 100000 in
set_option maxHeartbeats 4000000 in
theorem laws_toInt64SS.calls (w : World) (s1 : SV) (ss1 : List SV) (a_1 : List (List Int)) (h1 : ReadsM Ei (hp w) s1 ss1 a_1) :
    ∀ r, laws_toInt64SS.f a_1 = some r → Calls Try.prog 46 #[SV.v s1] w (Ret w (laws_toInt64SS.R r)) := by

  refine calls_T (n := 23) (Γ := [(0, SV.v s1)]) (R := laws_toInt64SS.R) Try.func46 rfl rfl (Nat.le_of_ble_eq_true rfl) ⟨rfl, trivial⟩ ?_
  unfold laws_toInt64SS.f
  refine TC.seq ?_
  refine TC.region ?_
  refine TL.assign rfl rfl (v := SV.v ⟨none, 0, 0⟩) rfl ?_
  refine TL.done ?_
  refine TC.seq ?_
  refine TC.region ?_
  refine TL.move rfl rfl (v := SV.v s1) rfl ?_
  refine TL.lenM (RdM.old h1) Try.underlying53 rfl rfl rfl ?_
  refine TL.small fun h2 => ?_
  refine TL.mkslice Ev (⟨none, 0, 0⟩ : SV) (a_1.length : Int) Try.underlying53 (info_of Try.type22) (zv := (Try.t22.zero.getD (.bool false))) rfl rfl rfl (by simp [Ev]) (by decide) (by omega) (by omega) rfl rfl rfl rfl fun s2 => ?_
  refine TL.rowsRep Ei 2 ((a_1.length : Int).toNat) ?_
  refine TL.matmk 1 0 rfl rfl ?_
  refine TL.drop 1 rfl ?_
  refine TL.asL [mat Ei 2 22 s2 (List.replicate (a_1.length : Int).toNat (⟨none, 0, 0⟩ : SV)) (List.replicate (a_1.length : Int).toNat ([] : List Int))] rfl ?_
  refine TL.assign rfl rfl (v := SV.v s2) rfl ?_
  refine TL.done ?_
  refine TC.seq ?_
  refine TC.seq ?_
  refine TC.region ?_
  refine TL.assign rfl rfl (v := .int .i64 0) rfl ?_
  refine TL.done ?_
  refine TC.loop1 (σ := (List (List Int)) × Int) (γ := (List SV)) (Γ' := (fun p q => match p, q with | (out1, i1), ss2 => [(0, SV.v s1), (3, SV.v s2), (4, .int .i64 i1)])) (L' := (fun p q => match p, q with | (out1, i1), ss2 => [mat Ei 2 22 s2 ss2 out1])) (Γb := (fun p q => match p, q with | (out1, i1), ss2 => [(0, SV.v s1), (3, SV.v s2), (4, .int .i64 i1)])) (Lb := (fun p q => match p, q with | (out1, i1), ss2 => [mat Ei 2 22 s2 ss2 out1])) (((List.replicate (a_1.length : Int).toNat ([] : List Int)), 0)) ((List.replicate (a_1.length : Int).toNat (⟨none, 0, 0⟩ : SV))) ⟨rfl, rfl, rfl, trivial⟩ [0] rfl ?_ ?_
  · rintro ⟨out1, i1⟩ ss2
    refine TC.seq ?_
    refine TC.seq ?_
    refine TC.region ?_
    refine TL.move rfl rfl (v := .int .i64 i1) rfl ?_
    refine TL.move rfl rfl (v := SV.v s1) rfl ?_
    refine TL.lenM (RdM.old h1) Try.underlying53 rfl rfl rfl ?_
    refine TL.bin .i64 i1 (a_1.length : Int) rfl rfl rfl rfl (v := .bool (decide (i1 < (a_1.length : Int)))) rfl ?_
    refine TL.done ?_
    refine TC.cond (b := (decide (i1 < (a_1.length : Int)))) rfl (fun c1 => ?_) (fun c2 => ?_)
    · refine TC.skip ?_
      refine TC.seq ?_
      refine TC.block (NoEx.loop1 rfl) ?_
      refine TC.region ?_
      refine TL.move rfl rfl (v := SV.v s2) rfl ?_
      refine TL.move rfl rfl (v := .int .i64 i1) rfl ?_
      refine TL.move rfl rfl (v := SV.v s1) rfl ?_
      refine TL.move rfl rfl (v := .int .i64 i1) rfl ?_
      refine TL.chk fun h4 => ?_
      refine TL.ixsM i1 i1.toNat (RdM.old h1) h4 Try.underlying53 Try.sizeOf22 rfl rfl rfl rfl (by omega) ?_
      refine TL.loadM2 (RdM.old h1) Try.isAgg22 i1 h4 (by omega) rfl rfl rfl ?_
      refine TL.call (R := G.laws_toInt64S.R) Try.call16 rfl rfl rfl (fun w hS => G.laws_toInt64S.calls w (gt ss1 i1) (gt a_1 i1) ((RdM.inn (RdM.old h1) h4) w hS)) ?_
      rintro r_1 _ _ ⟨s3, rfl, rfl⟩
      refine TL.chk fun h5 => ?_
      refine TL.ixsM i1 i1.toNat (RdM.mat 1 rfl) h5 Try.underlying53 Try.sizeOf22 rfl rfl rfl rfl (by omega) ?_
      refine TL.matlen 1 rfl fun h6 => ?_
      refine TL.matcut 1 rfl ?_
      refine TL.stE 0 (i1.toNat) s3 (v := SV.v s3) rfl Try.sizeOf22 rfl rfl rfl (by have h_ := h5; have l_ := h6; (try simp only [List.length_set] at h_ l_ ⊢); omega) (by simp only [show Ev.sz = 1 from rfl]; omega) rfl rfl rfl ?_
      refine TL.hole 2 i1 rfl h5 ?_
      refine TL.rowsPut 1 2 rfl rfl ?_
      refine TL.matmk 0 2 rfl rfl ?_
      refine TL.drop 0 rfl ?_
      refine TL.asL [emp, mat Ei 2 22 s2 (ss2.set i1.toNat s3) (out1.set i1.toNat r_1)] rfl ?_
      refine TL.done ?_
      refine TC.region ?_
      refine TL.move rfl rfl (v := .int .i64 i1) rfl ?_
      refine TL.bin .i64 i1 1 rfl rfl rfl rfl (v := .int .i64 (w64 (i1 + 1))) rfl ?_
      refine TL.assign rfl rfl (v := .int .i64 (w64 (i1 + 1))) rfl ?_
      refine TL.done ?_
      exact TC.next1 (((out1.set i1.toNat r_1), (w64 (i1 + 1)))) ((ss2.set i1.toNat s3)) ⟨rfl, rfl, rfl, trivial⟩ [1] rfl
    · exact TC.brk1 ((out1, i1)) (ss2) ⟨rfl, rfl, rfl, trivial⟩ [0] rfl
  · rintro ⟨out1, i1⟩ ss2
    refine TC.seq ?_
    refine TC.region ?_
    refine TL.move rfl rfl (v := SV.v s2) rfl ?_
    refine TL.assign rfl rfl (v := SV.v s2) rfl ?_
    refine TL.done ?_
    exact TC.retF (Fin.body (fin1 (.inr rfl) rfl (.tmp rfl) [0] rfl ⟨s2, ss2, rfl, rfl⟩))

end Go.Proofs.Ytcombgcjgdkbiaa.G
