/- Functions of the program, as pure functions. -/
import Derived.Test.YtjjfoofjipafiaaMMatrixPair2
import Derived.Test.YtjjfoofjipafiaaProg
/- spec.l01Named, as a pure function. -/
set_option linter.unusedVariables false
namespace Go.Proofs.Ytjjfoofjipafiaa.G
open Go Go.Sx Go.Proofs

def spec_l01Named.b0 (x3 : Int) : (Nat → UInt8) × Int → Option (LB ((Nat → UInt8) × Int)) := fun p => match p with | (y8, x4) => (bif (decide (x4 < 3)) then chk x3 6 (chk x4 6 (chk (Int.tmod (w64 (x3 + x4)) 3) 6 (some (.next ((upd y8 (x3.toNat * 36 + x4.toNat * 6 + (Int.tmod (w64 (x3 + x4)) 3).toNat) (1 : UInt8)), (w64 (x4 + 1))))))) else some (.brk (y8, x4)))

def spec_l01Named.b1 : (Nat → UInt8) × Int → Option (LB ((Nat → UInt8) × Int)) := fun p => match p with | (y7, x3) => (bif (decide (x3 < 3)) then (loop1 (spec_l01Named.b0 x3) (y7, 0)).bind (fun p => match p with | (y8, x4) => some (.next (y8, (w64 (x3 + 1))))) else some (.brk (y7, x3)))

def spec_l01Named.b2 (x5 : Int) : (Nat → UInt8) × Int → Option (LB ((Nat → UInt8) × Int)) := fun p => match p with | (y10, x6) => (bif (decide (x6 < 6)) then (G.spec_l01Permuted.f x5 x6).bind (fun r_1 => chk x5 6 (chk x6 6 (chk r_1 6 (some (.next ((upd y10 (x5.toNat * 36 + x6.toNat * 6 + r_1.toNat) (1 : UInt8)), (w64 (x6 + 1)))))))) else some (.brk (y10, x6)))

def spec_l01Named.b3 : (Nat → UInt8) × Int → Option (LB ((Nat → UInt8) × Int)) := fun p => match p with | (y9, x5) => (bif (decide (x5 < 6)) then (loop1 (spec_l01Named.b2 x5) (y9, 0)).bind (fun p => match p with | (y10, x6) => some (.next (y10, (w64 (x5 + 1))))) else some (.brk (y9, x5)))

def spec_l01Named.b4 (x7 : Int) : (Nat → UInt8) × Int → Option (LB ((Nat → UInt8) × Int)) := fun p => match p with | (y12, x8) => (bif (decide (x8 < 4)) then ((bif ((Int.tmod x7 2) == (w64 (Int.tdiv x8 2))) then chk x7 6 (chk x8 6 (chk (w64 ((w64 ((w64 (Int.tdiv x7 2)) * 2)) + (Int.tmod x8 2))) 6 (some (upd y12 (x7.toNat * 36 + x8.toNat * 6 + (w64 ((w64 ((w64 (Int.tdiv x7 2)) * 2)) + (Int.tmod x8 2))).toNat) (1 : UInt8))))) else some y12)).bind (fun y13 => some (.next (y13, (w64 (x8 + 1))))) else some (.brk (y12, x8)))

def spec_l01Named.b5 : (Nat → UInt8) × Int → Option (LB ((Nat → UInt8) × Int)) := fun p => match p with | (y11, x7) => (bif (decide (x7 < 4)) then (loop1 (spec_l01Named.b4 x7) (y11, 0)).bind (fun p => match p with | (y12, x8) => some (.next (y12, (w64 (x7 + 1))))) else some (.brk (y11, x7)))

def spec_l01Named.f (x1 : Str) (x2 : Int) : Option (Int × Int × (Nat → UInt8) × (Nat → UInt8) × Bool) := ((bif (x1 == ([102, 105, 101, 108, 100] : Str)) then some (.inl (1, (upd (fun _ => (0 : UInt8)) 0 (1 : UInt8)), (upd (fun _ => (0 : UInt8)) 0 (1 : UInt8)))) else (bif (x1 == ([100, 117, 97, 108] : Str)) then some (.inl (2, (upd (upd (upd (fun _ => (0 : UInt8)) 0 (1 : UInt8)) 7 (1 : UInt8)) 37 (1 : UInt8)), (upd (fun _ => (0 : UInt8)) 1 (1 : UInt8)))) else (bif (x1 == ([112, 97, 105, 114] : Str)) then some (.inl (2, (upd (upd (fun _ => (0 : UInt8)) 0 (1 : UInt8)) 43 (1 : UInt8)), (upd (upd (fun _ => (0 : UInt8)) 0 (1 : UInt8)) 1 (1 : UInt8)))) else (bif (x1 == ([99, 121, 99, 108, 105, 99, 51] : Str)) then (loop1 (spec_l01Named.b1) ((fun _ => (0 : UInt8)), 0)).bind (fun p => match p with | (y7, x3) => some (.inl (3, y7, (upd (fun _ => (0 : UInt8)) 0 (1 : UInt8))))) else (bif (x1 == ([115, 121, 109, 109, 101, 116, 114, 105, 99] : Str)) then (loop1 (spec_l01Named.b3) ((fun _ => (0 : UInt8)), 0)).bind (fun p => match p with | (y9, x5) => some (.inl (6, y9, (upd (fun _ => (0 : UInt8)) 0 (1 : UInt8))))) else (bif (x1 == ([109, 97, 116, 114, 105, 120] : Str)) then (loop1 (spec_l01Named.b5) ((fun _ => (0 : UInt8)), 0)).bind (fun p => match p with | (y11, x7) => some (.inl (4, y11, (upd (upd (upd (upd (fun _ => (0 : UInt8)) 0 (1 : UInt8)) 1 (0 : UInt8)) 2 (0 : UInt8)) 3 (1 : UInt8))))) else some (.inr ((0, 0, (fun _ => (0 : UInt8)), (fun _ => (0 : UInt8)), false)))))))))).bind (jn (fun p => match p with | (y4, y5, y6) => some (x2, y4, y5, y6, true)))

def spec_l01Named.R (r : Int × Int × (Nat → UInt8) × (Nat → UInt8) × Bool) (v : Value) (L : List Asn) : Prop := v = .tuple #[sval [.one (.int .i64 r.1), .one (.int .i64 r.2.1), .arr 216 (enf u8v r.2.2.1), .arr 6 (enf u8v r.2.2.2.1)], .bool r.2.2.2.2] ∧ L = []

set_option maxRecDepth 100000 in
set_option maxHeartbeats 4000000 in
theorem spec_l01Named.calls (w : World) (x1 : Str) (x2 : Int) :
    ∀ r, spec_l01Named.f x1 x2 = some r → Calls Try.prog 95 #[strv x1, .int .i64 x2] w (Ret w (spec_l01Named.R r)) := by

  refine calls_T (n := 132) (Γ := [(0, strv x1), (1, .int .i64 x2)]) (R := spec_l01Named.R) Try.func95 rfl rfl (Nat.le_of_ble_eq_true rfl) ⟨rfl, rfl, trivial⟩ ?_
  unfold spec_l01Named.f
  refine TC.seq ?_
  refine TC.region ?_
  refine TL.alloc [.one (.int .i64 0), .one (.int .i64 0), .arr 216 (enf u8v (fun _ => (0 : UInt8))), .arr 6 (enf u8v (fun _ => (0 : UInt8)))] rfl rfl Try.zeroValue60 rfl fun b_1 => ?_
  refine TL.assign rfl rfl (v := .bool false) rfl ?_
  refine TL.done ?_
  refine TC.seq ?_
  refine TC.region ?_
  refine TL.move rfl rfl (v := .int .i64 x2) rfl ?_
  refine TL.buildS (segs0 := [.one (.int .i64 0), .one (.int .i64 0), .arr 216 (enf u8v (fun _ => (0 : UInt8))), .arr 6 (enf u8v (fun _ => (0 : UInt8)))]) (segs := [.one (.int .i64 x2), .one (.int .i64 0), .arr 216 (enf u8v (fun _ => (0 : UInt8))), .arr 6 (enf u8v (fun _ => (0 : UInt8)))]) [1, 1, 216, 6] Try.underlying60 ⟨Try.sizeOf2, Try.sizeOf2, Try.sizeOf57, Try.sizeOf58, trivial⟩ Try.zeroValue60 rfl [(0, .int .i64 x2)] rfl (fun pl hpl => by subst hpl; exact fill_one 0 rfl rfl rfl rfl (rfl)) rfl rfl ?_
  refine TL.alloc [.one (.int .i64 0), .one (.int .i64 0), .arr 216 (enf u8v (fun _ => (0 : UInt8))), .arr 6 (enf u8v (fun _ => (0 : UInt8)))] rfl rfl Try.zeroValue60 rfl fun b_2 => ?_
  refine TL.stM (news := [.one (.int .i64 x2), .one (.int .i64 0), .arr 216 (enf u8v (fun _ => (0 : UInt8))), .arr 6 (enf u8v (fun _ => (0 : UInt8)))]) 0 0 4 rfl Try.sizeOf60 (ones_one rfl (ones_one rfl (ones_arr (fun _ => rfl) (ones_arr (fun _ => rfl) ones_nil)))) rfl rfl rfl rfl rfl rfl ?_
  refine TL.done ?_
  refine TC.seq ?_
  refine TC.seq ?_
  refine TC.region ?_
  refine TL.move rfl rfl (v := strv x1) rfl ?_
  refine TL.done ?_
  refine TC.block NoEx.body ?_
  refine TC.seq ?_
  refine TC.region ?_
  refine TL.strEq x1 ([102, 105, 101, 108, 100] : Str) rfl rfl rfl rfl ?_
  refine TL.assign rfl rfl (v := .bool (x1 == ([102, 105, 101, 108, 100] : Str))) rfl ?_
  refine TL.done ?_
  refine TC.join (σ := Int × (Nat → UInt8) × (Nat → UInt8)) (γ := Unit) (Γ' := (fun p q => match p, q with | (y4, y5, y6), _ => [(4, bp b_1 0), (6, bp b_2 0)])) (L' := (fun p q => match p, q with | (y4, y5, y6), _ => [box b_1 60 [.one (.int .i64 0), .one (.int .i64 0), .arr 216 (enf u8v (fun _ => (0 : UInt8))), .arr 6 (enf u8v (fun _ => (0 : UInt8)))], box b_2 60 [.one (.int .i64 x2), .one (.int .i64 y4), .arr 216 (enf u8v y5), .arr 6 (enf u8v y6)]])) ?_ ?_
  · refine TC.cond (b := (x1 == ([102, 105, 101, 108, 100] : Str))) rfl (fun c1 => ?_) (fun c2 => ?_)
    · refine TC.seq ?_
      refine TC.region ?_
      refine TL.fa Try.underlying60 rfl Try.sizeOf2 rfl 1 rfl rfl rfl rfl ?_
      refine TL.st1 0 1 rfl Try.sizeOf2 rfl rfl rfl rfl rfl rfl rfl ?_
      refine TL.done ?_
      refine TC.seq ?_
      refine TC.region ?_
      refine TL.fa Try.underlying60 rfl Try.sizeOf58 rfl 218 rfl rfl rfl rfl ?_
      refine TL.ixa 0 218 (by decide) Try.underlying58 Try.sizeOf5 rfl rfl rfl rfl rfl ?_
      refine TL.stA (e := u8v) (z := (1 : UInt8)) 0 3 0 rfl Try.sizeOf5 rfl (by omega) (s := 218) rfl rfl rfl rfl rfl rfl rfl ?_
      refine TL.done ?_
      refine TC.region ?_
      refine TL.fa Try.underlying60 rfl Try.sizeOf57 rfl 2 rfl rfl rfl rfl ?_
      refine TL.ixa 0 2 (by decide) Try.underlying57 Try.sizeOf56 rfl rfl rfl rfl rfl ?_
      refine TL.ixa 0 2 (by decide) Try.underlying56 Try.sizeOf55 rfl rfl rfl rfl rfl ?_
      refine TL.ixa 0 2 (by decide) Try.underlying55 Try.sizeOf5 rfl rfl rfl rfl rfl ?_
      refine TL.stA (e := u8v) (z := (1 : UInt8)) 0 2 0 rfl Try.sizeOf5 rfl (by omega) (s := 2) rfl rfl rfl rfl rfl rfl rfl ?_
      refine TL.done ?_
      exact TC.inl ((1, (upd (fun _ => (0 : UInt8)) 0 (1 : UInt8)), (upd (fun _ => (0 : UInt8)) 0 (1 : UInt8)))) (()) ⟨rfl, rfl, trivial⟩ [1, 0] rfl
    · refine TC.seq ?_
      refine TC.region ?_
      refine TL.strEq x1 ([100, 117, 97, 108] : Str) rfl rfl rfl rfl ?_
      refine TL.assign rfl rfl (v := .bool (x1 == ([100, 117, 97, 108] : Str))) rfl ?_
      refine TL.done ?_
      refine TC.cond (b := (x1 == ([100, 117, 97, 108] : Str))) rfl (fun c3 => ?_) (fun c4 => ?_)
      · refine TC.seq ?_
        refine TC.region ?_
        refine TL.fa Try.underlying60 rfl Try.sizeOf2 rfl 1 rfl rfl rfl rfl ?_
        refine TL.st1 0 1 rfl Try.sizeOf2 rfl rfl rfl rfl rfl rfl rfl ?_
        refine TL.done ?_
        refine TC.seq ?_
        refine TC.region ?_
        refine TL.fa Try.underlying60 rfl Try.sizeOf58 rfl 218 rfl rfl rfl rfl ?_
        refine TL.ixa 1 219 (by decide) Try.underlying58 Try.sizeOf5 rfl rfl rfl rfl rfl ?_
        refine TL.stA (e := u8v) (z := (1 : UInt8)) 0 3 1 rfl Try.sizeOf5 rfl (by omega) (s := 218) rfl rfl rfl rfl rfl rfl rfl ?_
        refine TL.done ?_
        refine TC.seq ?_
        refine TC.region ?_
        refine TL.fa Try.underlying60 rfl Try.sizeOf57 rfl 2 rfl rfl rfl rfl ?_
        refine TL.ixa 0 2 (by decide) Try.underlying57 Try.sizeOf56 rfl rfl rfl rfl rfl ?_
        refine TL.ixa 0 2 (by decide) Try.underlying56 Try.sizeOf55 rfl rfl rfl rfl rfl ?_
        refine TL.ixa 0 2 (by decide) Try.underlying55 Try.sizeOf5 rfl rfl rfl rfl rfl ?_
        refine TL.stA (e := u8v) (z := (1 : UInt8)) 0 2 0 rfl Try.sizeOf5 rfl (by omega) (s := 2) rfl rfl rfl rfl rfl rfl rfl ?_
        refine TL.done ?_
        refine TC.seq ?_
        refine TC.region ?_
        refine TL.fa Try.underlying60 rfl Try.sizeOf57 rfl 2 rfl rfl rfl rfl ?_
        refine TL.ixa 0 2 (by decide) Try.underlying57 Try.sizeOf56 rfl rfl rfl rfl rfl ?_
        refine TL.ixa 1 8 (by decide) Try.underlying56 Try.sizeOf55 rfl rfl rfl rfl rfl ?_
        refine TL.ixa 1 9 (by decide) Try.underlying55 Try.sizeOf5 rfl rfl rfl rfl rfl ?_
        refine TL.stA (e := u8v) (z := (1 : UInt8)) 0 2 7 rfl Try.sizeOf5 rfl (by omega) (s := 2) rfl rfl rfl rfl rfl rfl rfl ?_
        refine TL.done ?_
        refine TC.region ?_
        refine TL.fa Try.underlying60 rfl Try.sizeOf57 rfl 2 rfl rfl rfl rfl ?_
        refine TL.ixa 1 38 (by decide) Try.underlying57 Try.sizeOf56 rfl rfl rfl rfl rfl ?_
        refine TL.ixa 0 38 (by decide) Try.underlying56 Try.sizeOf55 rfl rfl rfl rfl rfl ?_
        refine TL.ixa 1 39 (by decide) Try.underlying55 Try.sizeOf5 rfl rfl rfl rfl rfl ?_
        refine TL.stA (e := u8v) (z := (1 : UInt8)) 0 2 37 rfl Try.sizeOf5 rfl (by omega) (s := 2) rfl rfl rfl rfl rfl rfl rfl ?_
        refine TL.done ?_
        exact TC.inl ((2, (upd (upd (upd (fun _ => (0 : UInt8)) 0 (1 : UInt8)) 7 (1 : UInt8)) 37 (1 : UInt8)), (upd (fun _ => (0 : UInt8)) 1 (1 : UInt8)))) (()) ⟨rfl, rfl, trivial⟩ [1, 0] rfl
      · refine TC.seq ?_
        refine TC.region ?_
        refine TL.strEq x1 ([112, 97, 105, 114] : Str) rfl rfl rfl rfl ?_
        refine TL.assign rfl rfl (v := .bool (x1 == ([112, 97, 105, 114] : Str))) rfl ?_
        refine TL.done ?_
        refine TC.cond (b := (x1 == ([112, 97, 105, 114] : Str))) rfl (fun c5 => ?_) (fun c6 => ?_)
        · refine TC.seq ?_
          refine TC.region ?_
          refine TL.fa Try.underlying60 rfl Try.sizeOf2 rfl 1 rfl rfl rfl rfl ?_
          refine TL.st1 0 1 rfl Try.sizeOf2 rfl rfl rfl rfl rfl rfl rfl ?_
          refine TL.done ?_
          refine TC.seq ?_
          refine TC.region ?_
          refine TL.buildA (segs0 := [.arr 6 (enf u8v (fun _ => (0 : UInt8)))]) (segs := [.arr 6 (enf u8v (upd (upd (fun _ => (0 : UInt8)) 0 (1 : UInt8)) 1 (1 : UInt8)))]) Try.underlying58 Try.sizeOf5 Try.zeroValue58 rfl [(0, u8v (1 : UInt8)), (1, u8v (1 : UInt8))] rfl (fill_arr (e := u8v) (z := (1 : UInt8)) (q := 0) (s := 0) 0 rfl rfl rfl rfl rfl rfl (fill_arr (e := u8v) (z := (1 : UInt8)) (q := 1) (s := 0) 0 rfl rfl rfl rfl rfl rfl (rfl))) rfl rfl ?_
          refine TL.fa Try.underlying60 rfl Try.sizeOf58 rfl 218 rfl rfl rfl rfl ?_
          refine TL.stM (news := [.arr 6 (enf u8v (upd (upd (fun _ => (0 : UInt8)) 0 (1 : UInt8)) 1 (1 : UInt8)))]) 0 3 1 rfl Try.sizeOf58 (ones_arr (fun _ => rfl) ones_nil) rfl rfl rfl rfl rfl rfl ?_
          refine TL.done ?_
          refine TC.seq ?_
          refine TC.region ?_
          refine TL.fa Try.underlying60 rfl Try.sizeOf57 rfl 2 rfl rfl rfl rfl ?_
          refine TL.ixa 0 2 (by decide) Try.underlying57 Try.sizeOf56 rfl rfl rfl rfl rfl ?_
          refine TL.ixa 0 2 (by decide) Try.underlying56 Try.sizeOf55 rfl rfl rfl rfl rfl ?_
          refine TL.ixa 0 2 (by decide) Try.underlying55 Try.sizeOf5 rfl rfl rfl rfl rfl ?_
          refine TL.stA (e := u8v) (z := (1 : UInt8)) 0 2 0 rfl Try.sizeOf5 rfl (by omega) (s := 2) rfl rfl rfl rfl rfl rfl rfl ?_
          refine TL.done ?_
          refine TC.region ?_
          refine TL.fa Try.underlying60 rfl Try.sizeOf57 rfl 2 rfl rfl rfl rfl ?_
          refine TL.ixa 1 38 (by decide) Try.underlying57 Try.sizeOf56 rfl rfl rfl rfl rfl ?_
          refine TL.ixa 1 44 (by decide) Try.underlying56 Try.sizeOf55 rfl rfl rfl rfl rfl ?_
          refine TL.ixa 1 45 (by decide) Try.underlying55 Try.sizeOf5 rfl rfl rfl rfl rfl ?_
          refine TL.stA (e := u8v) (z := (1 : UInt8)) 0 2 43 rfl Try.sizeOf5 rfl (by omega) (s := 2) rfl rfl rfl rfl rfl rfl rfl ?_
          refine TL.done ?_
          exact TC.inl ((2, (upd (upd (fun _ => (0 : UInt8)) 0 (1 : UInt8)) 43 (1 : UInt8)), (upd (upd (fun _ => (0 : UInt8)) 0 (1 : UInt8)) 1 (1 : UInt8)))) (()) ⟨rfl, rfl, trivial⟩ [1, 0] rfl
        · refine TC.seq ?_
          refine TC.region ?_
          refine TL.strEq x1 ([99, 121, 99, 108, 105, 99, 51] : Str) rfl rfl rfl rfl ?_
          refine TL.assign rfl rfl (v := .bool (x1 == ([99, 121, 99, 108, 105, 99, 51] : Str))) rfl ?_
          refine TL.done ?_
          refine TC.cond (b := (x1 == ([99, 121, 99, 108, 105, 99, 51] : Str))) rfl (fun c7 => ?_) (fun c8 => ?_)
          · refine TC.seq ?_
            refine TC.region ?_
            refine TL.fa Try.underlying60 rfl Try.sizeOf2 rfl 1 rfl rfl rfl rfl ?_
            refine TL.st1 0 1 rfl Try.sizeOf2 rfl rfl rfl rfl rfl rfl rfl ?_
            refine TL.done ?_
            refine TC.seq ?_
            refine TC.region ?_
            refine TL.fa Try.underlying60 rfl Try.sizeOf58 rfl 218 rfl rfl rfl rfl ?_
            refine TL.ixa 0 218 (by decide) Try.underlying58 Try.sizeOf5 rfl rfl rfl rfl rfl ?_
            refine TL.stA (e := u8v) (z := (1 : UInt8)) 0 3 0 rfl Try.sizeOf5 rfl (by omega) (s := 218) rfl rfl rfl rfl rfl rfl rfl ?_
            refine TL.done ?_
            refine TC.seq ?_
            refine TC.region ?_
            refine TL.assign rfl rfl (v := .int .i64 0) rfl ?_
            refine TL.done ?_
            refine TC.loop1 (σ := (Nat → UInt8) × Int) (γ := Unit) (Γ' := (fun p q => match p, q with | (y7, x3), _ => [(4, bp b_1 0), (6, bp b_2 0), (7, .int .i64 x3)])) (L' := (fun p q => match p, q with | (y7, x3), _ => [box b_1 60 [.one (.int .i64 0), .one (.int .i64 0), .arr 216 (enf u8v (fun _ => (0 : UInt8))), .arr 6 (enf u8v (fun _ => (0 : UInt8)))], box b_2 60 [.one (.int .i64 x2), .one (.int .i64 3), .arr 216 (enf u8v y7), .arr 6 (enf u8v (upd (fun _ => (0 : UInt8)) 0 (1 : UInt8)))]])) (Γb := (fun p q => match p, q with | (y7, x3), _ => [(4, bp b_1 0), (6, bp b_2 0), (7, .int .i64 x3)])) (Lb := (fun p q => match p, q with | (y7, x3), _ => [box b_1 60 [.one (.int .i64 0), .one (.int .i64 0), .arr 216 (enf u8v (fun _ => (0 : UInt8))), .arr 6 (enf u8v (fun _ => (0 : UInt8)))], box b_2 60 [.one (.int .i64 x2), .one (.int .i64 3), .arr 216 (enf u8v y7), .arr 6 (enf u8v (upd (fun _ => (0 : UInt8)) 0 (1 : UInt8)))]])) (((fun _ => (0 : UInt8)), 0)) (()) ⟨rfl, rfl, rfl, trivial⟩ [1, 0] rfl ?_ ?_
            · rintro ⟨y7, x3⟩ _
              refine TC.seq ?_
              refine TC.seq ?_
              refine TC.region ?_
              refine TL.move rfl rfl (v := .int .i64 x3) rfl ?_
              refine TL.bin .i64 x3 3 rfl rfl rfl rfl (v := .bool (decide (x3 < 3))) rfl ?_
              refine TL.done ?_
              refine TC.cond (b := (decide (x3 < 3))) rfl (fun c9 => ?_) (fun c10 => ?_)
              · refine TC.skip ?_
                refine TC.seq ?_
                refine TC.block (NoEx.loop1 rfl) ?_
                refine TC.seq ?_
                refine TC.region ?_
                refine TL.assign rfl rfl (v := .int .i64 0) rfl ?_
                refine TL.done ?_
                refine TC.loop1 (σ := (Nat → UInt8) × Int) (γ := Unit) (Γ' := (fun p q => match p, q with | (y8, x4), _ => [(4, bp b_1 0), (6, bp b_2 0), (7, .int .i64 x3), (8, .int .i64 x4)])) (L' := (fun p q => match p, q with | (y8, x4), _ => [box b_1 60 [.one (.int .i64 0), .one (.int .i64 0), .arr 216 (enf u8v (fun _ => (0 : UInt8))), .arr 6 (enf u8v (fun _ => (0 : UInt8)))], box b_2 60 [.one (.int .i64 x2), .one (.int .i64 3), .arr 216 (enf u8v y8), .arr 6 (enf u8v (upd (fun _ => (0 : UInt8)) 0 (1 : UInt8)))]])) (Γb := (fun p q => match p, q with | (y8, x4), _ => [(4, bp b_1 0), (6, bp b_2 0), (7, .int .i64 x3), (8, .int .i64 x4)])) (Lb := (fun p q => match p, q with | (y8, x4), _ => [box b_1 60 [.one (.int .i64 0), .one (.int .i64 0), .arr 216 (enf u8v (fun _ => (0 : UInt8))), .arr 6 (enf u8v (fun _ => (0 : UInt8)))], box b_2 60 [.one (.int .i64 x2), .one (.int .i64 3), .arr 216 (enf u8v y8), .arr 6 (enf u8v (upd (fun _ => (0 : UInt8)) 0 (1 : UInt8)))]])) ((y7, 0)) (()) ⟨rfl, rfl, rfl, rfl, trivial⟩ [0, 0] rfl ?_ ?_
                · rintro ⟨y8, x4⟩ _
                  refine TC.seq ?_
                  refine TC.seq ?_
                  refine TC.region ?_
                  refine TL.move rfl rfl (v := .int .i64 x4) rfl ?_
                  refine TL.bin .i64 x4 3 rfl rfl rfl rfl (v := .bool (decide (x4 < 3))) rfl ?_
                  refine TL.done ?_
                  refine TC.cond (b := (decide (x4 < 3))) rfl (fun c11 => ?_) (fun c12 => ?_)
                  · refine TC.skip ?_
                    refine TC.seq ?_
                    refine TC.block (NoEx.loop1 rfl) ?_
                    refine TC.region ?_
                    refine TL.move rfl rfl (v := .int .i64 x3) rfl ?_
                    refine TL.move rfl rfl (v := .int .i64 x4) rfl ?_
                    refine TL.move rfl rfl (v := .int .i64 x3) rfl ?_
                    refine TL.move rfl rfl (v := .int .i64 x4) rfl ?_
                    refine TL.bin .i64 x3 x4 rfl rfl rfl rfl (v := .int .i64 (w64 (x3 + x4))) rfl ?_
                    refine TL.rem .i64 (w64 (x3 + x4)) 3 (by decide) rfl rfl rfl rfl ?_
                    refine TL.fa Try.underlying60 rfl Try.sizeOf57 rfl 2 rfl rfl rfl rfl ?_
                    refine TL.chk fun h1 => ?_
                    refine TL.ixa x3 (2 + x3.toNat * 36) h1 Try.underlying57 Try.sizeOf56 rfl rfl rfl rfl (by omega) ?_
                    refine TL.chk fun h2 => ?_
                    refine TL.ixa x4 (2 + (x3.toNat * 36 + x4.toNat * 6)) h2 Try.underlying56 Try.sizeOf55 rfl rfl rfl rfl (by omega) ?_
                    refine TL.chk fun h3 => ?_
                    refine TL.ixa (Int.tmod (w64 (x3 + x4)) 3) (2 + (x3.toNat * 36 + x4.toNat * 6 + (Int.tmod (w64 (x3 + x4)) 3).toNat)) h3 Try.underlying55 Try.sizeOf5 rfl rfl rfl rfl (by omega) ?_
                    refine TL.stA (e := u8v) (z := (1 : UInt8)) 1 2 (x3.toNat * 36 + x4.toNat * 6 + (Int.tmod (w64 (x3 + x4)) 3).toNat) rfl Try.sizeOf5 rfl (by omega) (s := 2) rfl (by omega) rfl rfl rfl rfl rfl ?_
                    refine TL.done ?_
                    refine TC.region ?_
                    refine TL.move rfl rfl (v := .int .i64 x4) rfl ?_
                    refine TL.bin .i64 x4 1 rfl rfl rfl rfl (v := .int .i64 (w64 (x4 + 1))) rfl ?_
                    refine TL.assign rfl rfl (v := .int .i64 (w64 (x4 + 1))) rfl ?_
                    refine TL.done ?_
                    exact TC.next1 (((upd y8 (x3.toNat * 36 + x4.toNat * 6 + (Int.tmod (w64 (x3 + x4)) 3).toNat) (1 : UInt8)), (w64 (x4 + 1)))) (()) ⟨rfl, rfl, rfl, rfl, trivial⟩ [0, 0] rfl
                  · exact TC.brk1 ((y8, x4)) (()) ⟨rfl, rfl, rfl, rfl, trivial⟩ [0, 0] rfl
                · rintro ⟨y8, x4⟩ _
                  refine TC.region ?_
                  refine TL.move rfl rfl (v := .int .i64 x3) rfl ?_
                  refine TL.bin .i64 x3 1 rfl rfl rfl rfl (v := .int .i64 (w64 (x3 + 1))) rfl ?_
                  refine TL.assign rfl rfl (v := .int .i64 (w64 (x3 + 1))) rfl ?_
                  refine TL.done ?_
                  exact TC.next1 ((y8, (w64 (x3 + 1)))) (()) ⟨rfl, rfl, rfl, trivial⟩ [0, 0] rfl
              · exact TC.brk1 ((y7, x3)) (()) ⟨rfl, rfl, rfl, trivial⟩ [0, 0] rfl
            · rintro ⟨y7, x3⟩ _
              exact TC.inl ((3, y7, (upd (fun _ => (0 : UInt8)) 0 (1 : UInt8)))) (()) ⟨rfl, rfl, trivial⟩ [0, 0] rfl
          · refine TC.seq ?_
            refine TC.region ?_
            refine TL.strEq x1 ([115, 121, 109, 109, 101, 116, 114, 105, 99] : Str) rfl rfl rfl rfl ?_
            refine TL.assign rfl rfl (v := .bool (x1 == ([115, 121, 109, 109, 101, 116, 114, 105, 99] : Str))) rfl ?_
            refine TL.done ?_
            refine TC.cond (b := (x1 == ([115, 121, 109, 109, 101, 116, 114, 105, 99] : Str))) rfl (fun c13 => ?_) (fun c14 => ?_)
            · refine TC.seq ?_
              refine TC.region ?_
              refine TL.fa Try.underlying60 rfl Try.sizeOf2 rfl 1 rfl rfl rfl rfl ?_
              refine TL.st1 0 1 rfl Try.sizeOf2 rfl rfl rfl rfl rfl rfl rfl ?_
              refine TL.done ?_
              refine TC.seq ?_
              refine TC.region ?_
              refine TL.fa Try.underlying60 rfl Try.sizeOf58 rfl 218 rfl rfl rfl rfl ?_
              refine TL.ixa 0 218 (by decide) Try.underlying58 Try.sizeOf5 rfl rfl rfl rfl rfl ?_
              refine TL.stA (e := u8v) (z := (1 : UInt8)) 0 3 0 rfl Try.sizeOf5 rfl (by omega) (s := 218) rfl rfl rfl rfl rfl rfl rfl ?_
              refine TL.done ?_
              refine TC.seq ?_
              refine TC.region ?_
              refine TL.assign rfl rfl (v := .int .i64 0) rfl ?_
              refine TL.done ?_
              refine TC.loop1 (σ := (Nat → UInt8) × Int) (γ := Unit) (Γ' := (fun p q => match p, q with | (y9, x5), _ => [(4, bp b_1 0), (6, bp b_2 0), (9, .int .i64 x5)])) (L' := (fun p q => match p, q with | (y9, x5), _ => [box b_1 60 [.one (.int .i64 0), .one (.int .i64 0), .arr 216 (enf u8v (fun _ => (0 : UInt8))), .arr 6 (enf u8v (fun _ => (0 : UInt8)))], box b_2 60 [.one (.int .i64 x2), .one (.int .i64 6), .arr 216 (enf u8v y9), .arr 6 (enf u8v (upd (fun _ => (0 : UInt8)) 0 (1 : UInt8)))]])) (Γb := (fun p q => match p, q with | (y9, x5), _ => [(4, bp b_1 0), (6, bp b_2 0), (9, .int .i64 x5)])) (Lb := (fun p q => match p, q with | (y9, x5), _ => [box b_1 60 [.one (.int .i64 0), .one (.int .i64 0), .arr 216 (enf u8v (fun _ => (0 : UInt8))), .arr 6 (enf u8v (fun _ => (0 : UInt8)))], box b_2 60 [.one (.int .i64 x2), .one (.int .i64 6), .arr 216 (enf u8v y9), .arr 6 (enf u8v (upd (fun _ => (0 : UInt8)) 0 (1 : UInt8)))]])) (((fun _ => (0 : UInt8)), 0)) (()) ⟨rfl, rfl, rfl, trivial⟩ [1, 0] rfl ?_ ?_
              · rintro ⟨y9, x5⟩ _
                refine TC.seq ?_
                refine TC.seq ?_
                refine TC.region ?_
                refine TL.move rfl rfl (v := .int .i64 x5) rfl ?_
                refine TL.bin .i64 x5 6 rfl rfl rfl rfl (v := .bool (decide (x5 < 6))) rfl ?_
                refine TL.done ?_
                refine TC.cond (b := (decide (x5 < 6))) rfl (fun c15 => ?_) (fun c16 => ?_)
                · refine TC.skip ?_
                  refine TC.seq ?_
                  refine TC.block (NoEx.loop1 rfl) ?_
                  refine TC.seq ?_
                  refine TC.region ?_
                  refine TL.assign rfl rfl (v := .int .i64 0) rfl ?_
                  refine TL.done ?_
                  refine TC.loop1 (σ := (Nat → UInt8) × Int) (γ := Unit) (Γ' := (fun p q => match p, q with | (y10, x6), _ => [(4, bp b_1 0), (6, bp b_2 0), (9, .int .i64 x5), (10, .int .i64 x6)])) (L' := (fun p q => match p, q with | (y10, x6), _ => [box b_1 60 [.one (.int .i64 0), .one (.int .i64 0), .arr 216 (enf u8v (fun _ => (0 : UInt8))), .arr 6 (enf u8v (fun _ => (0 : UInt8)))], box b_2 60 [.one (.int .i64 x2), .one (.int .i64 6), .arr 216 (enf u8v y10), .arr 6 (enf u8v (upd (fun _ => (0 : UInt8)) 0 (1 : UInt8)))]])) (Γb := (fun p q => match p, q with | (y10, x6), _ => [(4, bp b_1 0), (6, bp b_2 0), (9, .int .i64 x5), (10, .int .i64 x6)])) (Lb := (fun p q => match p, q with | (y10, x6), _ => [box b_1 60 [.one (.int .i64 0), .one (.int .i64 0), .arr 216 (enf u8v (fun _ => (0 : UInt8))), .arr 6 (enf u8v (fun _ => (0 : UInt8)))], box b_2 60 [.one (.int .i64 x2), .one (.int .i64 6), .arr 216 (enf u8v y10), .arr 6 (enf u8v (upd (fun _ => (0 : UInt8)) 0 (1 : UInt8)))]])) ((y9, 0)) (()) ⟨rfl, rfl, rfl, rfl, trivial⟩ [0, 0] rfl ?_ ?_
                  · rintro ⟨y10, x6⟩ _
                    refine TC.seq ?_
                    refine TC.seq ?_
                    refine TC.region ?_
                    refine TL.move rfl rfl (v := .int .i64 x6) rfl ?_
                    refine TL.bin .i64 x6 6 rfl rfl rfl rfl (v := .bool (decide (x6 < 6))) rfl ?_
                    refine TL.done ?_
                    refine TC.cond (b := (decide (x6 < 6))) rfl (fun c17 => ?_) (fun c18 => ?_)
                    · refine TC.skip ?_
                      refine TC.seq ?_
                      refine TC.block (NoEx.loop1 rfl) ?_
                      refine TC.wk (Γ' := [(4, bp b_1 0), (6, bp b_2 0), (9, .int .i64 x5), (10, .int .i64 x6), (88, .int .i64 x6), (89, .bool (decide (x6 < 6)))]) ⟨rfl, rfl, rfl, rfl, rfl, rfl, trivial⟩ ?_
                      refine TC.bindE ?_
                      rintro r_1 hr1
                      refine TC.chk fun h4 => ?_
                      refine TC.chk fun h5 => ?_
                      refine TC.chk fun h6 => ?_
                      refine TC.drawG [(4, bp b_1 0), (6, bp b_2 0), (9, .int .i64 x5), (10, .int .i64 x6), (88, .int .i64 x6), (89, .bool (decide (x6 < 6)))] [] ⟨rfl, rfl, rfl, rfl, rfl, rfl, trivial⟩ trivial (fun l_ g1 => [box b_1 60 [.one (.int .i64 0), .one (.int .i64 0), .arr 216 (enf u8v (fun _ => (0 : UInt8))), .arr 6 (enf u8v (fun _ => (0 : UInt8)))], (bif nb l_ 9 then box b_2 60 [.one (.int .i64 x2), .one (.int .i64 6), .arr 216 (enf u8v (upd y10 (x5.toNat * 36 + x6.toNat * 6 + r_1.toNat) (1 : UInt8))), .arr 6 (enf u8v (upd (fun _ => (0 : UInt8)) 0 (1 : UInt8)))] else box b_2 60 [.one (.int .i64 x2), .one (.int .i64 6), .arr 216 (enf u8v y10), .arr 6 (enf u8v (upd (fun _ => (0 : UInt8)) 0 (1 : UInt8)))])]) (fun g1 => [.int .i64 x5, .int .i64 x6, .int .i64 x5, .int .i64 x6, .int .i64 r_1, bp b_2 2, bp b_2 (2 + x5.toNat * 36), bp b_2 (2 + (x5.toNat * 36 + x6.toNat * 6)), bp b_2 (2 + (x5.toNat * 36 + x6.toNat * 6 + r_1.toNat)), undef]) [[], [], [], [], [2, 3], [], [0, 5], [0, 1, 5, 6], [0, 1, 2, 3, 4, 5, 6, 7], [0, 1, 2, 3, 4, 5, 6, 7, 8]] [[some false, none, none, none, none, none, some false, some false, some false, some false], [none, some false, none, none, none, none, none, some false, some false, some false], [none, none, some false, none, some false, none, none, none, some false, some false], [none, none, none, some false, some false, none, none, none, some false, some false], [none, none, some true, some true, some false, none, none, none, some false, some false], [none, none, none, none, none, some false, some false, some false, some false, some false], [some true, none, none, none, none, some true, some false, some false, some false, some false], [some true, some true, none, none, none, some true, some true, some false, some false, some false], [some true, some true, some true, some true, some true, some true, some true, some true, some false, some false], [some true, some true, some true, some true, some true, some true, some true, some true, some true, some false]] (by kernel_rfl) (fun _ => rfl) rfl rfl rfl rfl rfl (fun _ _ => ⟨⟨⟨⟨⟨⟨⟨⟨⟨⟨trivial, rfl⟩, rfl⟩, rfl⟩, rfl⟩, rfl⟩, rfl⟩, rfl⟩, rfl⟩, rfl⟩, rfl⟩) 0 [0, 0] (fun _ => by kernel_rfl) ?_ ?_
                      · refine ⟨rfl, ?_, rfl, ?_, rfl, ?_, rfl, ?_, rfl, ?_, rfl, ?_, rfl, ?_, rfl, ?_, rfl, ?_, rfl, ?_, trivial⟩
                        · intro b1_ b2_ b3_ b4_ b5_ g1
                          refine TL.move rfl rfl (v := .int .i64 x5) rfl ?_
                          refine TL.done ?_
                          exact TC.nrm () [] ⟨rfl, trivial⟩ [0, 0] (by kernel_rfl)
                        · intro b0_ b2_ b3_ b4_ b5_ b6_ g1
                          refine TL.move rfl rfl (v := .int .i64 x6) rfl ?_
                          refine TL.done ?_
                          exact TC.nrm () [] ⟨rfl, trivial⟩ [0, 0] (by kernel_rfl)
                        · intro b0_ b1_ b3_ b5_ b6_ b7_ g1
                          refine TL.move rfl rfl (v := .int .i64 x5) rfl ?_
                          refine TL.done ?_
                          exact TC.nrm () [] ⟨rfl, trivial⟩ [0, 0] (by kernel_rfl)
                        · intro b0_ b1_ b2_ b5_ b6_ b7_ g1
                          refine TL.move rfl rfl (v := .int .i64 x6) rfl ?_
                          refine TL.done ?_
                          exact TC.nrm () [] ⟨rfl, trivial⟩ [0, 0] (by kernel_rfl)
                        · intro b0_ b1_ b5_ b6_ b7_ g1
                          refine TL.asL [box b_1 60 [.one (.int .i64 0), .one (.int .i64 0), .arr 216 (enf u8v (fun _ => (0 : UInt8))), .arr 6 (enf u8v (fun _ => (0 : UInt8)))], box b_2 60 [.one (.int .i64 x2), .one (.int .i64 6), .arr 216 (enf u8v y10), .arr 6 (enf u8v (upd (fun _ => (0 : UInt8)) 0 (1 : UInt8)))]] (by kernel_rfl) ?_
                          refine TL.callH (R := G.spec_l01Permuted.R) hr1 Try.call110 rfl rfl rfl (fun w hS => G.spec_l01Permuted.calls w x5 x6) ?_
                          rintro _ _ ⟨rfl, rfl⟩
                          refine TL.done ?_
                          exact TC.nrm () [] ⟨rfl, trivial⟩ [0, 0] (by kernel_rfl)
                        · intro b0_ b1_ b2_ b3_ b4_ g1
                          refine TL.asL [box b_1 60 [.one (.int .i64 0), .one (.int .i64 0), .arr 216 (enf u8v (fun _ => (0 : UInt8))), .arr 6 (enf u8v (fun _ => (0 : UInt8)))], box b_2 60 [.one (.int .i64 x2), .one (.int .i64 6), .arr 216 (enf u8v y10), .arr 6 (enf u8v (upd (fun _ => (0 : UInt8)) 0 (1 : UInt8)))]] (by kernel_rfl) ?_
                          refine TL.fa Try.underlying60 rfl Try.sizeOf57 rfl 2 rfl rfl rfl rfl ?_
                          refine TL.done ?_
                          exact TC.nrm () [] ⟨rfl, trivial⟩ [0, 0] (by kernel_rfl)
                        · intro b1_ b2_ b3_ b4_ g1
                          refine TL.asL [box b_1 60 [.one (.int .i64 0), .one (.int .i64 0), .arr 216 (enf u8v (fun _ => (0 : UInt8))), .arr 6 (enf u8v (fun _ => (0 : UInt8)))], box b_2 60 [.one (.int .i64 x2), .one (.int .i64 6), .arr 216 (enf u8v y10), .arr 6 (enf u8v (upd (fun _ => (0 : UInt8)) 0 (1 : UInt8)))]] (by kernel_rfl) ?_
                          refine TL.ixa x5 (2 + x5.toNat * 36) h4 Try.underlying57 Try.sizeOf56 rfl rfl rfl rfl (by omega) ?_
                          refine TL.done ?_
                          exact TC.nrm () [] ⟨rfl, trivial⟩ [0, 0] (by kernel_rfl)
                        · intro b2_ b3_ b4_ g1
                          refine TL.asL [box b_1 60 [.one (.int .i64 0), .one (.int .i64 0), .arr 216 (enf u8v (fun _ => (0 : UInt8))), .arr 6 (enf u8v (fun _ => (0 : UInt8)))], box b_2 60 [.one (.int .i64 x2), .one (.int .i64 6), .arr 216 (enf u8v y10), .arr 6 (enf u8v (upd (fun _ => (0 : UInt8)) 0 (1 : UInt8)))]] (by kernel_rfl) ?_
                          refine TL.ixa x6 (2 + (x5.toNat * 36 + x6.toNat * 6)) h5 Try.underlying56 Try.sizeOf55 rfl rfl rfl rfl (by omega) ?_
                          refine TL.done ?_
                          exact TC.nrm () [] ⟨rfl, trivial⟩ [0, 0] (by kernel_rfl)
                        · intro g1
                          refine TL.asL [box b_1 60 [.one (.int .i64 0), .one (.int .i64 0), .arr 216 (enf u8v (fun _ => (0 : UInt8))), .arr 6 (enf u8v (fun _ => (0 : UInt8)))], box b_2 60 [.one (.int .i64 x2), .one (.int .i64 6), .arr 216 (enf u8v y10), .arr 6 (enf u8v (upd (fun _ => (0 : UInt8)) 0 (1 : UInt8)))]] (by kernel_rfl) ?_
                          refine TL.ixa r_1 (2 + (x5.toNat * 36 + x6.toNat * 6 + r_1.toNat)) h6 Try.underlying55 Try.sizeOf5 rfl rfl rfl rfl (by omega) ?_
                          refine TL.done ?_
                          exact TC.nrm () [] ⟨rfl, trivial⟩ [0, 0] (by kernel_rfl)
                        · intro g1
                          refine TL.asL [box b_1 60 [.one (.int .i64 0), .one (.int .i64 0), .arr 216 (enf u8v (fun _ => (0 : UInt8))), .arr 6 (enf u8v (fun _ => (0 : UInt8)))], box b_2 60 [.one (.int .i64 x2), .one (.int .i64 6), .arr 216 (enf u8v y10), .arr 6 (enf u8v (upd (fun _ => (0 : UInt8)) 0 (1 : UInt8)))]] (by kernel_rfl) ?_
                          refine TL.stA (e := u8v) (z := (1 : UInt8)) 1 2 (x5.toNat * 36 + x6.toNat * 6 + r_1.toNat) rfl Try.sizeOf5 rfl (by omega) (s := 2) rfl (by omega) rfl rfl rfl rfl rfl ?_
                          refine TL.done ?_
                          exact TC.nrm () [] trivial [0, 0] (by kernel_rfl)
                      · intro g1
                        refine TC.asL [box b_1 60 [.one (.int .i64 0), .one (.int .i64 0), .arr 216 (enf u8v (fun _ => (0 : UInt8))), .arr 6 (enf u8v (fun _ => (0 : UInt8)))], box b_2 60 [.one (.int .i64 x2), .one (.int .i64 6), .arr 216 (enf u8v (upd y10 (x5.toNat * 36 + x6.toNat * 6 + r_1.toNat) (1 : UInt8))), .arr 6 (enf u8v (upd (fun _ => (0 : UInt8)) 0 (1 : UInt8)))]] (by kernel_rfl) ?_
                        refine TC.region ?_
                        refine TL.move rfl rfl (v := .int .i64 x6) rfl ?_
                        refine TL.bin .i64 x6 1 rfl rfl rfl rfl (v := .int .i64 (w64 (x6 + 1))) rfl ?_
                        refine TL.assign rfl rfl (v := .int .i64 (w64 (x6 + 1))) rfl ?_
                        refine TL.done ?_
                        exact TC.next1 (((upd y10 (x5.toNat * 36 + x6.toNat * 6 + r_1.toNat) (1 : UInt8)), (w64 (x6 + 1)))) (()) ⟨rfl, rfl, rfl, rfl, trivial⟩ [0, 0] rfl
                    · exact TC.brk1 ((y10, x6)) (()) ⟨rfl, rfl, rfl, rfl, trivial⟩ [0, 0] rfl
                  · rintro ⟨y10, x6⟩ _
                    refine TC.region ?_
                    refine TL.move rfl rfl (v := .int .i64 x5) rfl ?_
                    refine TL.bin .i64 x5 1 rfl rfl rfl rfl (v := .int .i64 (w64 (x5 + 1))) rfl ?_
                    refine TL.assign rfl rfl (v := .int .i64 (w64 (x5 + 1))) rfl ?_
                    refine TL.done ?_
                    exact TC.next1 ((y10, (w64 (x5 + 1)))) (()) ⟨rfl, rfl, rfl, trivial⟩ [0, 0] rfl
                · exact TC.brk1 ((y9, x5)) (()) ⟨rfl, rfl, rfl, trivial⟩ [0, 0] rfl
              · rintro ⟨y9, x5⟩ _
                exact TC.inl ((6, y9, (upd (fun _ => (0 : UInt8)) 0 (1 : UInt8)))) (()) ⟨rfl, rfl, trivial⟩ [0, 0] rfl
            · refine TC.seq ?_
              refine TC.region ?_
              refine TL.strEq x1 ([109, 97, 116, 114, 105, 120] : Str) rfl rfl rfl rfl ?_
              refine TL.assign rfl rfl (v := .bool (x1 == ([109, 97, 116, 114, 105, 120] : Str))) rfl ?_
              refine TL.done ?_
              refine TC.cond (b := (x1 == ([109, 97, 116, 114, 105, 120] : Str))) rfl (fun c19 => ?_) (fun c20 => ?_)
              · refine TC.seq ?_
                refine TC.region ?_
                refine TL.fa Try.underlying60 rfl Try.sizeOf2 rfl 1 rfl rfl rfl rfl ?_
                refine TL.st1 0 1 rfl Try.sizeOf2 rfl rfl rfl rfl rfl rfl rfl ?_
                refine TL.done ?_
                refine TC.seq ?_
                refine TC.region ?_
                refine TL.buildA (segs0 := [.arr 6 (enf u8v (fun _ => (0 : UInt8)))]) (segs := [.arr 6 (enf u8v (upd (upd (upd (upd (fun _ => (0 : UInt8)) 0 (1 : UInt8)) 1 (0 : UInt8)) 2 (0 : UInt8)) 3 (1 : UInt8)))]) Try.underlying58 Try.sizeOf5 Try.zeroValue58 rfl [(0, u8v (1 : UInt8)), (1, u8v (0 : UInt8)), (2, u8v (0 : UInt8)), (3, u8v (1 : UInt8))] rfl (fill_arr (e := u8v) (z := (1 : UInt8)) (q := 0) (s := 0) 0 rfl rfl rfl rfl rfl rfl (fill_arr (e := u8v) (z := (0 : UInt8)) (q := 1) (s := 0) 0 rfl rfl rfl rfl rfl rfl (fill_arr (e := u8v) (z := (0 : UInt8)) (q := 2) (s := 0) 0 rfl rfl rfl rfl rfl rfl (fill_arr (e := u8v) (z := (1 : UInt8)) (q := 3) (s := 0) 0 rfl rfl rfl rfl rfl rfl (rfl))))) rfl rfl ?_
                refine TL.fa Try.underlying60 rfl Try.sizeOf58 rfl 218 rfl rfl rfl rfl ?_
                refine TL.stM (news := [.arr 6 (enf u8v (upd (upd (upd (upd (fun _ => (0 : UInt8)) 0 (1 : UInt8)) 1 (0 : UInt8)) 2 (0 : UInt8)) 3 (1 : UInt8)))]) 0 3 1 rfl Try.sizeOf58 (ones_arr (fun _ => rfl) ones_nil) rfl rfl rfl rfl rfl rfl ?_
                refine TL.done ?_
                refine TC.seq ?_
                refine TC.region ?_
                refine TL.assign rfl rfl (v := .int .i64 0) rfl ?_
                refine TL.done ?_
                refine TC.loop1 (σ := (Nat → UInt8) × Int) (γ := Unit) (Γ' := (fun p q => match p, q with | (y11, x7), _ => [(4, bp b_1 0), (6, bp b_2 0), (11, .int .i64 x7)])) (L' := (fun p q => match p, q with | (y11, x7), _ => [box b_1 60 [.one (.int .i64 0), .one (.int .i64 0), .arr 216 (enf u8v (fun _ => (0 : UInt8))), .arr 6 (enf u8v (fun _ => (0 : UInt8)))], box b_2 60 [.one (.int .i64 x2), .one (.int .i64 4), .arr 216 (enf u8v y11), .arr 6 (enf u8v (upd (upd (upd (upd (fun _ => (0 : UInt8)) 0 (1 : UInt8)) 1 (0 : UInt8)) 2 (0 : UInt8)) 3 (1 : UInt8)))]])) (Γb := (fun p q => match p, q with | (y11, x7), _ => [(4, bp b_1 0), (6, bp b_2 0), (11, .int .i64 x7)])) (Lb := (fun p q => match p, q with | (y11, x7), _ => [box b_1 60 [.one (.int .i64 0), .one (.int .i64 0), .arr 216 (enf u8v (fun _ => (0 : UInt8))), .arr 6 (enf u8v (fun _ => (0 : UInt8)))], box b_2 60 [.one (.int .i64 x2), .one (.int .i64 4), .arr 216 (enf u8v y11), .arr 6 (enf u8v (upd (upd (upd (upd (fun _ => (0 : UInt8)) 0 (1 : UInt8)) 1 (0 : UInt8)) 2 (0 : UInt8)) 3 (1 : UInt8)))]])) (((fun _ => (0 : UInt8)), 0)) (()) ⟨rfl, rfl, rfl, trivial⟩ [1, 0] rfl ?_ ?_
                · rintro ⟨y11, x7⟩ _
                  refine TC.seq ?_
                  refine TC.seq ?_
                  refine TC.region ?_
                  refine TL.move rfl rfl (v := .int .i64 x7) rfl ?_
                  refine TL.bin .i64 x7 4 rfl rfl rfl rfl (v := .bool (decide (x7 < 4))) rfl ?_
                  refine TL.done ?_
                  refine TC.cond (b := (decide (x7 < 4))) rfl (fun c21 => ?_) (fun c22 => ?_)
                  · refine TC.skip ?_
                    refine TC.seq ?_
                    refine TC.block (NoEx.loop1 rfl) ?_
                    refine TC.seq ?_
                    refine TC.region ?_
                    refine TL.assign rfl rfl (v := .int .i64 0) rfl ?_
                    refine TL.done ?_
                    refine TC.loop1 (σ := (Nat → UInt8) × Int) (γ := Unit) (Γ' := (fun p q => match p, q with | (y12, x8), _ => [(4, bp b_1 0), (6, bp b_2 0), (11, .int .i64 x7), (12, .int .i64 x8)])) (L' := (fun p q => match p, q with | (y12, x8), _ => [box b_1 60 [.one (.int .i64 0), .one (.int .i64 0), .arr 216 (enf u8v (fun _ => (0 : UInt8))), .arr 6 (enf u8v (fun _ => (0 : UInt8)))], box b_2 60 [.one (.int .i64 x2), .one (.int .i64 4), .arr 216 (enf u8v y12), .arr 6 (enf u8v (upd (upd (upd (upd (fun _ => (0 : UInt8)) 0 (1 : UInt8)) 1 (0 : UInt8)) 2 (0 : UInt8)) 3 (1 : UInt8)))]])) (Γb := (fun p q => match p, q with | (y12, x8), _ => [(4, bp b_1 0), (6, bp b_2 0), (11, .int .i64 x7), (12, .int .i64 x8)])) (Lb := (fun p q => match p, q with | (y12, x8), _ => [box b_1 60 [.one (.int .i64 0), .one (.int .i64 0), .arr 216 (enf u8v (fun _ => (0 : UInt8))), .arr 6 (enf u8v (fun _ => (0 : UInt8)))], box b_2 60 [.one (.int .i64 x2), .one (.int .i64 4), .arr 216 (enf u8v y12), .arr 6 (enf u8v (upd (upd (upd (upd (fun _ => (0 : UInt8)) 0 (1 : UInt8)) 1 (0 : UInt8)) 2 (0 : UInt8)) 3 (1 : UInt8)))]])) ((y11, 0)) (()) ⟨rfl, rfl, rfl, rfl, trivial⟩ [0, 0] rfl ?_ ?_
                    · rintro ⟨y12, x8⟩ _
                      refine TC.seq ?_
                      refine TC.seq ?_
                      refine TC.region ?_
                      refine TL.move rfl rfl (v := .int .i64 x8) rfl ?_
                      refine TL.bin .i64 x8 4 rfl rfl rfl rfl (v := .bool (decide (x8 < 4))) rfl ?_
                      refine TL.done ?_
                      refine TC.cond (b := (decide (x8 < 4))) rfl (fun c23 => ?_) (fun c24 => ?_)
                      · refine TC.skip ?_
                        refine TC.seq ?_
                        refine TC.block (NoEx.loop1 rfl) ?_
                        refine TC.seq ?_
                        refine TC.region ?_
                        refine TL.move rfl rfl (v := .int .i64 x7) rfl ?_
                        refine TL.rem .i64 x7 2 (by decide) rfl rfl rfl rfl ?_
                        refine TL.move rfl rfl (v := .int .i64 x8) rfl ?_
                        refine TL.quo .i64 x8 2 (by decide) rfl rfl rfl rfl ?_
                        refine TL.bin .i64 (Int.tmod x7 2) (w64 (Int.tdiv x8 2)) rfl rfl rfl rfl (v := .bool ((Int.tmod x7 2) == (w64 (Int.tdiv x8 2)))) rfl ?_
                        refine TL.done ?_
                        refine TC.join1 (σ := (Nat → UInt8)) (γ := Unit) (Γ' := (fun y13 _ => [(4, bp b_1 0), (6, bp b_2 0), (11, .int .i64 x7), (12, .int .i64 x8)])) (L' := (fun y13 _ => [box b_1 60 [.one (.int .i64 0), .one (.int .i64 0), .arr 216 (enf u8v (fun _ => (0 : UInt8))), .arr 6 (enf u8v (fun _ => (0 : UInt8)))], box b_2 60 [.one (.int .i64 x2), .one (.int .i64 4), .arr 216 (enf u8v y13), .arr 6 (enf u8v (upd (upd (upd (upd (fun _ => (0 : UInt8)) 0 (1 : UInt8)) 1 (0 : UInt8)) 2 (0 : UInt8)) 3 (1 : UInt8)))]])) ?_ ?_
                        · refine TC.cond (b := ((Int.tmod x7 2) == (w64 (Int.tdiv x8 2)))) rfl (fun c25 => ?_) (fun c26 => ?_)
                          · refine TC.region ?_
                            refine TL.move rfl rfl (v := .int .i64 x7) rfl ?_
                            refine TL.move rfl rfl (v := .int .i64 x8) rfl ?_
                            refine TL.move rfl rfl (v := .int .i64 x7) rfl ?_
                            refine TL.quo .i64 x7 2 (by decide) rfl rfl rfl rfl ?_
                            refine TL.bin .i64 (w64 (Int.tdiv x7 2)) 2 rfl rfl rfl rfl (v := .int .i64 (w64 ((w64 (Int.tdiv x7 2)) * 2))) rfl ?_
                            refine TL.move rfl rfl (v := .int .i64 x8) rfl ?_
                            refine TL.rem .i64 x8 2 (by decide) rfl rfl rfl rfl ?_
                            refine TL.bin .i64 (w64 ((w64 (Int.tdiv x7 2)) * 2)) (Int.tmod x8 2) rfl rfl rfl rfl (v := .int .i64 (w64 ((w64 ((w64 (Int.tdiv x7 2)) * 2)) + (Int.tmod x8 2)))) rfl ?_
                            refine TL.fa Try.underlying60 rfl Try.sizeOf57 rfl 2 rfl rfl rfl rfl ?_
                            refine TL.chk fun h7 => ?_
                            refine TL.ixa x7 (2 + x7.toNat * 36) h7 Try.underlying57 Try.sizeOf56 rfl rfl rfl rfl (by omega) ?_
                            refine TL.chk fun h8 => ?_
                            refine TL.ixa x8 (2 + (x7.toNat * 36 + x8.toNat * 6)) h8 Try.underlying56 Try.sizeOf55 rfl rfl rfl rfl (by omega) ?_
                            refine TL.chk fun h9 => ?_
                            refine TL.ixa (w64 ((w64 ((w64 (Int.tdiv x7 2)) * 2)) + (Int.tmod x8 2))) (2 + (x7.toNat * 36 + x8.toNat * 6 + (w64 ((w64 ((w64 (Int.tdiv x7 2)) * 2)) + (Int.tmod x8 2))).toNat)) h9 Try.underlying55 Try.sizeOf5 rfl rfl rfl rfl (by omega) ?_
                            refine TL.stA (e := u8v) (z := (1 : UInt8)) 1 2 (x7.toNat * 36 + x8.toNat * 6 + (w64 ((w64 ((w64 (Int.tdiv x7 2)) * 2)) + (Int.tmod x8 2))).toNat) rfl Try.sizeOf5 rfl (by omega) (s := 2) rfl (by omega) rfl rfl rfl rfl rfl ?_
                            refine TL.done ?_
                            exact TC.nrm ((upd y12 (x7.toNat * 36 + x8.toNat * 6 + (w64 ((w64 ((w64 (Int.tdiv x7 2)) * 2)) + (Int.tmod x8 2))).toNat) (1 : UInt8))) (()) ⟨rfl, rfl, rfl, rfl, trivial⟩ [0, 0] rfl
                          · refine TC.skip ?_
                            exact TC.nrm (y12) (()) ⟨rfl, rfl, rfl, rfl, trivial⟩ [0, 0] rfl
                        · rintro y13 _
                          refine TC.region ?_
                          refine TL.move rfl rfl (v := .int .i64 x8) rfl ?_
                          refine TL.bin .i64 x8 1 rfl rfl rfl rfl (v := .int .i64 (w64 (x8 + 1))) rfl ?_
                          refine TL.assign rfl rfl (v := .int .i64 (w64 (x8 + 1))) rfl ?_
                          refine TL.done ?_
                          exact TC.next1 ((y13, (w64 (x8 + 1)))) (()) ⟨rfl, rfl, rfl, rfl, trivial⟩ [0, 0] rfl
                      · exact TC.brk1 ((y12, x8)) (()) ⟨rfl, rfl, rfl, rfl, trivial⟩ [0, 0] rfl
                    · rintro ⟨y12, x8⟩ _
                      refine TC.region ?_
                      refine TL.move rfl rfl (v := .int .i64 x7) rfl ?_
                      refine TL.bin .i64 x7 1 rfl rfl rfl rfl (v := .int .i64 (w64 (x7 + 1))) rfl ?_
                      refine TL.assign rfl rfl (v := .int .i64 (w64 (x7 + 1))) rfl ?_
                      refine TL.done ?_
                      exact TC.next1 ((y12, (w64 (x7 + 1)))) (()) ⟨rfl, rfl, rfl, trivial⟩ [0, 0] rfl
                  · exact TC.brk1 ((y11, x7)) (()) ⟨rfl, rfl, rfl, trivial⟩ [0, 0] rfl
                · rintro ⟨y11, x7⟩ _
                  exact TC.inl ((4, y11, (upd (upd (upd (upd (fun _ => (0 : UInt8)) 0 (1 : UInt8)) 1 (0 : UInt8)) 2 (0 : UInt8)) 3 (1 : UInt8)))) (()) ⟨rfl, rfl, trivial⟩ [0, 0] rfl
              · refine TC.seq ?_
                refine TC.region ?_
                refine TL.buildS (segs0 := [.one (.int .i64 0), .one (.int .i64 0), .arr 216 (enf u8v (fun _ => (0 : UInt8))), .arr 6 (enf u8v (fun _ => (0 : UInt8)))]) (segs := [.one (.int .i64 0), .one (.int .i64 0), .arr 216 (enf u8v (fun _ => (0 : UInt8))), .arr 6 (enf u8v (fun _ => (0 : UInt8)))]) [1, 1, 216, 6] Try.underlying60 ⟨Try.sizeOf2, Try.sizeOf2, Try.sizeOf57, Try.sizeOf58, trivial⟩ Try.zeroValue60 rfl [] rfl (fun pl hpl => by subst hpl; exact rfl) rfl rfl ?_
                refine TL.stM (news := [.one (.int .i64 0), .one (.int .i64 0), .arr 216 (enf u8v (fun _ => (0 : UInt8))), .arr 6 (enf u8v (fun _ => (0 : UInt8)))]) 1 0 4 rfl Try.sizeOf60 (ones_one rfl (ones_one rfl (ones_arr (fun _ => rfl) (ones_arr (fun _ => rfl) ones_nil)))) rfl rfl rfl rfl rfl rfl ?_
                refine TL.assign rfl rfl (v := .bool false) rfl ?_
                refine TL.done ?_
                exact TC.retF (Fin.join (by simp) (Fin.body (fin2 (.inr rfl) rfl (.cellN rfl (Src.box 1 rfl) Try.isAgg60 Try.sizeOf60 rfl) (.tmp rfl) [] rfl ⟨rfl, rfl⟩)))
  · rintro ⟨y4, y5, y6⟩ _
    refine TC.seq ?_
    refine TC.region ?_
    refine TL.loadM 0 4 (Src.box 1 rfl) Try.isAgg60 Try.sizeOf60 (mid := [.one (.int .i64 x2), .one (.int .i64 y4), .arr 216 (enf u8v y5), .arr 6 (enf u8v y6)]) rfl rfl rfl rfl rfl rfl ?_
    refine TL.stM (news := [.one (.int .i64 x2), .one (.int .i64 y4), .arr 216 (enf u8v y5), .arr 6 (enf u8v y6)]) 0 0 4 rfl Try.sizeOf60 (ones_one rfl (ones_one rfl (ones_arr (fun _ => rfl) (ones_arr (fun _ => rfl) ones_nil)))) rfl rfl rfl rfl rfl rfl ?_
    refine TL.assign rfl rfl (v := .bool true) rfl ?_
    refine TL.done ?_
    exact TC.retF (Fin.body (fin2 (.inr rfl) rfl (.cellN rfl (Src.box 0 rfl) Try.isAgg60 Try.sizeOf60 rfl) (.tmp rfl) [] rfl ⟨rfl, rfl⟩))

end Go.Proofs.Ytjjfoofjipafiaa.G

/- spec.l01Lead, as a pure function. -/
set_option linter.unusedVariables false
namespace Go.Proofs.Ytjjfoofjipafiaa.G
open Go Go.Sx Go.Proofs

def spec_l01Lead.b0 (row_1 : List Int) : Int → Option (LR Int Int) := fun i1 => (bif (decide (i1 < (row_1.length : Int))) then chk i1 row_1.length ((bif ((gt row_1 i1) != 0) then some (.ret (i1)) else some (.next (w64 (i1 + 1))))) else some (.brk i1))

def spec_l01Lead.f (row_1 : List Int) : Option Int := (loop (spec_l01Lead.b0 row_1) 0).bind (ln (fun i1 => some (-1)))

def spec_l01Lead.R (r : Int) (v : Value) (L : List Asn) : Prop := v = .int .i64 r ∧ L = []

set_option maxRecDepth 100000 in
set_option maxHeartbeats 4000000 in
theorem spec_l01Lead.calls (w : World) (s1 : SV) (row_1 : List Int) (h1 : Reads Ei (hp w) s1 row_1) :
    ∀ r, spec_l01Lead.f row_1 = some r → Calls Try.prog 135 #[SV.v s1] w (Ret w (spec_l01Lead.R r)) := by

  refine calls_T (n := 16) (Γ := [(0, SV.v s1)]) (R := spec_l01Lead.R) Try.func135 rfl rfl (Nat.le_of_ble_eq_true rfl) ⟨rfl, trivial⟩ ?_
  unfold spec_l01Lead.f
  refine TC.seq ?_
  refine TC.region ?_
  refine TL.assign rfl rfl (v := .int .i64 0) rfl ?_
  refine TL.done ?_
  refine TC.seq ?_
  refine TC.seq ?_
  refine TC.region ?_
  refine TL.assign rfl rfl (v := .int .i64 0) rfl ?_
  refine TL.done ?_
  refine TC.loopK (σ := Int) (γ := Unit) (Γ' := (fun i1 _ => [(0, SV.v s1), (3, .int .i64 i1)])) (L' := (fun i1 _ => [])) (Γb := (fun i1 _ => [(0, SV.v s1), (3, .int .i64 i1)])) (Lb := (fun i1 _ => [])) (0) (()) ⟨rfl, rfl, trivial⟩ [] rfl ?_ ?_
  · rintro i1 _
    refine TC.seq ?_
    refine TC.seq ?_
    refine TC.region ?_
    refine TL.move rfl rfl (v := .int .i64 i1) rfl ?_
    refine TL.move rfl rfl (v := SV.v s1) rfl ?_
    refine TL.len (Rd.old h1) Try.underlying22 rfl rfl rfl ?_
    refine TL.bin .i64 i1 (row_1.length : Int) rfl rfl rfl rfl (v := .bool (decide (i1 < (row_1.length : Int)))) rfl ?_
    refine TL.done ?_
    refine TC.cond (b := (decide (i1 < (row_1.length : Int)))) rfl (fun c1 => ?_) (fun c2 => ?_)
    · refine TC.skip ?_
      refine TC.seq ?_
      refine TC.block (NoEx.loop rfl NoEx.body) ?_
      refine TC.seq ?_
      refine TC.region ?_
      refine TL.move rfl rfl (v := SV.v s1) rfl ?_
      refine TL.move rfl rfl (v := .int .i64 i1) rfl ?_
      refine TL.chk fun h2 => ?_
      refine TL.ixs i1 i1.toNat (Rd.old h1) h2 Try.underlying22 Try.sizeOf2 rfl rfl rfl rfl (by omega) ?_
      refine TL.loadE (Rd.old h1) Try.isAgg2 i1.toNat 0 (gt_spec h2) (v := .int .i64 (gt row_1 i1)) rfl (by simp only [show Ei.sz = 1 from rfl] <;> omega) rfl rfl rfl ?_
      refine TL.bin .i64 (gt row_1 i1) 0 rfl rfl rfl rfl (v := .bool ((gt row_1 i1) != 0)) rfl ?_
      refine TL.done ?_
      refine TC.cond (b := ((gt row_1 i1) != 0)) rfl (fun c3 => ?_) (fun c4 => ?_)
      · refine TC.seq ?_
        refine TC.region ?_
        refine TL.move rfl rfl (v := .int .i64 i1) rfl ?_
        refine TL.assign rfl rfl (v := .int .i64 i1) rfl ?_
        refine TL.done ?_
        exact TC.retF (Fin.loop Far.ret (Fin.body (fin1 (.inr rfl) rfl (.tmp rfl) [] rfl ⟨rfl, rfl⟩)))
      · refine TC.skip ?_
        refine TC.region ?_
        refine TL.move rfl rfl (v := .int .i64 i1) rfl ?_
        refine TL.bin .i64 i1 1 rfl rfl rfl rfl (v := .int .i64 (w64 (i1 + 1))) rfl ?_
        refine TL.assign rfl rfl (v := .int .i64 (w64 (i1 + 1))) rfl ?_
        refine TL.done ?_
        exact TC.next ((w64 (i1 + 1))) (()) ⟨rfl, rfl, trivial⟩ [] rfl
    · exact TC.brk (i1) (()) ⟨rfl, rfl, trivial⟩ [] rfl
  · rintro i1 _
    refine TC.seq ?_
    refine TC.region ?_
    refine TL.assign rfl rfl (v := .int .i64 (-1)) rfl ?_
    refine TL.done ?_
    exact TC.retF (Fin.body (fin1 (.inr rfl) rfl (.tmp rfl) [] rfl ⟨rfl, rfl⟩))

end Go.Proofs.Ytjjfoofjipafiaa.G

/- spec.l01Own, as a pure function. -/
set_option linter.unusedVariables false
namespace Go.Proofs.Ytjjfoofjipafiaa.G
open Go Go.Sx Go.Proofs

def spec_l01Own.f (list_1 : List Int) : Option (List Int) := small (([] : List Int).length + list_1.length) (some (([] : List Int) ++ list_1))

def spec_l01Own.R (r : List Int) (v : Value) (L : List Asn) : Prop := ∃ (s0 : SV), v = SV.v s0 ∧ L = [row Ei 2 s0 r]

set_option maxRecDepth 100000 in
set_option maxHeartbeats 4000000 in
theorem spec_l01Own.calls (w : World) (s1 : SV) (list_1 : List Int) (h1 : Reads Ei (hp w) s1 list_1) :
    ∀ r, spec_l01Own.f list_1 = some r → Calls Try.prog 142 #[SV.v s1] w (Ret w (spec_l01Own.R r)) := by

  refine calls_T (n := 6) (Γ := [(0, SV.v s1)]) (R := spec_l01Own.R) Try.func142 rfl rfl (Nat.le_of_ble_eq_true rfl) ⟨rfl, trivial⟩ ?_
  unfold spec_l01Own.f
  refine TC.seq ?_
  refine TC.region ?_
  refine TL.assign rfl rfl (v := SV.v ⟨none, 0, 0⟩) rfl ?_
  refine TL.done ?_
  refine TC.seq ?_
  refine TC.region ?_
  refine TL.bslice0 Ei Try.underlying22 Try.sizeOf2 rfl rfl fun s2 => ?_
  refine TL.move rfl rfl (v := SV.v s1) rfl ?_
  refine TL.small fun h2 => ?_
  refine TL.append 0 rfl (Rd.old h1) Try.underlying22 (info_of Try.type2) (zv := (Try.t2.zero.getD (.bool false))) rfl rfl rfl (by decide) h2 rfl rfl rfl rfl fun s3 => ?_
  refine TL.assign rfl rfl (v := SV.v s3) rfl ?_
  refine TL.done ?_
  exact TC.retF (Fin.body (fin1 (.inr rfl) rfl (.tmp rfl) [0] rfl ⟨s3, rfl, rfl⟩))

end Go.Proofs.Ytjjfoofjipafiaa.G

/- spec.l01Mod, as a pure function. -/
set_option linter.unusedVariables false
namespace Go.Proofs.Ytjjfoofjipafiaa.G
open Go Go.Sx Go.Proofs

def spec_l01Mod.f (p1 : Int) (x1 : Int) : Option Int := nz p1 (some (Int.tmod (w64 ((Int.tmod x1 p1) + p1)) p1))

def spec_l01Mod.R (r : Int) (v : Value) (L : List Asn) : Prop := v = .int .i64 r ∧ L = []

set_option maxRecDepth 100000 in
set_option maxHeartbeats 4000000 in
theorem spec_l01Mod.calls (w : World) (p1 : Int) (x1 : Int) :
    ∀ r, spec_l01Mod.f p1 x1 = some r → Calls Try.prog 146 #[.int .i64 p1, .int .i64 x1] w (Ret w (spec_l01Mod.R r)) := by

  refine calls_T (n := 12) (Γ := [(0, .int .i64 p1), (1, .int .i64 x1)]) (R := spec_l01Mod.R) Try.func146 rfl rfl (Nat.le_of_ble_eq_true rfl) ⟨rfl, rfl, trivial⟩ ?_
  unfold spec_l01Mod.f
  refine TC.seq ?_
  refine TC.region ?_
  refine TL.assign rfl rfl (v := .int .i64 0) rfl ?_
  refine TL.done ?_
  refine TC.seq ?_
  refine TC.region ?_
  refine TL.move rfl rfl (v := .int .i64 x1) rfl ?_
  refine TL.move rfl rfl (v := .int .i64 p1) rfl ?_
  refine TL.nz fun z1 => ?_
  refine TL.rem .i64 x1 p1 z1 rfl rfl rfl rfl ?_
  refine TL.move rfl rfl (v := .int .i64 p1) rfl ?_
  refine TL.bin .i64 (Int.tmod x1 p1) p1 rfl rfl rfl rfl (v := .int .i64 (w64 ((Int.tmod x1 p1) + p1))) rfl ?_
  refine TL.move rfl rfl (v := .int .i64 p1) rfl ?_
  refine TL.rem .i64 (w64 ((Int.tmod x1 p1) + p1)) p1 z1 rfl rfl rfl rfl ?_
  refine TL.assign rfl rfl (v := .int .i64 (Int.tmod (w64 ((Int.tmod x1 p1) + p1)) p1)) rfl ?_
  refine TL.done ?_
  exact TC.retF (Fin.body (fin1 (.inr rfl) rfl (.tmp rfl) [] rfl ⟨rfl, rfl⟩))

end Go.Proofs.Ytjjfoofjipafiaa.G

/- spec.l01Less, as a pure function. -/
set_option linter.unusedVariables false
namespace Go.Proofs.Ytjjfoofjipafiaa.G
open Go Go.Sx Go.Proofs

def spec_l01Less.b0 (row_1 : List Int) (other1 : List Int) (p1 : Int) (k_1 : Int) : (List Int) × Int → Option (LB ((List Int) × Int)) := fun p => match p with | (out1, i1) => (bif (decide (i1 < (row_1.length : Int))) then chk i1 row_1.length (chk i1 other1.length ((G.spec_l01Mod.f p1 (w64 ((gt row_1 i1) - (w64 (k_1 * (gt other1 i1)))))).bind (fun r_1 => small (out1.length + ([r_1] : List Int).length) (some (.next ((out1 ++ ([r_1] : List Int)), (w64 (i1 + 1)))))))) else some (.brk (out1, i1)))

def spec_l01Less.f (p1 : Int) (row_1 : List Int) (other1 : List Int) (k_1 : Int) : Option (List Int) := (loop1 (spec_l01Less.b0 row_1 other1 p1 k_1) (([] : List Int), 0)).bind (fun p => match p with | (out1, i1) => some out1)

def spec_l01Less.R (r : List Int) (v : Value) (L : List Asn) : Prop := ∃ (s0 : SV), v = SV.v s0 ∧ L = [row Ei 2 s0 r]

set_option maxRecDepth 100000 in
set_option maxHeartbeats 4000000 in
theorem spec_l01Less.calls (w : World) (p1 : Int) (s1 : SV) (row_1 : List Int) (s2 : SV) (other1 : List Int) (k_1 : Int) (h1 : Reads Ei (hp w) s1 row_1) (h2 : Reads Ei (hp w) s2 other1) :
    ∀ r, spec_l01Less.f p1 row_1 other1 k_1 = some r → Calls Try.prog 143 #[.int .i64 p1, SV.v s1, SV.v s2, .int .i64 k_1] w (Ret w (spec_l01Less.R r)) := by

  refine calls_T (n := 35) (Γ := [(0, .int .i64 p1), (1, SV.v s1), (2, SV.v s2), (3, .int .i64 k_1)]) (R := spec_l01Less.R) Try.func143 rfl rfl (Nat.le_of_ble_eq_true rfl) ⟨rfl, rfl, rfl, rfl, trivial⟩ ?_
  unfold spec_l01Less.f
  refine TC.seq ?_
  refine TC.region ?_
  refine TL.assign rfl rfl (v := SV.v ⟨none, 0, 0⟩) rfl ?_
  refine TL.done ?_
  refine TC.seq ?_
  refine TC.region ?_
  refine TL.bslice0 Ei Try.underlying22 Try.sizeOf2 rfl rfl fun s3 => ?_
  refine TL.assign rfl rfl (v := SV.v s3) rfl ?_
  refine TL.done ?_
  refine TC.seq ?_
  refine TC.seq ?_
  refine TC.region ?_
  refine TL.assign rfl rfl (v := .int .i64 0) rfl ?_
  refine TL.done ?_
  refine TC.loop1 (σ := (List Int) × Int) (γ := SV) (Γ' := (fun p q => match p, q with | (out1, i1), s4 => [(0, .int .i64 p1), (1, SV.v s1), (2, SV.v s2), (3, .int .i64 k_1), (9, SV.v s4), (10, .int .i64 i1)])) (L' := (fun p q => match p, q with | (out1, i1), s4 => [row Ei 2 s4 out1])) (Γb := (fun p q => match p, q with | (out1, i1), s4 => [(0, .int .i64 p1), (1, SV.v s1), (2, SV.v s2), (3, .int .i64 k_1), (9, SV.v s4), (10, .int .i64 i1)])) (Lb := (fun p q => match p, q with | (out1, i1), s4 => [row Ei 2 s4 out1])) ((([] : List Int), 0)) (s3) ⟨rfl, rfl, rfl, rfl, rfl, rfl, trivial⟩ [0] rfl ?_ ?_
  · rintro ⟨out1, i1⟩ s4
    refine TC.seq ?_
    refine TC.seq ?_
    refine TC.region ?_
    refine TL.move rfl rfl (v := .int .i64 i1) rfl ?_
    refine TL.move rfl rfl (v := SV.v s1) rfl ?_
    refine TL.len (Rd.old h1) Try.underlying22 rfl rfl rfl ?_
    refine TL.bin .i64 i1 (row_1.length : Int) rfl rfl rfl rfl (v := .bool (decide (i1 < (row_1.length : Int)))) rfl ?_
    refine TL.done ?_
    refine TC.cond (b := (decide (i1 < (row_1.length : Int)))) rfl (fun c1 => ?_) (fun c2 => ?_)
    · refine TC.skip ?_
      refine TC.seq ?_
      refine TC.block (NoEx.loop1 rfl) ?_
      refine TC.wk (Γ' := [(0, .int .i64 p1), (1, SV.v s1), (2, SV.v s2), (3, .int .i64 k_1), (10, .int .i64 i1), (12, .int .i64 i1), (13, SV.v s1), (14, .int .i64 (row_1.length : Int)), (15, .bool (decide (i1 < (row_1.length : Int)))), (9, SV.v s4)]) ⟨rfl, rfl, rfl, rfl, rfl, rfl, rfl, rfl, rfl, rfl, trivial⟩ ?_
      refine TC.chk fun h3 => ?_
      refine TC.chk fun h4 => ?_
      refine TC.bindE ?_
      rintro r_1 hr1
      refine TC.small fun h5 => ?_
      refine TC.drawG [(0, .int .i64 p1), (1, SV.v s1), (2, SV.v s2), (3, .int .i64 k_1), (10, .int .i64 i1), (12, .int .i64 i1), (13, SV.v s1), (14, .int .i64 (row_1.length : Int)), (15, .bool (decide (i1 < (row_1.length : Int))))] [(9, SV.v s4, 16)] ⟨rfl, rfl, rfl, rfl, rfl, rfl, rfl, rfl, rfl, trivial⟩ ⟨rfl, trivial⟩ (fun l_ g1 => [(bif nb l_ 15 then row Ei 2 (gs (g1 120)) (out1 ++ ([r_1] : List Int)) else row Ei 2 s4 out1), (bif nb l_ 14 then row Ei 2 (gs (g1 112)) ([r_1] : List Int) else emp)]) (fun g1 => [SV.v s4, .int .i64 p1, SV.v s1, .int .i64 i1, ep s1 i1.toNat, .int .i64 (gt row_1 i1), .int .i64 k_1, SV.v s2, .int .i64 i1, ep s2 i1.toNat, .int .i64 (gt other1 i1), .int .i64 (w64 (k_1 * (gt other1 i1))), .int .i64 (w64 ((gt row_1 i1) - (w64 (k_1 * (gt other1 i1))))), .int .i64 r_1, SV.v (gs (g1 112)), SV.v (gs (g1 120)), SV.v (gs (g1 120))]) [[], [], [], [], [2, 3], [2, 3, 4], [], [], [], [7, 8], [7, 8, 9], [6, 7, 8, 9, 10], [2, 3, 4, 5, 6, 7, 8, 9, 10, 11], [1, 2, 3, 4, 5, 6, 7, 8, 9, 10, 11, 12], [1, 2, 3, 4, 5, 6, 7, 8, 9, 10, 11, 12, 13], [0, 1, 2, 3, 4, 5, 6, 7, 8, 9, 10, 11, 12, 13, 14], [0, 1, 2, 3, 4, 5, 6, 7, 8, 9, 10, 11, 12, 13, 14, 15]] [[some false, none, none, none, none, none, none, none, none, none, none, none, none, none, none, some false, some false], [none, some false, none, none, none, none, none, none, none, none, none, none, none, some false, some false, some false, some false], [none, none, some false, none, some false, some false, none, none, none, none, none, none, some false, some false, some false, some false, some false], [none, none, none, some false, some false, some false, none, none, none, none, none, none, some false, some false, some false, some false, some false], [none, none, some true, some true, some false, some false, none, none, none, none, none, none, some false, some false, some false, some false, some false], [none, none, some true, some true, some true, some false, none, none, none, none, none, none, some false, some false, some false, some false, some false], [none, none, none, none, none, none, some false, none, none, none, none, some false, some false, some false, some false, some false, some false], [none, none, none, none, none, none, none, some false, none, some false, some false, some false, some false, some false, some false, some false, some false], [none, none, none, none, none, none, none, none, some false, some false, some false, some false, some false, some false, some false, some false, some false], [none, none, none, none, none, none, none, some true, some true, some false, some false, some false, some false, some false, some false, some false, some false], [none, none, none, none, none, none, none, some true, some true, some true, some false, some false, some false, some false, some false, some false, some false], [none, none, none, none, none, none, some true, some true, some true, some true, some true, some false, some false, some false, some false, some false, some false], [none, none, some true, some true, some true, some true, some true, some true, some true, some true, some true, some true, some false, some false, some false, some false, some false], [none, some true, some true, some true, some true, some true, some true, some true, some true, some true, some true, some true, some true, some false, some false, some false, some false], [none, some true, some true, some true, some true, some true, some true, some true, some true, some true, some true, some true, some true, some true, some false, some false, some false], [some true, some true, some true, some true, some true, some true, some true, some true, some true, some true, some true, some true, some true, some true, some true, some false, some false], [some true, some true, some true, some true, some true, some true, some true, some true, some true, some true, some true, some true, some true, some true, some true, some true, some false]] (by kernel_rfl) (fun _ => rfl) rfl rfl rfl rfl rfl (fun _ _ => ⟨⟨⟨⟨⟨⟨⟨⟨⟨⟨⟨⟨⟨⟨⟨⟨⟨trivial, rfl⟩, rfl⟩, rfl⟩, rfl⟩, rfl⟩, rfl⟩, rfl⟩, rfl⟩, rfl⟩, rfl⟩, rfl⟩, rfl⟩, rfl⟩, rfl⟩, rfl⟩, rfl⟩, rfl⟩) 1 [1, 0] (fun _ => by kernel_rfl) ?_ ?_
      · refine ⟨rfl, ?_, rfl, ?_, rfl, ?_, rfl, ?_, rfl, ?_, rfl, ?_, rfl, ?_, rfl, ?_, rfl, ?_, rfl, ?_, rfl, ?_, rfl, ?_, rfl, ?_, rfl, ?_, rfl, ?_, rfl, ?_, rfl, ?_, trivial⟩
        · intro b1_ b2_ b3_ b4_ b5_ b6_ b7_ b8_ b9_ b10_ b11_ b12_ b13_ b14_ g1
          refine TL.move rfl rfl (v := SV.v s4) rfl ?_
          refine TL.done ?_
          exact TC.nrm () [] ⟨rfl, trivial⟩ [0, 0] (by kernel_rfl)
        · intro b0_ b2_ b3_ b4_ b5_ b6_ b7_ b8_ b9_ b10_ b11_ b12_ g1
          refine TL.move rfl rfl (v := .int .i64 p1) rfl ?_
          refine TL.done ?_
          exact TC.nrm () [] ⟨rfl, trivial⟩ [0, 0] (by kernel_rfl)
        · intro b0_ b1_ b3_ b6_ b7_ b8_ b9_ b10_ b11_ g1
          refine TL.move rfl rfl (v := SV.v s1) rfl ?_
          refine TL.done ?_
          exact TC.nrm () [] ⟨rfl, trivial⟩ [0, 0] (by kernel_rfl)
        · intro b0_ b1_ b2_ b6_ b7_ b8_ b9_ b10_ b11_ g1
          refine TL.move rfl rfl (v := .int .i64 i1) rfl ?_
          refine TL.done ?_
          exact TC.nrm () [] ⟨rfl, trivial⟩ [0, 0] (by kernel_rfl)
        · intro b0_ b1_ b6_ b7_ b8_ b9_ b10_ b11_ g1
          refine TL.asL [row Ei 2 s4 out1, emp] (by kernel_rfl) ?_
          refine TL.ixs i1 i1.toNat (Rd.old h1) h3 Try.underlying22 Try.sizeOf2 rfl rfl rfl rfl (by omega) ?_
          refine TL.done ?_
          exact TC.nrm () [] ⟨rfl, trivial⟩ [0, 0] (by kernel_rfl)
        · intro b0_ b1_ b6_ b7_ b8_ b9_ b10_ b11_ g1
          refine TL.asL [row Ei 2 s4 out1, emp] (by kernel_rfl) ?_
          refine TL.loadE (Rd.old h1) Try.isAgg2 i1.toNat 0 (gt_spec h3) (v := .int .i64 (gt row_1 i1)) rfl (by simp only [show Ei.sz = 1 from rfl] <;> omega) rfl rfl rfl ?_
          refine TL.done ?_
          exact TC.nrm () [] ⟨rfl, trivial⟩ [0, 0] (by kernel_rfl)
        · intro b0_ b1_ b2_ b3_ b4_ b5_ b7_ b8_ b9_ b10_ g1
          refine TL.move rfl rfl (v := .int .i64 k_1) rfl ?_
          refine TL.done ?_
          exact TC.nrm () [] ⟨rfl, trivial⟩ [0, 0] (by kernel_rfl)
        · intro b0_ b1_ b2_ b3_ b4_ b5_ b6_ b8_ g1
          refine TL.move rfl rfl (v := SV.v s2) rfl ?_
          refine TL.done ?_
          exact TC.nrm () [] ⟨rfl, trivial⟩ [0, 0] (by kernel_rfl)
        · intro b0_ b1_ b2_ b3_ b4_ b5_ b6_ b7_ g1
          refine TL.move rfl rfl (v := .int .i64 i1) rfl ?_
          refine TL.done ?_
          exact TC.nrm () [] ⟨rfl, trivial⟩ [0, 0] (by kernel_rfl)
        · intro b0_ b1_ b2_ b3_ b4_ b5_ b6_ g1
          refine TL.asL [row Ei 2 s4 out1, emp] (by kernel_rfl) ?_
          refine TL.ixs i1 i1.toNat (Rd.old h2) h4 Try.underlying22 Try.sizeOf2 rfl rfl rfl rfl (by omega) ?_
          refine TL.done ?_
          exact TC.nrm () [] ⟨rfl, trivial⟩ [0, 0] (by kernel_rfl)
        · intro b0_ b1_ b2_ b3_ b4_ b5_ b6_ g1
          refine TL.asL [row Ei 2 s4 out1, emp] (by kernel_rfl) ?_
          refine TL.loadE (Rd.old h2) Try.isAgg2 i1.toNat 0 (gt_spec h4) (v := .int .i64 (gt other1 i1)) rfl (by simp only [show Ei.sz = 1 from rfl] <;> omega) rfl rfl rfl ?_
          refine TL.done ?_
          exact TC.nrm () [] ⟨rfl, trivial⟩ [0, 0] (by kernel_rfl)
        · intro b0_ b1_ b2_ b3_ b4_ b5_ g1
          refine TL.bin .i64 k_1 (gt other1 i1) rfl rfl rfl rfl (v := .int .i64 (w64 (k_1 * (gt other1 i1)))) rfl ?_
          refine TL.done ?_
          exact TC.nrm () [] ⟨rfl, trivial⟩ [0, 0] (by kernel_rfl)
        · intro b0_ b1_ g1
          refine TL.bin .i64 (gt row_1 i1) (w64 (k_1 * (gt other1 i1))) rfl rfl rfl rfl (v := .int .i64 (w64 ((gt row_1 i1) - (w64 (k_1 * (gt other1 i1)))))) rfl ?_
          refine TL.done ?_
          exact TC.nrm () [] ⟨rfl, trivial⟩ [0, 0] (by kernel_rfl)
        · intro b0_ g1
          refine TL.asL [row Ei 2 s4 out1, emp] (by kernel_rfl) ?_
          refine TL.callH (R := G.spec_l01Mod.R) hr1 Try.call146 rfl rfl rfl (fun w hS => G.spec_l01Mod.calls w p1 (w64 ((gt row_1 i1) - (w64 (k_1 * (gt other1 i1)))))) ?_
          rintro _ _ ⟨rfl, rfl⟩
          refine TL.done ?_
          exact TC.nrm () [] ⟨rfl, trivial⟩ [0, 0] (by kernel_rfl)
        · intro b0_ g1
          refine TL.asL [row Ei 2 s4 out1, emp] (by kernel_rfl) ?_
          refine TL.blit Ei ([r_1] : List Int) Try.underlying22 Try.sizeOf2 Try.zeroValue2 rfl rfl rfl [(0, .int .i64 r_1)] rfl ⟨rfl, rfl, trivial⟩ rfl rfl fun s5 => ?_
          refine TL.done ?_
          exact TC.nrm () [[s5]] ⟨rfl, trivial⟩ [1, 0] (by kernel_rfl)
        · intro g1
          refine TL.asL [row Ei 2 s4 out1, row Ei 2 (gs (g1 112)) ([r_1] : List Int)] (by kernel_rfl) ?_
          refine TL.append 0 rfl (Rd.row 1 rfl) Try.underlying22 (info_of Try.type2) (zv := (Try.t2.zero.getD (.bool false))) rfl rfl rfl (by decide) h5 rfl rfl rfl rfl fun s6 => ?_
          refine TL.done ?_
          exact TC.nrm () [[s6]] ⟨rfl, trivial⟩ [0, 0] (by kernel_rfl)
        · intro g1
          refine TL.assign rfl rfl (v := SV.v (gs (g1 120))) rfl ?_
          refine TL.done ?_
          exact TC.nrm () [] ⟨rfl, trivial⟩ [0, 0] (by kernel_rfl)
      · intro g1
        refine TC.asL [row Ei 2 (gs (g1 120)) (out1 ++ ([r_1] : List Int)), row Ei 2 (gs (g1 112)) ([r_1] : List Int)] (by kernel_rfl) ?_
        refine TC.region ?_
        refine TL.move rfl rfl (v := .int .i64 i1) rfl ?_
        refine TL.bin .i64 i1 1 rfl rfl rfl rfl (v := .int .i64 (w64 (i1 + 1))) rfl ?_
        refine TL.assign rfl rfl (v := .int .i64 (w64 (i1 + 1))) rfl ?_
        refine TL.done ?_
        exact TC.next1 (((out1 ++ ([r_1] : List Int)), (w64 (i1 + 1)))) ((gs (g1 120))) ⟨rfl, rfl, rfl, rfl, rfl, rfl, trivial⟩ [0] rfl
    · exact TC.brk1 ((out1, i1)) (s4) ⟨rfl, rfl, rfl, rfl, rfl, rfl, trivial⟩ [0] rfl
  · rintro ⟨out1, i1⟩ s4
    refine TC.seq ?_
    refine TC.region ?_
    refine TL.move rfl rfl (v := SV.v s4) rfl ?_
    refine TL.assign rfl rfl (v := SV.v s4) rfl ?_
    refine TL.done ?_
    exact TC.retF (Fin.body (fin1 (.inr rfl) rfl (.tmp rfl) [0] rfl ⟨s4, rfl, rfl⟩))

end Go.Proofs.Ytjjfoofjipafiaa.G

/- spec.l01Inverse, as a pure function. -/
set_option linter.unusedVariables false
namespace Go.Proofs.Ytjjfoofjipafiaa.G
open Go Go.Sx Go.Proofs

def spec_l01Inverse.b0 (p1 : Int) (x1 : Int) : Int → Option (LR Int Int) := fun k_1 => (bif (decide (k_1 < p1)) then (G.spec_l01Mod.f p1 x1).bind (fun r_1 => nz p1 ((bif ((Int.tmod (w64 (k_1 * r_1)) p1) == 1) then some (.ret (k_1)) else some (.next (w64 (k_1 + 1)))))) else some (.brk k_1))

def spec_l01Inverse.f (p1 : Int) (x1 : Int) : Option Int := (loop (spec_l01Inverse.b0 p1 x1) 1).bind (ln (fun k_1 => some 0))

def spec_l01Inverse.R (r : Int) (v : Value) (L : List Asn) : Prop := v = .int .i64 r ∧ L = []

set_option maxRecDepth 100000 in
set_option maxHeartbeats 4000000 in
theorem spec_l01Inverse.calls (w : World) (p1 : Int) (x1 : Int) :
    ∀ r, spec_l01Inverse.f p1 x1 = some r → Calls Try.prog 144 #[.int .i64 p1, .int .i64 x1] w (Ret w (spec_l01Inverse.R r)) := by

  refine calls_T (n := 20) (Γ := [(0, .int .i64 p1), (1, .int .i64 x1)]) (R := spec_l01Inverse.R) Try.func144 rfl rfl (Nat.le_of_ble_eq_true rfl) ⟨rfl, rfl, trivial⟩ ?_
  unfold spec_l01Inverse.f
  refine TC.seq ?_
  refine TC.region ?_
  refine TL.assign rfl rfl (v := .int .i64 0) rfl ?_
  refine TL.done ?_
  refine TC.seq ?_
  refine TC.seq ?_
  refine TC.region ?_
  refine TL.assign rfl rfl (v := .int .i64 1) rfl ?_
  refine TL.done ?_
  refine TC.loopK (σ := Int) (γ := Unit) (Γ' := (fun k_1 _ => [(0, .int .i64 p1), (1, .int .i64 x1), (5, .int .i64 k_1)])) (L' := (fun k_1 _ => [])) (Γb := (fun k_1 _ => [(0, .int .i64 p1), (1, .int .i64 x1), (5, .int .i64 k_1)])) (Lb := (fun k_1 _ => [])) (1) (()) ⟨rfl, rfl, rfl, trivial⟩ [] rfl ?_ ?_
  · rintro k_1 _
    refine TC.seq ?_
    refine TC.seq ?_
    refine TC.region ?_
    refine TL.move rfl rfl (v := .int .i64 k_1) rfl ?_
    refine TL.move rfl rfl (v := .int .i64 p1) rfl ?_
    refine TL.bin .i64 k_1 p1 rfl rfl rfl rfl (v := .bool (decide (k_1 < p1))) rfl ?_
    refine TL.done ?_
    refine TC.cond (b := (decide (k_1 < p1))) rfl (fun c1 => ?_) (fun c2 => ?_)
    · refine TC.skip ?_
      refine TC.seq ?_
      refine TC.block (NoEx.loop rfl NoEx.body) ?_
      refine TC.seq ?_
      refine TC.region ?_
      refine TL.move rfl rfl (v := .int .i64 k_1) rfl ?_
      refine TL.move rfl rfl (v := .int .i64 p1) rfl ?_
      refine TL.move rfl rfl (v := .int .i64 x1) rfl ?_
      refine TL.call (R := G.spec_l01Mod.R) Try.call146 rfl rfl rfl (fun w hS => G.spec_l01Mod.calls w p1 x1) ?_
      rintro r_1 _ _ ⟨rfl, rfl⟩
      refine TL.bin .i64 k_1 r_1 rfl rfl rfl rfl (v := .int .i64 (w64 (k_1 * r_1))) rfl ?_
      refine TL.move rfl rfl (v := .int .i64 p1) rfl ?_
      refine TL.nz fun z1 => ?_
      refine TL.rem .i64 (w64 (k_1 * r_1)) p1 z1 rfl rfl rfl rfl ?_
      refine TL.bin .i64 (Int.tmod (w64 (k_1 * r_1)) p1) 1 rfl rfl rfl rfl (v := .bool ((Int.tmod (w64 (k_1 * r_1)) p1) == 1)) rfl ?_
      refine TL.done ?_
      refine TC.cond (b := ((Int.tmod (w64 (k_1 * r_1)) p1) == 1)) rfl (fun c3 => ?_) (fun c4 => ?_)
      · refine TC.seq ?_
        refine TC.region ?_
        refine TL.move rfl rfl (v := .int .i64 k_1) rfl ?_
        refine TL.assign rfl rfl (v := .int .i64 k_1) rfl ?_
        refine TL.done ?_
        exact TC.retF (Fin.loop Far.ret (Fin.body (fin1 (.inr rfl) rfl (.tmp rfl) [] rfl ⟨rfl, rfl⟩)))
      · refine TC.skip ?_
        refine TC.region ?_
        refine TL.move rfl rfl (v := .int .i64 k_1) rfl ?_
        refine TL.bin .i64 k_1 1 rfl rfl rfl rfl (v := .int .i64 (w64 (k_1 + 1))) rfl ?_
        refine TL.assign rfl rfl (v := .int .i64 (w64 (k_1 + 1))) rfl ?_
        refine TL.done ?_
        exact TC.next ((w64 (k_1 + 1))) (()) ⟨rfl, rfl, rfl, trivial⟩ [] rfl
    · exact TC.brk (k_1) (()) ⟨rfl, rfl, rfl, trivial⟩ [] rfl
  · rintro k_1 _
    refine TC.seq ?_
    refine TC.region ?_
    refine TL.assign rfl rfl (v := .int .i64 0) rfl ?_
    refine TL.done ?_
    exact TC.retF (Fin.body (fin1 (.inr rfl) rfl (.tmp rfl) [] rfl ⟨rfl, rfl⟩))

end Go.Proofs.Ytjjfoofjipafiaa.G

/- spec.l01Echelon, as a pure function. -/
set_option linter.unusedVariables false
namespace Go.Proofs.Ytjjfoofjipafiaa.G
open Go Go.Sx Go.Proofs

def spec_l01Echelon.b0 (x3 : List (List Int)) (x1 : Int) : (List Int) × Int → Option (LB ((List Int) × Int)) := fun p => match p with | (x6, x7) => (bif (decide (x7 < (x3.length : Int))) then chk x7 x3.length ((G.spec_l01Lead.f (gt x3 x7)).bind (fun r_2 => chk r_2 x6.length ((G.spec_l01Less.f x1 x6 (gt x3 x7) (gt x6 r_2)).bind (fun r_3 => some (.next (r_3, (w64 (x7 + 1)))))))) else some (.brk (x6, x7)))

def spec_l01Echelon.b1 (x1 : Int) (r_5 : Int) : (List Int) × Int → Option (LB ((List Int) × Int)) := fun p => match p with | (l1, x8) => (bif (decide (x8 < (l1.length : Int))) then chk x8 l1.length (nz x1 (some (.next ((l1.set x8.toNat (Int.tmod (w64 ((gt l1 x8) * r_5)) x1)), (w64 (x8 + 1)))))) else some (.brk (l1, x8)))

def spec_l01Echelon.b2 (x3 : List (List Int)) (r_4 : Int) (l1 : List Int) (x1 : Int) : (List (List Int)) × Bool × Int → Option (LB ((List (List Int)) × Bool × Int)) := fun p => match p with | (x9, x10, x11) => (bif (decide (x11 < (x3.length : Int))) then (bif (!x10) then chk x11 x3.length ((G.spec_l01Lead.f (gt x3 x11)).bind (fun r_6 => some (decide (r_6 > r_4)))) else some false).bind (fun b_1 => ((bif b_1 then small (x9.length + 1) (some ((x9 ++ [l1]), true)) else some (x9, x10))).bind (fun p => match p with | (x12, x13) => chk x11 x3.length (chk r_4 ((gt x3 x11).length) ((G.spec_l01Less.f x1 (gt x3 x11) l1 (gt (gt x3 x11) r_4)).bind (fun r_7 => small (x12.length + 1) (some (.next ((x12 ++ [r_7]), x13, (w64 (x11 + 1)))))))))) else some (.brk (x9, x10, x11)))

def spec_l01Echelon.b3 (x2 : List (List Int)) (x1 : Int) : (List (List Int)) × Int → Option (LB ((List (List Int)) × Int)) := fun p => match p with | (x3, x4) => (bif (decide (x4 < (x2.length : Int))) then (chk x4 x2.length ((G.spec_l01Own.f (gt x2 x4)).bind (fun r_1 => (loop1 (spec_l01Echelon.b0 x3 x1) (r_1, 0)).bind (fun p => match p with | (x6, x7) => (G.spec_l01Lead.f x6).bind (fun r_4 => (bif (decide (r_4 < 0)) then some (.inl x3) else chk r_4 x6.length ((G.spec_l01Inverse.f x1 (gt x6 r_4)).bind (fun r_5 => (loop1 (spec_l01Echelon.b1 x1 r_5) (x6, 0)).bind (fun p => match p with | (l1, x8) => (loop1 (spec_l01Echelon.b2 x3 r_4 l1 x1) (([] : List (List Int)), false, 0)).bind (fun p => match p with | (x9, x10, x11) => ((bif (!x10) then small (x9.length + 1) (some (x9 ++ [l1])) else some x9)).bind (fun x14 => some (.inl x14)))))))))))).bind (jn (fun x5 => some (.next (x5, (w64 (x4 + 1)))))) else some (.brk (x3, x4)))

def spec_l01Echelon.f (x1 : Int) (x2 : List (List Int)) : Option (List (List Int)) := (loop1 (spec_l01Echelon.b3 x2 x1) (([] : List (List Int)), 0)).bind (fun p => match p with | (x3, x4) => some x3)

def spec_l01Echelon.R (r : List (List Int)) (v : Value) (L : List Asn) : Prop := ∃ (s0 : SV) (ss0 : List SV), v = SV.v s0 ∧ L = [mat Ei 2 22 s0 ss0 r]

set_option maxRecDepth 100000 in
set_option maxHeartbeats 4000000 in
theorem spec_l01Echelon.calls (w : World) (x1 : Int) (s1 : SV) (ss1 : List SV) (x2 : List (List Int)) (h1 : ReadsM Ei (hp w) s1 ss1 x2) :
    ∀ r, spec_l01Echelon.f x1 x2 = some r → Calls Try.prog 134 #[.int .i64 x1, SV.v s1] w (Ret w (spec_l01Echelon.R r)) := by

  refine calls_T (n := 124) (Γ := [(0, .int .i64 x1), (1, SV.v s1)]) (R := spec_l01Echelon.R) Try.func134 rfl rfl (Nat.le_of_ble_eq_true rfl) ⟨rfl, rfl, trivial⟩ ?_
  unfold spec_l01Echelon.f
  refine TC.seq ?_
  refine TC.region ?_
  refine TL.assign rfl rfl (v := SV.v ⟨none, 0, 0⟩) rfl ?_
  refine TL.done ?_
  refine TC.seq ?_
  refine TC.region ?_
  refine TL.bslice0 Ev Try.underlying96 Try.sizeOf22 rfl rfl fun s2 => ?_
  refine TL.rows0 Ei 2 ?_
  refine TL.matmk 1 0 rfl rfl ?_
  refine TL.asL [mat Ei 2 22 s2 ([] : List SV) ([] : List (List Int)), emp] (by kernel_rfl) ?_
  refine TL.assign rfl rfl (v := SV.v s2) rfl ?_
  refine TL.done ?_
  refine TC.seq ?_
  refine TC.seq ?_
  refine TC.region ?_
  refine TL.assign rfl rfl (v := .int .i64 0) rfl ?_
  refine TL.done ?_
  refine TC.loop1 (σ := (List (List Int)) × Int) (γ := SV × (List SV)) (Γ' := (fun p q => match p, q with | (x3, x4), (s3, ss2) => [(0, .int .i64 x1), (1, SV.v s1), (5, SV.v s3), (6, .int .i64 x4)])) (L' := (fun p q => match p, q with | (x3, x4), (s3, ss2) => [mat Ei 2 22 s3 ss2 x3])) (Γb := (fun p q => match p, q with | (x3, x4), (s3, ss2) => [(0, .int .i64 x1), (1, SV.v s1), (5, SV.v s3), (6, .int .i64 x4)])) (Lb := (fun p q => match p, q with | (x3, x4), (s3, ss2) => [mat Ei 2 22 s3 ss2 x3])) ((([] : List (List Int)), 0)) ((s2, ([] : List SV))) ⟨rfl, rfl, rfl, rfl, trivial⟩ [0] rfl ?_ ?_
  · rintro ⟨x3, x4⟩ ⟨s3, ss2⟩
    refine TC.seq ?_
    refine TC.seq ?_
    refine TC.region ?_
    refine TL.move rfl rfl (v := .int .i64 x4) rfl ?_
    refine TL.move rfl rfl (v := SV.v s1) rfl ?_
    refine TL.lenM (RdM.old h1) Try.underlying96 rfl rfl rfl ?_
    refine TL.bin .i64 x4 (x2.length : Int) rfl rfl rfl rfl (v := .bool (decide (x4 < (x2.length : Int)))) rfl ?_
    refine TL.done ?_
    refine TC.cond (b := (decide (x4 < (x2.length : Int)))) rfl (fun c1 => ?_) (fun c2 => ?_)
    · refine TC.skip ?_
      refine TC.seq ?_
      refine TC.blockJ (σ := (List (List Int))) (γ := SV × (List SV)) (Γ' := (fun p q => match p, q with | x5, (s4, ss3) => [(0, .int .i64 x1), (1, SV.v s1), (5, SV.v s4), (6, .int .i64 x4)])) (L' := (fun p q => match p, q with | x5, (s4, ss3) => [mat Ei 2 22 s4 ss3 x5])) ?_ ?_
      · refine TC.seq ?_
        refine TC.region ?_
        refine TL.move rfl rfl (v := SV.v s1) rfl ?_
        refine TL.move rfl rfl (v := .int .i64 x4) rfl ?_
        refine TL.chk fun h2 => ?_
        refine TL.ixsM x4 x4.toNat (RdM.old h1) h2 Try.underlying96 Try.sizeOf22 rfl rfl rfl rfl (by omega) ?_
        refine TL.loadM2 (RdM.old h1) Try.isAgg22 x4 h2 (by omega) rfl rfl rfl ?_
        refine TL.call (R := G.spec_l01Own.R) Try.call142 rfl rfl rfl (fun w hS => G.spec_l01Own.calls w (gt ss1 x4) (gt x2 x4) ((RdM.inn (RdM.old h1) h2) w hS)) ?_
        rintro r_1 _ _ ⟨s5, rfl, rfl⟩
        refine TL.assign rfl rfl (v := SV.v s5) rfl ?_
        refine TL.done ?_
        refine TC.seq ?_
        refine TC.seq ?_
        refine TC.region ?_
        refine TL.assign rfl rfl (v := .int .i64 0) rfl ?_
        refine TL.done ?_
        refine TC.loop1 (σ := (List Int) × Int) (γ := SV) (Γ' := (fun p q => match p, q with | (x6, x7), s6 => [(0, .int .i64 x1), (1, SV.v s1), (5, SV.v s3), (6, .int .i64 x4), (7, SV.v s6), (8, .int .i64 x7)])) (L' := (fun p q => match p, q with | (x6, x7), s6 => [mat Ei 2 22 s3 ss2 x3, row Ei 2 s6 x6])) (Γb := (fun p q => match p, q with | (x6, x7), s6 => [(0, .int .i64 x1), (1, SV.v s1), (5, SV.v s3), (6, .int .i64 x4), (7, SV.v s6), (8, .int .i64 x7)])) (Lb := (fun p q => match p, q with | (x6, x7), s6 => [mat Ei 2 22 s3 ss2 x3, row Ei 2 s6 x6])) ((r_1, 0)) (s5) ⟨rfl, rfl, rfl, rfl, rfl, rfl, trivial⟩ [1, 0] rfl ?_ ?_
        · rintro ⟨x6, x7⟩ s6
          refine TC.seq ?_
          refine TC.seq ?_
          refine TC.region ?_
          refine TL.move rfl rfl (v := .int .i64 x7) rfl ?_
          refine TL.move rfl rfl (v := SV.v s3) rfl ?_
          refine TL.lenM (RdM.mat 0 rfl) Try.underlying96 rfl rfl rfl ?_
          refine TL.bin .i64 x7 (x3.length : Int) rfl rfl rfl rfl (v := .bool (decide (x7 < (x3.length : Int)))) rfl ?_
          refine TL.done ?_
          refine TC.cond (b := (decide (x7 < (x3.length : Int)))) rfl (fun c3 => ?_) (fun c4 => ?_)
          · refine TC.skip ?_
            refine TC.seq ?_
            refine TC.block (NoEx.loop1 rfl) ?_
            refine TC.seq ?_
            refine TC.region ?_
            refine TL.move rfl rfl (v := SV.v s3) rfl ?_
            refine TL.move rfl rfl (v := .int .i64 x7) rfl ?_
            refine TL.chk fun h3 => ?_
            refine TL.ixsM x7 x7.toNat (RdM.mat 0 rfl) h3 Try.underlying96 Try.sizeOf22 rfl rfl rfl rfl (by omega) ?_
            refine TL.loadM2 (RdM.mat 0 rfl) Try.isAgg22 x7 h3 (by omega) rfl rfl rfl ?_
            refine TL.call (R := G.spec_l01Lead.R) Try.call135 rfl rfl rfl (fun w hS => G.spec_l01Lead.calls w (gt ss2 x7) (gt x3 x7) ((RdM.inn (RdM.mat 0 rfl) h3) w hS)) ?_
            rintro r_2 _ _ ⟨rfl, rfl⟩
            refine TL.assign rfl rfl (v := .int .i64 r_2) rfl ?_
            refine TL.done ?_
            refine TC.wk (Γ' := [(0, .int .i64 x1), (1, SV.v s1), (5, SV.v s3), (6, .int .i64 x4), (8, .int .i64 x7), (28, .int .i64 x7), (29, SV.v s3), (30, .int .i64 (x3.length : Int)), (31, .bool (decide (x7 < (x3.length : Int)))), (34, SV.v s3), (35, .int .i64 x7), (36, ep s3 x7.toNat), (37, SV.v (gt ss2 x7)), (38, .int .i64 r_2), (9, .int .i64 r_2), (7, SV.v s6)]) ⟨rfl, rfl, rfl, rfl, rfl, rfl, rfl, rfl, rfl, rfl, rfl, rfl, rfl, rfl, rfl, rfl, trivial⟩ ?_
            refine TC.chk fun h4 => ?_
            refine TC.bindE ?_
            rintro r_3 hr1
            refine TC.drawG [(0, .int .i64 x1), (1, SV.v s1), (5, SV.v s3), (6, .int .i64 x4), (8, .int .i64 x7), (28, .int .i64 x7), (29, SV.v s3), (30, .int .i64 (x3.length : Int)), (31, .bool (decide (x7 < (x3.length : Int)))), (34, SV.v s3), (35, .int .i64 x7), (36, ep s3 x7.toNat), (37, SV.v (gt ss2 x7)), (38, .int .i64 r_2), (9, .int .i64 r_2)] [(7, SV.v s6, 11)] ⟨rfl, rfl, rfl, rfl, rfl, rfl, rfl, rfl, rfl, rfl, rfl, rfl, rfl, rfl, rfl, trivial⟩ ⟨rfl, trivial⟩ (fun l_ g1 => [mat Ei 2 22 s3 ss2 x3, row Ei 2 s6 x6, (bif nb l_ 10 then row Ei 2 (gs (g1 80)) r_3 else emp)]) (fun g1 => [.int .i64 x1, SV.v s6, SV.v s3, .int .i64 x7, ep s3 x7.toNat, SV.v (gt ss2 x7), SV.v s6, .int .i64 r_2, ep s6 r_2.toNat, .int .i64 (gt x6 r_2), SV.v (gs (g1 80)), SV.v (gs (g1 80))]) [[], [], [], [], [2, 3], [2, 3, 4], [], [], [6, 7], [6, 7, 8], [0, 1, 2, 3, 4, 5, 6, 7, 8, 9], [0, 1, 2, 3, 4, 5, 6, 7, 8, 9, 10]] [[some false, none, none, none, none, none, none, none, none, none, some false, some false], [none, some false, none, none, none, none, none, none, none, none, some false, some false], [none, none, some false, none, some false, some false, none, none, none, none, some false, some false], [none, none, none, some false, some false, some false, none, none, none, none, some false, some false], [none, none, some true, some true, some false, some false, none, none, none, none, some false, some false], [none, none, some true, some true, some true, some false, none, none, none, none, some false, some false], [none, none, none, none, none, none, some false, none, some false, some false, some false, some false], [none, none, none, none, none, none, none, some false, some false, some false, some false, some false], [none, none, none, none, none, none, some true, some true, some false, some false, some false, some false], [none, none, none, none, none, none, some true, some true, some true, some false, some false, some false], [some true, some true, some true, some true, some true, some true, some true, some true, some true, some true, some false, some false], [some true, some true, some true, some true, some true, some true, some true, some true, some true, some true, some true, some false]] (by kernel_rfl) (fun _ => rfl) rfl rfl rfl rfl rfl (fun _ _ => ⟨⟨⟨⟨⟨⟨⟨⟨⟨⟨⟨⟨trivial, rfl⟩, rfl⟩, rfl⟩, rfl⟩, rfl⟩, rfl⟩, rfl⟩, rfl⟩, rfl⟩, rfl⟩, rfl⟩, rfl⟩) 1 [1, 1, 0] (fun _ => by kernel_rfl) ?_ ?_
            · refine ⟨rfl, ?_, rfl, ?_, rfl, ?_, rfl, ?_, rfl, ?_, rfl, ?_, rfl, ?_, rfl, ?_, rfl, ?_, rfl, ?_, rfl, ?_, rfl, ?_, trivial⟩
              · intro b1_ b2_ b3_ b4_ b5_ b6_ b7_ b8_ b9_ g1
                refine TL.move rfl rfl (v := .int .i64 x1) rfl ?_
                refine TL.done ?_
                exact TC.nrm () [] ⟨rfl, trivial⟩ [0, 0, 0] (by kernel_rfl)
              · intro b0_ b2_ b3_ b4_ b5_ b6_ b7_ b8_ b9_ g1
                refine TL.move rfl rfl (v := SV.v s6) rfl ?_
                refine TL.done ?_
                exact TC.nrm () [] ⟨rfl, trivial⟩ [0, 0, 0] (by kernel_rfl)
              · intro b0_ b1_ b3_ b6_ b7_ b8_ b9_ g1
                refine TL.move rfl rfl (v := SV.v s3) rfl ?_
                refine TL.done ?_
                exact TC.nrm () [] ⟨rfl, trivial⟩ [0, 0, 0] (by kernel_rfl)
              · intro b0_ b1_ b2_ b6_ b7_ b8_ b9_ g1
                refine TL.move rfl rfl (v := .int .i64 x7) rfl ?_
                refine TL.done ?_
                exact TC.nrm () [] ⟨rfl, trivial⟩ [0, 0, 0] (by kernel_rfl)
              · intro b0_ b1_ b6_ b7_ b8_ b9_ g1
                refine TL.asL [mat Ei 2 22 s3 ss2 x3, row Ei 2 s6 x6, emp] (by kernel_rfl) ?_
                refine TL.ixsM x7 x7.toNat (RdM.mat 0 rfl) h3 Try.underlying96 Try.sizeOf22 rfl rfl rfl rfl (by omega) ?_
                refine TL.done ?_
                exact TC.nrm () [] ⟨rfl, trivial⟩ [0, 0, 0] (by kernel_rfl)
              · intro b0_ b1_ b6_ b7_ b8_ b9_ g1
                refine TL.asL [mat Ei 2 22 s3 ss2 x3, row Ei 2 s6 x6, emp] (by kernel_rfl) ?_
                refine TL.loadM2 (RdM.mat 0 rfl) Try.isAgg22 x7 h3 (by omega) rfl rfl rfl ?_
                refine TL.done ?_
                exact TC.nrm () [] ⟨rfl, trivial⟩ [0, 0, 0] (by kernel_rfl)
              · intro b0_ b1_ b2_ b3_ b4_ b5_ b7_ g1
                refine TL.move rfl rfl (v := SV.v s6) rfl ?_
                refine TL.done ?_
                exact TC.nrm () [] ⟨rfl, trivial⟩ [0, 0, 0] (by kernel_rfl)
              · intro b0_ b1_ b2_ b3_ b4_ b5_ b6_ g1
                refine TL.move rfl rfl (v := .int .i64 r_2) rfl ?_
                refine TL.done ?_
                exact TC.nrm () [] ⟨rfl, trivial⟩ [0, 0, 0] (by kernel_rfl)
              · intro b0_ b1_ b2_ b3_ b4_ b5_ g1
                refine TL.asL [mat Ei 2 22 s3 ss2 x3, row Ei 2 s6 x6, emp] (by kernel_rfl) ?_
                refine TL.ixs r_2 r_2.toNat (Rd.row 1 rfl) h4 Try.underlying22 Try.sizeOf2 rfl rfl rfl rfl (by omega) ?_
                refine TL.done ?_
                exact TC.nrm () [] ⟨rfl, trivial⟩ [0, 0, 0] (by kernel_rfl)
              · intro b0_ b1_ b2_ b3_ b4_ b5_ g1
                refine TL.asL [mat Ei 2 22 s3 ss2 x3, row Ei 2 s6 x6, emp] (by kernel_rfl) ?_
                refine TL.loadE (Rd.row 1 rfl) Try.isAgg2 r_2.toNat 0 (gt_spec h4) (v := .int .i64 (gt x6 r_2)) rfl (by simp only [show Ei.sz = 1 from rfl] <;> omega) rfl rfl rfl ?_
                refine TL.done ?_
                exact TC.nrm () [] ⟨rfl, trivial⟩ [0, 0, 0] (by kernel_rfl)
              · intro g1
                refine TL.asL [mat Ei 2 22 s3 ss2 x3, row Ei 2 s6 x6, emp] (by kernel_rfl) ?_
                refine TL.callH (R := G.spec_l01Less.R) hr1 Try.call143 rfl rfl rfl (fun w hS => G.spec_l01Less.calls w x1 s6 x6 (gt ss2 x7) (gt x3 x7) (gt x6 r_2) ((Rd.row 1 rfl) w hS) ((RdM.inn (RdM.mat 0 rfl) h3) w hS)) ?_
                rintro _ _ ⟨s7, rfl, rfl⟩
                refine TL.done ?_
                exact TC.nrm () [[s7]] ⟨rfl, trivial⟩ [1, 1, 0] (by kernel_rfl)
              · intro g1
                refine TL.assign rfl rfl (v := SV.v (gs (g1 80))) rfl ?_
                refine TL.done ?_
                exact TC.nrm () [] ⟨rfl, trivial⟩ [0, 0, 0] (by kernel_rfl)
            · intro g1
              refine TC.asL [mat Ei 2 22 s3 ss2 x3, row Ei 2 s6 x6, row Ei 2 (gs (g1 80)) r_3] (by kernel_rfl) ?_
              refine TC.region ?_
              refine TL.move rfl rfl (v := .int .i64 x7) rfl ?_
              refine TL.bin .i64 x7 1 rfl rfl rfl rfl (v := .int .i64 (w64 (x7 + 1))) rfl ?_
              refine TL.assign rfl rfl (v := .int .i64 (w64 (x7 + 1))) rfl ?_
              refine TL.done ?_
              exact TC.next1 ((r_3, (w64 (x7 + 1)))) ((gs (g1 80))) ⟨rfl, rfl, rfl, rfl, rfl, rfl, trivial⟩ [0, 1] rfl
          · exact TC.brk1 ((x6, x7)) (s6) ⟨rfl, rfl, rfl, rfl, rfl, rfl, trivial⟩ [0, 0] rfl
        · rintro ⟨x6, x7⟩ s6
          refine TC.seq ?_
          refine TC.region ?_
          refine TL.move rfl rfl (v := SV.v s6) rfl ?_
          refine TL.call (R := G.spec_l01Lead.R) Try.call135 rfl rfl rfl (fun w hS => G.spec_l01Lead.calls w s6 x6 ((Rd.row 1 rfl) w hS)) ?_
          rintro r_4 _ _ ⟨rfl, rfl⟩
          refine TL.assign rfl rfl (v := .int .i64 r_4) rfl ?_
          refine TL.done ?_
          refine TC.seq ?_
          refine TC.seq ?_
          refine TC.region ?_
          refine TL.move rfl rfl (v := .int .i64 r_4) rfl ?_
          refine TL.bin .i64 r_4 0 rfl rfl rfl rfl (v := .bool (decide (r_4 < 0))) rfl ?_
          refine TL.done ?_
          refine TC.cond (b := (decide (r_4 < 0))) rfl (fun c5 => ?_) (fun c6 => ?_)
          · exact TC.exB (x3) ((s3, ss2)) ⟨rfl, rfl, rfl, rfl, trivial⟩ [0] rfl
          · refine TC.skip ?_
            refine TC.seq ?_
            refine TC.region ?_
            refine TL.move rfl rfl (v := .int .i64 x1) rfl ?_
            refine TL.move rfl rfl (v := SV.v s6) rfl ?_
            refine TL.move rfl rfl (v := .int .i64 r_4) rfl ?_
            refine TL.chk fun h5 => ?_
            refine TL.ixs r_4 r_4.toNat (Rd.row 1 rfl) h5 Try.underlying22 Try.sizeOf2 rfl rfl rfl rfl (by omega) ?_
            refine TL.loadE (Rd.row 1 rfl) Try.isAgg2 r_4.toNat 0 (gt_spec h5) (v := .int .i64 (gt x6 r_4)) rfl (by simp only [show Ei.sz = 1 from rfl] <;> omega) rfl rfl rfl ?_
            refine TL.call (R := G.spec_l01Inverse.R) Try.call144 rfl rfl rfl (fun w hS => G.spec_l01Inverse.calls w x1 (gt x6 r_4)) ?_
            rintro r_5 _ _ ⟨rfl, rfl⟩
            refine TL.assign rfl rfl (v := .int .i64 r_5) rfl ?_
            refine TL.done ?_
            refine TC.seq ?_
            refine TC.seq ?_
            refine TC.region ?_
            refine TL.assign rfl rfl (v := .int .i64 0) rfl ?_
            refine TL.done ?_
            refine TC.loop1 (σ := (List Int) × Int) (γ := Unit) (Γ' := (fun p q => match p, q with | (l1, x8), _ => [(0, .int .i64 x1), (1, SV.v s1), (5, SV.v s3), (6, .int .i64 x4), (7, SV.v s6), (10, .int .i64 r_4), (11, .int .i64 r_5), (12, .int .i64 x8)])) (L' := (fun p q => match p, q with | (l1, x8), _ => [mat Ei 2 22 s3 ss2 x3, row Ei 2 s6 l1])) (Γb := (fun p q => match p, q with | (l1, x8), _ => [(0, .int .i64 x1), (1, SV.v s1), (5, SV.v s3), (6, .int .i64 x4), (7, SV.v s6), (10, .int .i64 r_4), (11, .int .i64 r_5), (12, .int .i64 x8)])) (Lb := (fun p q => match p, q with | (l1, x8), _ => [mat Ei 2 22 s3 ss2 x3, row Ei 2 s6 l1])) ((x6, 0)) (()) ⟨rfl, rfl, rfl, rfl, rfl, rfl, rfl, rfl, trivial⟩ [0, 0] rfl ?_ ?_
            · rintro ⟨l1, x8⟩ _
              refine TC.seq ?_
              refine TC.seq ?_
              refine TC.region ?_
              refine TL.move rfl rfl (v := .int .i64 x8) rfl ?_
              refine TL.move rfl rfl (v := SV.v s6) rfl ?_
              refine TL.len (Rd.row 1 rfl) Try.underlying22 rfl rfl rfl ?_
              refine TL.bin .i64 x8 (l1.length : Int) rfl rfl rfl rfl (v := .bool (decide (x8 < (l1.length : Int)))) rfl ?_
              refine TL.done ?_
              refine TC.cond (b := (decide (x8 < (l1.length : Int)))) rfl (fun c7 => ?_) (fun c8 => ?_)
              · refine TC.skip ?_
                refine TC.seq ?_
                refine TC.block (NoEx.loop1 rfl) ?_
                refine TC.region ?_
                refine TL.move rfl rfl (v := SV.v s6) rfl ?_
                refine TL.move rfl rfl (v := .int .i64 x8) rfl ?_
                refine TL.move rfl rfl (v := SV.v s6) rfl ?_
                refine TL.move rfl rfl (v := .int .i64 x8) rfl ?_
                refine TL.chk fun h6 => ?_
                refine TL.ixs x8 x8.toNat (Rd.row 1 rfl) h6 Try.underlying22 Try.sizeOf2 rfl rfl rfl rfl (by omega) ?_
                refine TL.loadE (Rd.row 1 rfl) Try.isAgg2 x8.toNat 0 (gt_spec h6) (v := .int .i64 (gt l1 x8)) rfl (by simp only [show Ei.sz = 1 from rfl] <;> omega) rfl rfl rfl ?_
                refine TL.move rfl rfl (v := .int .i64 r_5) rfl ?_
                refine TL.bin .i64 (gt l1 x8) r_5 rfl rfl rfl rfl (v := .int .i64 (w64 ((gt l1 x8) * r_5))) rfl ?_
                refine TL.move rfl rfl (v := .int .i64 x1) rfl ?_
                refine TL.nz fun z1 => ?_
                refine TL.rem .i64 (w64 ((gt l1 x8) * r_5)) x1 z1 rfl rfl rfl rfl ?_
                refine TL.ixs x8 x8.toNat (Rd.row 1 rfl) h6 Try.underlying22 Try.sizeOf2 rfl rfl rfl rfl (by omega) ?_
                refine TL.stE 1 (x8.toNat) (Int.tmod (w64 ((gt l1 x8) * r_5)) x1) (v := .int .i64 (Int.tmod (w64 ((gt l1 x8) * r_5)) x1)) rfl Try.sizeOf2 rfl rfl rfl (by have h_ := h6; omega) (by simp only [show Ei.sz = 1 from rfl] <;> omega) rfl rfl rfl ?_
                refine TL.done ?_
                refine TC.region ?_
                refine TL.move rfl rfl (v := .int .i64 x8) rfl ?_
                refine TL.bin .i64 x8 1 rfl rfl rfl rfl (v := .int .i64 (w64 (x8 + 1))) rfl ?_
                refine TL.assign rfl rfl (v := .int .i64 (w64 (x8 + 1))) rfl ?_
                refine TL.done ?_
                exact TC.next1 (((l1.set x8.toNat (Int.tmod (w64 ((gt l1 x8) * r_5)) x1)), (w64 (x8 + 1)))) (()) ⟨rfl, rfl, rfl, rfl, rfl, rfl, rfl, rfl, trivial⟩ [0, 0] rfl
              · exact TC.brk1 ((l1, x8)) (()) ⟨rfl, rfl, rfl, rfl, rfl, rfl, rfl, rfl, trivial⟩ [0, 0] rfl
            · rintro ⟨l1, x8⟩ _
              refine TC.seq ?_
              refine TC.region ?_
              refine TL.bslice0 Ev Try.underlying96 Try.sizeOf22 rfl rfl fun s8 => ?_
              refine TL.rows0 Ei 2 ?_
              refine TL.matmk 1 0 rfl rfl ?_
              refine TL.asL [mat Ei 2 22 s8 ([] : List SV) ([] : List (List Int)), emp, mat Ei 2 22 s3 ss2 x3, row Ei 2 s6 l1] (by kernel_rfl) ?_
              refine TL.assign rfl rfl (v := SV.v s8) rfl ?_
              refine TL.assign rfl rfl (v := .bool false) rfl ?_
              refine TL.done ?_
              refine TC.seq ?_
              refine TC.seq ?_
              refine TC.region ?_
              refine TL.assign rfl rfl (v := .int .i64 0) rfl ?_
              refine TL.done ?_
              refine TC.asL [matP Ei 2 22 false s6 l1 s8 ([] : List SV) ([] : List (List Int)), emp, mat Ei 2 22 s3 ss2 x3, row Ei 2 s6 l1] (by kernel_rfl) ?_
              refine TC.loop1 (σ := (List (List Int)) × Bool × Int) (γ := SV × (List SV)) (Γ' := (fun p q => match p, q with | (x9, x10, x11), (s9, ss4) => [(0, .int .i64 x1), (1, SV.v s1), (5, SV.v s3), (6, .int .i64 x4), (7, SV.v s6), (10, .int .i64 r_4), (13, SV.v s9), (14, .bool x10), (15, .int .i64 x11)])) (L' := (fun p q => match p, q with | (x9, x10, x11), (s9, ss4) => [mat Ei 2 22 s3 ss2 x3, row Ei 2 s6 l1, matP Ei 2 22 x10 s6 l1 s9 ss4 x9])) (Γb := (fun p q => match p, q with | (x9, x10, x11), (s9, ss4) => [(0, .int .i64 x1), (1, SV.v s1), (5, SV.v s3), (6, .int .i64 x4), (7, SV.v s6), (10, .int .i64 r_4), (13, SV.v s9), (14, .bool x10), (15, .int .i64 x11)])) (Lb := (fun p q => match p, q with | (x9, x10, x11), (s9, ss4) => [mat Ei 2 22 s3 ss2 x3, row Ei 2 s6 l1, matP Ei 2 22 x10 s6 l1 s9 ss4 x9])) ((([] : List (List Int)), false, 0)) ((s8, ([] : List SV))) ⟨rfl, rfl, rfl, rfl, rfl, rfl, rfl, rfl, rfl, trivial⟩ [2, 2, 0] rfl ?_ ?_
              · rintro ⟨x9, x10, x11⟩ ⟨s9, ss4⟩
                refine TC.seq ?_
                refine TC.seq ?_
                refine TC.region ?_
                refine TL.move rfl rfl (v := .int .i64 x11) rfl ?_
                refine TL.move rfl rfl (v := SV.v s3) rfl ?_
                refine TL.lenM (RdM.mat 0 rfl) Try.underlying96 rfl rfl rfl ?_
                refine TL.bin .i64 x11 (x3.length : Int) rfl rfl rfl rfl (v := .bool (decide (x11 < (x3.length : Int)))) rfl ?_
                refine TL.done ?_
                refine TC.cond (b := (decide (x11 < (x3.length : Int)))) rfl (fun c9 => ?_) (fun c10 => ?_)
                · refine TC.skip ?_
                  refine TC.seq ?_
                  refine TC.block (NoEx.loop1 rfl) ?_
                  refine TC.seq ?_
                  refine TC.seq ?_
                  refine TC.region ?_
                  refine TL.move rfl rfl (v := .bool x10) rfl ?_
                  refine TL.not x10 rfl rfl rfl ?_
                  refine TL.move rfl rfl (v := .bool (!x10)) rfl ?_
                  refine TL.cutJh (σ := Bool) (γ := Unit) (Γ' := fun b_1 _ => [(94, .bool b_1), (0, .int .i64 x1), (1, SV.v s1), (5, SV.v s3), (6, .int .i64 x4), (7, SV.v s6), (10, .int .i64 r_4), (13, SV.v s9), (14, .bool x10), (15, .int .i64 x11), (78, .int .i64 x11), (79, SV.v s3), (80, .int .i64 (x3.length : Int)), (81, .bool (decide (x11 < (x3.length : Int)))), (84, .bool x10), (85, .bool (!x10)), (86, .bool (!x10))]) (L' := fun _ _ => [mat Ei 2 22 s3 ss2 x3, row Ei 2 s6 l1, matP Ei 2 22 x10 s6 l1 s9 ss4 x9]) 8 ?_ ?_
                  · refine TL.ifb (t := 86) (b := (!x10)) rfl (fun c11 => ?_) (fun c12 => ?_)
                    · refine TL.move rfl rfl (v := SV.v s3) rfl ?_
                      refine TL.move rfl rfl (v := .int .i64 x11) rfl ?_
                      refine TL.chk fun h7 => ?_
                      refine TL.ixsM x11 x11.toNat (RdM.mat 0 rfl) h7 Try.underlying96 Try.sizeOf22 rfl rfl rfl rfl (by omega) ?_
                      refine TL.loadM2 (RdM.mat 0 rfl) Try.isAgg22 x11 h7 (by omega) rfl rfl rfl ?_
                      refine TL.call (R := G.spec_l01Lead.R) Try.call135 rfl rfl rfl (fun w hS => G.spec_l01Lead.calls w (gt ss2 x11) (gt x3 x11) ((RdM.inn (RdM.mat 0 rfl) h7) w hS)) ?_
                      rintro r_6 _ _ ⟨rfl, rfl⟩
                      refine TL.move rfl rfl (v := .int .i64 r_4) rfl ?_
                      refine TL.bin .i64 r_6 r_4 rfl rfl rfl rfl (v := .bool (decide (r_6 > r_4))) rfl ?_
                      refine TL.pick rfl rfl (b := true) rfl (r := .bool (decide (r_6 > r_4))) rfl ?_
                      refine TL.done ?_
                      exact TC.nrm ((decide (r_6 > r_4))) () ⟨rfl, rfl, rfl, rfl, rfl, rfl, rfl, rfl, rfl, rfl, rfl, rfl, rfl, rfl, rfl, rfl, (by rw [c11]; rfl), trivial⟩ [0, 0, 0] (by kernel_rfl)
                    · refine TL.skip rfl rfl (by decide) ?_
                      refine TL.skip rfl rfl (by decide) ?_
                      refine TL.skip rfl rfl (by decide) ?_
                      refine TL.skip rfl rfl (by decide) ?_
                      refine TL.skip rfl rfl (by decide) ?_
                      refine TL.skip rfl rfl (by decide) ?_
                      refine TL.skip rfl rfl (by decide) ?_
                      refine TL.pick rfl rfl (b := false) rfl (r := .bool false) rfl ?_
                      refine TL.done ?_
                      exact TC.nrm (false) () ⟨rfl, rfl, rfl, rfl, rfl, rfl, rfl, rfl, rfl, rfl, rfl, rfl, rfl, rfl, rfl, rfl, (by rw [c12]; rfl), trivial⟩ [0, 0, 0] (by kernel_rfl)
                  · rintro b_1 _ hq1
                    refine TL.done ?_
                    refine TC.join1 (σ := (List (List Int)) × Bool) (γ := SV × (List SV)) (Γ' := (fun p q => match p, q with | (x12, x13), (s10, ss5) => [(0, .int .i64 x1), (1, SV.v s1), (5, SV.v s3), (6, .int .i64 x4), (7, SV.v s6), (10, .int .i64 r_4), (13, SV.v s10), (14, .bool x13), (15, .int .i64 x11)])) (L' := (fun p q => match p, q with | (x12, x13), (s10, ss5) => [mat Ei 2 22 s3 ss2 x3, row Ei 2 s6 l1, matP Ei 2 22 x13 s6 l1 s10 ss5 x12])) ?_ ?_
                    · refine TC.cond (b := b_1) rfl (fun c13 => ?_) (fun c14 => ?_)
                      · have hp_ : x10 = false := by cases hv_ : x10 with | false => rfl | true => (rw [hv_, c13] at hq1; cases hq1)
                        refine TC.asL [mat Ei 2 22 s3 ss2 x3, row Ei 2 s6 l1, mat Ei 2 22 s9 ss4 x9] (by rw [hp_]; first | done | kernel_rfl) ?_
                        refine TC.seq ?_
                        refine TC.region ?_
                        refine TL.move rfl rfl (v := SV.v s9) rfl ?_
                        refine TL.move rfl rfl (v := SV.v s6) rfl ?_
                        refine TL.blit Ev ([s6] : List SV) Try.underlying96 Try.sizeOf22 Try.zeroValue22 rfl rfl rfl [(0, SV.v s6)] rfl ⟨rfl, rfl, trivial⟩ rfl rfl fun s11 => ?_
                        refine TL.small fun h8 => ?_
                        refine TL.matlen 3 rfl fun h9 => ?_
                        refine TL.matcut 3 rfl ?_
                        refine TL.append 0 rfl (Rd.row 1 rfl) Try.underlying96 (info_of Try.type22) (zv := (Try.t22.zero.getD (.bool false))) rfl rfl rfl (by decide) (by have h_ := h8; have l_ := h9; (try simp only [List.length_cons, List.length_nil] at h_ l_ ⊢); omega) rfl rfl rfl rfl fun s12 => ?_
                        refine TL.pushHole s6 l1 4 rfl ?_
                        refine TL.matPmk 0 4 rfl rfl ?_
                        refine TL.drop 0 rfl ?_
                        refine TL.asL [row Ev 22 s11 ([s6] : List SV), mat Ei 2 22 s3 ss2 x3, row Ei 2 s6 l1, matP Ei 2 22 true s6 l1 s12 (ss4 ++ [s6]) (x9 ++ [l1])] (by kernel_rfl) ?_
                        refine TL.assign rfl rfl (v := SV.v s12) rfl ?_
                        refine TL.done ?_
                        refine TC.region ?_
                        refine TL.assign rfl rfl (v := .bool true) rfl ?_
                        refine TL.done ?_
                        exact TC.nrm (((x9 ++ [l1]), true)) ((s12, (ss4 ++ [s6]))) ⟨rfl, rfl, rfl, rfl, rfl, rfl, rfl, rfl, rfl, trivial⟩ [1, 1, 1] rfl
                      · refine TC.skip ?_
                        exact TC.nrm ((x9, x10)) ((s9, ss4)) ⟨rfl, rfl, rfl, rfl, rfl, rfl, rfl, rfl, rfl, trivial⟩ [0, 0, 0] rfl
                    · rintro ⟨x12, x13⟩ ⟨s10, ss5⟩
                      refine TC.wk (Γ' := [(0, .int .i64 x1), (1, SV.v s1), (5, SV.v s3), (6, .int .i64 x4), (7, SV.v s6), (10, .int .i64 r_4), (14, .bool x13), (15, .int .i64 x11), (13, SV.v s10)]) ⟨rfl, rfl, rfl, rfl, rfl, rfl, rfl, rfl, rfl, trivial⟩ ?_
                      refine TC.chk fun h10 => ?_
                      refine TC.chk fun h11 => ?_
                      refine TC.bindE ?_
                      rintro r_7 hr2
                      refine TC.small fun h12 => ?_
                      refine TC.drawG [(0, .int .i64 x1), (1, SV.v s1), (5, SV.v s3), (6, .int .i64 x4), (7, SV.v s6), (10, .int .i64 r_4), (14, .bool x13), (15, .int .i64 x11)] [(13, SV.v s10, 17)] ⟨rfl, rfl, rfl, rfl, rfl, rfl, rfl, rfl, trivial⟩ ⟨rfl, trivial⟩ (fun l_ g2 => [mat Ei 2 22 s3 ss2 x3, row Ei 2 s6 l1, (bif nb l_ 16 then emp else matP Ei 2 22 x13 s6 l1 s10 ss5 x12), (bif nb l_ 16 then matP Ei 2 22 x13 s6 l1 (gs (g2 128)) (ss5 ++ [(gs (g2 112))]) (x12 ++ [r_7]) else (bif nb l_ 14 then row Ei 2 (gs (g2 112)) r_7 else emp)), (bif nb l_ 15 then row Ev 22 (gs (g2 120)) ([(gs (g2 112))] : List SV) else emp)]) (fun g2 => [SV.v s10, .int .i64 x1, SV.v s3, .int .i64 x11, ep s3 x11.toNat, SV.v (gt ss2 x11), SV.v s6, SV.v s3, .int .i64 x11, ep s3 x11.toNat, SV.v (gt ss2 x11), .int .i64 r_4, ep (gt ss2 x11) r_4.toNat, .int .i64 (gt (gt x3 x11) r_4), SV.v (gs (g2 112)), SV.v (gs (g2 120)), SV.v (gs (g2 128)), SV.v (gs (g2 128))]) [[], [], [], [], [2, 3], [2, 3, 4], [], [], [], [7, 8], [7, 8, 9], [], [7, 8, 9, 10, 11], [7, 8, 9, 10, 11, 12], [1, 2, 3, 4, 5, 6, 7, 8, 9, 10, 11, 12, 13], [1, 2, 3, 4, 5, 6, 7, 8, 9, 10, 11, 12, 13, 14], [0, 1, 2, 3, 4, 5, 6, 7, 8, 9, 10, 11, 12, 13, 14, 15], [0, 1, 2, 3, 4, 5, 6, 7, 8, 9, 10, 11, 12, 13, 14, 15, 16]] [[some false, none, none, none, none, none, none, none, none, none, none, none, none, none, none, none, some false, some false], [none, some false, none, none, none, none, none, none, none, none, none, none, none, none, some false, some false, some false, some false], [none, none, some false, none, some false, some false, none, none, none, none, none, none, none, none, some false, some false, some false, some false], [none, none, none, some false, some false, some false, none, none, none, none, none, none, none, none, some false, some false, some false, some false], [none, none, some true, some true, some false, some false, none, none, none, none, none, none, none, none, some false, some false, some false, some false], [none, none, some true, some true, some true, some false, none, none, none, none, none, none, none, none, some false, some false, some false, some false], [none, none, none, none, none, none, some false, none, none, none, none, none, none, none, some false, some false, some false, some false], [none, none, none, none, none, none, none, some false, none, some false, some false, none, some false, some false, some false, some false, some false, some false], [none, none, none, none, none, none, none, none, some false, some false, some false, none, some false, some false, some false, some false, some false, some false], [none, none, none, none, none, none, none, some true, some true, some false, some false, none, some false, some false, some false, some false, some false, some false], [none, none, none, none, none, none, none, some true, some true, some true, some false, none, some false, some false, some false, some false, some false, some false], [none, none, none, none, none, none, none, none, none, none, none, some false, some false, some false, some false, some false, some false, some false], [none, none, none, none, none, none, none, some true, some true, some true, some true, some true, some false, some false, some false, some false, some false, some false], [none, none, none, none, none, none, none, some true, some true, some true, some true, some true, some true, some false, some false, some false, some false, some false], [none, some true, some true, some true, some true, some true, some true, some true, some true, some true, some true, some true, some true, some true, some false, some false, some false, some false], [none, some true, some true, some true, some true, some true, some true, some true, some true, some true, some true, some true, some true, some true, some true, some false, some false, some false], [some true, some true, some true, some true, some true, some true, some true, some true, some true, some true, some true, some true, some true, some true, some true, some true, some false, some false], [some true, some true, some true, some true, some true, some true, some true, some true, some true, some true, some true, some true, some true, some true, some true, some true, some true, some false]] (by kernel_rfl) (fun _ => rfl) rfl rfl rfl rfl rfl (fun _ _ => ⟨⟨⟨⟨⟨⟨⟨⟨⟨⟨⟨⟨⟨⟨⟨⟨⟨⟨trivial, rfl⟩, rfl⟩, rfl⟩, rfl⟩, rfl⟩, rfl⟩, rfl⟩, rfl⟩, rfl⟩, rfl⟩, rfl⟩, rfl⟩, rfl⟩, rfl⟩, rfl⟩, rfl⟩, rfl⟩, rfl⟩) 2 [2, 2, 2, 0, 0] (fun _ => by kernel_rfl) ?_ ?_
                      · refine ⟨rfl, ?_, rfl, ?_, rfl, ?_, rfl, ?_, rfl, ?_, rfl, ?_, rfl, ?_, rfl, ?_, rfl, ?_, rfl, ?_, rfl, ?_, rfl, ?_, rfl, ?_, rfl, ?_, rfl, ?_, rfl, ?_, rfl, ?_, rfl, ?_, trivial⟩
                        · intro b1_ b2_ b3_ b4_ b5_ b6_ b7_ b8_ b9_ b10_ b11_ b12_ b13_ b14_ b15_ g2
                          refine TL.move rfl rfl (v := SV.v s10) rfl ?_
                          refine TL.done ?_
                          exact TC.nrm () [] ⟨rfl, trivial⟩ [0, 0, 0, 0, 0] (by kernel_rfl)
                        · intro b0_ b2_ b3_ b4_ b5_ b6_ b7_ b8_ b9_ b10_ b11_ b12_ b13_ g2
                          refine TL.move rfl rfl (v := .int .i64 x1) rfl ?_
                          refine TL.done ?_
                          exact TC.nrm () [] ⟨rfl, trivial⟩ [0, 0, 0, 0, 0] (by kernel_rfl)
                        · intro b0_ b1_ b3_ b6_ b7_ b8_ b9_ b10_ b11_ b12_ b13_ g2
                          refine TL.move rfl rfl (v := SV.v s3) rfl ?_
                          refine TL.done ?_
                          exact TC.nrm () [] ⟨rfl, trivial⟩ [0, 0, 0, 0, 0] (by kernel_rfl)
                        · intro b0_ b1_ b2_ b6_ b7_ b8_ b9_ b10_ b11_ b12_ b13_ g2
                          refine TL.move rfl rfl (v := .int .i64 x11) rfl ?_
                          refine TL.done ?_
                          exact TC.nrm () [] ⟨rfl, trivial⟩ [0, 0, 0, 0, 0] (by kernel_rfl)
                        · intro b0_ b1_ b6_ b7_ b8_ b9_ b10_ b11_ b12_ b13_ g2
                          refine TL.asL [mat Ei 2 22 s3 ss2 x3, row Ei 2 s6 l1, matP Ei 2 22 x13 s6 l1 s10 ss5 x12, emp, emp] (by kernel_rfl) ?_
                          refine TL.ixsM x11 x11.toNat (RdM.mat 0 rfl) h10 Try.underlying96 Try.sizeOf22 rfl rfl rfl rfl (by omega) ?_
                          refine TL.done ?_
                          exact TC.nrm () [] ⟨rfl, trivial⟩ [0, 0, 0, 0, 0] (by kernel_rfl)
                        · intro b0_ b1_ b6_ b7_ b8_ b9_ b10_ b11_ b12_ b13_ g2
                          refine TL.asL [mat Ei 2 22 s3 ss2 x3, row Ei 2 s6 l1, matP Ei 2 22 x13 s6 l1 s10 ss5 x12, emp, emp] (by kernel_rfl) ?_
                          refine TL.loadM2 (RdM.mat 0 rfl) Try.isAgg22 x11 h10 (by omega) rfl rfl rfl ?_
                          refine TL.done ?_
                          exact TC.nrm () [] ⟨rfl, trivial⟩ [0, 0, 0, 0, 0] (by kernel_rfl)
                        · intro b0_ b1_ b2_ b3_ b4_ b5_ b7_ b8_ b9_ b10_ b11_ b12_ b13_ g2
                          refine TL.move rfl rfl (v := SV.v s6) rfl ?_
                          refine TL.done ?_
                          exact TC.nrm () [] ⟨rfl, trivial⟩ [0, 0, 0, 0, 0] (by kernel_rfl)
                        · intro b0_ b1_ b2_ b3_ b4_ b5_ b6_ b8_ b11_ g2
                          refine TL.move rfl rfl (v := SV.v s3) rfl ?_
                          refine TL.done ?_
                          exact TC.nrm () [] ⟨rfl, trivial⟩ [0, 0, 0, 0, 0] (by kernel_rfl)
                        · intro b0_ b1_ b2_ b3_ b4_ b5_ b6_ b7_ b11_ g2
                          refine TL.move rfl rfl (v := .int .i64 x11) rfl ?_
                          refine TL.done ?_
                          exact TC.nrm () [] ⟨rfl, trivial⟩ [0, 0, 0, 0, 0] (by kernel_rfl)
                        · intro b0_ b1_ b2_ b3_ b4_ b5_ b6_ b11_ g2
                          refine TL.asL [mat Ei 2 22 s3 ss2 x3, row Ei 2 s6 l1, matP Ei 2 22 x13 s6 l1 s10 ss5 x12, emp, emp] (by kernel_rfl) ?_
                          refine TL.ixsM x11 x11.toNat (RdM.mat 0 rfl) h10 Try.underlying96 Try.sizeOf22 rfl rfl rfl rfl (by omega) ?_
                          refine TL.done ?_
                          exact TC.nrm () [] ⟨rfl, trivial⟩ [0, 0, 0, 0, 0] (by kernel_rfl)
                        · intro b0_ b1_ b2_ b3_ b4_ b5_ b6_ b11_ g2
                          refine TL.asL [mat Ei 2 22 s3 ss2 x3, row Ei 2 s6 l1, matP Ei 2 22 x13 s6 l1 s10 ss5 x12, emp, emp] (by kernel_rfl) ?_
                          refine TL.loadM2 (RdM.mat 0 rfl) Try.isAgg22 x11 h10 (by omega) rfl rfl rfl ?_
                          refine TL.done ?_
                          exact TC.nrm () [] ⟨rfl, trivial⟩ [0, 0, 0, 0, 0] (by kernel_rfl)
                        · intro b0_ b1_ b2_ b3_ b4_ b5_ b6_ b7_ b8_ b9_ b10_ g2
                          refine TL.move rfl rfl (v := .int .i64 r_4) rfl ?_
                          refine TL.done ?_
                          exact TC.nrm () [] ⟨rfl, trivial⟩ [0, 0, 0, 0, 0] (by kernel_rfl)
                        · intro b0_ b1_ b2_ b3_ b4_ b5_ b6_ g2
                          refine TL.asL [mat Ei 2 22 s3 ss2 x3, row Ei 2 s6 l1, matP Ei 2 22 x13 s6 l1 s10 ss5 x12, emp, emp] (by kernel_rfl) ?_
                          refine TL.ixs r_4 r_4.toNat (RdM.inn (RdM.mat 0 rfl) h10) h11 Try.underlying22 Try.sizeOf2 rfl rfl rfl rfl (by omega) ?_
                          refine TL.done ?_
                          exact TC.nrm () [] ⟨rfl, trivial⟩ [0, 0, 0, 0, 0] (by kernel_rfl)
                        · intro b0_ b1_ b2_ b3_ b4_ b5_ b6_ g2
                          refine TL.asL [mat Ei 2 22 s3 ss2 x3, row Ei 2 s6 l1, matP Ei 2 22 x13 s6 l1 s10 ss5 x12, emp, emp] (by kernel_rfl) ?_
                          refine TL.loadE (RdM.inn (RdM.mat 0 rfl) h10) Try.isAgg2 r_4.toNat 0 (gt_spec h11) (v := .int .i64 (gt (gt x3 x11) r_4)) rfl (by simp only [show Ei.sz = 1 from rfl] <;> omega) rfl rfl rfl ?_
                          refine TL.done ?_
                          exact TC.nrm () [] ⟨rfl, trivial⟩ [0, 0, 0, 0, 0] (by kernel_rfl)
                        · intro b0_ g2
                          refine TL.asL [mat Ei 2 22 s3 ss2 x3, row Ei 2 s6 l1, matP Ei 2 22 x13 s6 l1 s10 ss5 x12, emp, emp] (by kernel_rfl) ?_
                          refine TL.callH (R := G.spec_l01Less.R) hr2 Try.call143 rfl rfl rfl (fun w hS => G.spec_l01Less.calls w x1 (gt ss2 x11) (gt x3 x11) s6 l1 (gt (gt x3 x11) r_4) ((RdM.inn (RdM.mat 0 rfl) h10) w hS) ((Rd.row 1 rfl) w hS)) ?_
                          rintro _ _ ⟨s13, rfl, rfl⟩
                          refine TL.done ?_
                          exact TC.nrm () [[s13]] ⟨rfl, trivial⟩ [1, 1, 1, 0, 1] (by kernel_rfl)
                        · intro b0_ g2
                          refine TL.asL [mat Ei 2 22 s3 ss2 x3, row Ei 2 s6 l1, matP Ei 2 22 x13 s6 l1 s10 ss5 x12, row Ei 2 (gs (g2 112)) r_7, emp] (by kernel_rfl) ?_
                          refine TL.blit Ev ([(gs (g2 112))] : List SV) Try.underlying96 Try.sizeOf22 Try.zeroValue22 rfl rfl rfl [(0, SV.v (gs (g2 112)))] rfl ⟨rfl, rfl, trivial⟩ rfl rfl fun s14 => ?_
                          refine TL.done ?_
                          exact TC.nrm () [[s14]] ⟨rfl, trivial⟩ [1, 1, 1, 1, 0] (by kernel_rfl)
                        · intro g2
                          refine TL.asL [mat Ei 2 22 s3 ss2 x3, row Ei 2 s6 l1, matP Ei 2 22 x13 s6 l1 s10 ss5 x12, row Ei 2 (gs (g2 112)) r_7, row Ev 22 (gs (g2 120)) ([(gs (g2 112))] : List SV)] (by kernel_rfl) ?_
                          refine TL.matPlen 2 rfl fun h13 => ?_
                          refine TL.matPcut 2 rfl ?_
                          refine TL.append 0 rfl (Rd.row 5 rfl) Try.underlying96 (info_of Try.type22) (zv := (Try.t22.zero.getD (.bool false))) rfl rfl rfl (by decide) (by have h_ := h12; have l_ := h13; (try simp only [List.length_cons, List.length_nil] at h_ l_ ⊢); omega) rfl rfl rfl rfl fun s15 => ?_
                          refine TL.restPush 3 4 rfl rfl ?_
                          skip
                          refine TL.matPmk 0 4 rfl rfl ?_
                          refine TL.drop 0 rfl ?_
                          refine TL.asL [mat Ei 2 22 s3 ss2 x3, row Ei 2 s6 l1, emp, matP Ei 2 22 x13 s6 l1 s15 (ss5 ++ [(gs (g2 112))]) (x12 ++ [r_7]), row Ev 22 (gs (g2 120)) ([(gs (g2 112))] : List SV)] (by kernel_rfl) ?_
                          refine TL.done ?_
                          exact TC.nrm () [[s15]] ⟨rfl, trivial⟩ [0, 0, 0, 0, 0] (by kernel_rfl)
                        · intro g2
                          refine TL.assign rfl rfl (v := SV.v (gs (g2 128))) rfl ?_
                          refine TL.done ?_
                          exact TC.nrm () [] ⟨rfl, trivial⟩ [0, 0, 0, 0, 0] (by kernel_rfl)
                      · intro g2
                        refine TC.asL [mat Ei 2 22 s3 ss2 x3, row Ei 2 s6 l1, emp, matP Ei 2 22 x13 s6 l1 (gs (g2 128)) (ss5 ++ [(gs (g2 112))]) (x12 ++ [r_7]), row Ev 22 (gs (g2 120)) ([(gs (g2 112))] : List SV)] (by kernel_rfl) ?_
                        refine TC.region ?_
                        refine TL.move rfl rfl (v := .int .i64 x11) rfl ?_
                        refine TL.bin .i64 x11 1 rfl rfl rfl rfl (v := .int .i64 (w64 (x11 + 1))) rfl ?_
                        refine TL.assign rfl rfl (v := .int .i64 (w64 (x11 + 1))) rfl ?_
                        refine TL.done ?_
                        exact TC.next1 (((x12 ++ [r_7]), x13, (w64 (x11 + 1)))) (((gs (g2 128)), (ss5 ++ [(gs (g2 112))]))) ⟨rfl, rfl, rfl, rfl, rfl, rfl, rfl, rfl, rfl, trivial⟩ [0, 0, 1] rfl
                · exact TC.brk1 ((x9, x10, x11)) ((s9, ss4)) ⟨rfl, rfl, rfl, rfl, rfl, rfl, rfl, rfl, rfl, trivial⟩ [0, 0, 0] rfl
              · rintro ⟨x9, x10, x11⟩ ⟨s9, ss4⟩
                refine TC.seq ?_
                refine TC.seq ?_
                refine TC.region ?_
                refine TL.move rfl rfl (v := .bool x10) rfl ?_
                refine TL.not x10 rfl rfl rfl ?_
                refine TL.done ?_
                refine TC.join1 (σ := (List (List Int))) (γ := SV × (List SV)) (Γ' := (fun p q => match p, q with | x14, (s16, ss6) => [(0, .int .i64 x1), (1, SV.v s1), (6, .int .i64 x4), (13, SV.v s16)])) (L' := (fun p q => match p, q with | x14, (s16, ss6) => [mat Ei 2 22 s16 ss6 x14])) ?_ ?_
                · refine TC.cond (b := (!x10)) rfl (fun c15 => ?_) (fun c16 => ?_)
                  · have hp_ : x10 = false := by cases hv_ : x10 with | false => rfl | true => (rw [hv_] at c15; cases c15)
                    refine TC.asL [mat Ei 2 22 s3 ss2 x3, row Ei 2 s6 l1, mat Ei 2 22 s9 ss4 x9] (by rw [hp_]; first | done | kernel_rfl) ?_
                    refine TC.region ?_
                    refine TL.move rfl rfl (v := SV.v s9) rfl ?_
                    refine TL.move rfl rfl (v := SV.v s6) rfl ?_
                    refine TL.blit Ev ([s6] : List SV) Try.underlying96 Try.sizeOf22 Try.zeroValue22 rfl rfl rfl [(0, SV.v s6)] rfl ⟨rfl, rfl, trivial⟩ rfl rfl fun s17 => ?_
                    refine TL.small fun h14 => ?_
                    refine TL.matlen 3 rfl fun h15 => ?_
                    refine TL.matcut 3 rfl ?_
                    refine TL.append 0 rfl (Rd.row 1 rfl) Try.underlying96 (info_of Try.type22) (zv := (Try.t22.zero.getD (.bool false))) rfl rfl rfl (by decide) (by have h_ := h14; have l_ := h15; (try simp only [List.length_cons, List.length_nil] at h_ l_ ⊢); omega) rfl rfl rfl rfl fun s18 => ?_
                    refine TL.rowsPush 4 3 rfl rfl ?_
                    skip
                    refine TL.matmk 0 3 rfl rfl ?_
                    refine TL.drop 0 rfl ?_
                    refine TL.asL [row Ev 22 s17 ([s6] : List SV), mat Ei 2 22 s3 ss2 x3, mat Ei 2 22 s18 (ss4 ++ [s6]) (x9 ++ [l1]), emp] (by kernel_rfl) ?_
                    refine TL.assign rfl rfl (v := SV.v s18) rfl ?_
                    refine TL.done ?_
                    exact TC.nrm ((x9 ++ [l1])) ((s18, (ss4 ++ [s6]))) ⟨rfl, rfl, rfl, rfl, trivial⟩ [2] rfl
                  · have hp_ : x10 = true := by cases hv_ : x10 with | true => rfl | false => (rw [hv_] at c16; cases c16)
                    refine TC.asL [mat Ei 2 22 s3 ss2 x3, row Ei 2 s6 l1, matP Ei 2 22 true s6 l1 s9 ss4 x9] (by rw [hp_]; first | done | kernel_rfl) ?_
                    refine TC.closeP 1 2 rfl rfl ?_
                    refine TC.asL [mat Ei 2 22 s3 ss2 x3, emp, mat Ei 2 22 s9 ss4 x9] (by kernel_rfl) ?_
                    refine TC.skip ?_
                    exact TC.nrm (x9) ((s9, ss4)) ⟨rfl, rfl, rfl, rfl, trivial⟩ [2] rfl
                · rintro x14 ⟨s16, ss6⟩
                  refine TC.region ?_
                  refine TL.move rfl rfl (v := SV.v s16) rfl ?_
                  refine TL.assign rfl rfl (v := SV.v s16) rfl ?_
                  refine TL.done ?_
                  exact TC.inlB (x14) ((s16, ss6)) ⟨rfl, rfl, rfl, rfl, trivial⟩ [0] rfl
      · rintro x5 ⟨s4, ss3⟩
        refine TC.region ?_
        refine TL.move rfl rfl (v := .int .i64 x4) rfl ?_
        refine TL.bin .i64 x4 1 rfl rfl rfl rfl (v := .int .i64 (w64 (x4 + 1))) rfl ?_
        refine TL.assign rfl rfl (v := .int .i64 (w64 (x4 + 1))) rfl ?_
        refine TL.done ?_
        exact TC.next1 ((x5, (w64 (x4 + 1)))) ((s4, ss3)) ⟨rfl, rfl, rfl, rfl, trivial⟩ [0] rfl
    · exact TC.brk1 ((x3, x4)) ((s3, ss2)) ⟨rfl, rfl, rfl, rfl, trivial⟩ [0] rfl
  · rintro ⟨x3, x4⟩ ⟨s3, ss2⟩
    refine TC.seq ?_
    refine TC.region ?_
    refine TL.move rfl rfl (v := SV.v s3) rfl ?_
    refine TL.assign rfl rfl (v := SV.v s3) rfl ?_
    refine TL.done ?_
    exact TC.retF (Fin.body (fin1 (.inr rfl) rfl (.tmp rfl) [0] rfl ⟨s3, ss2, rfl, rfl⟩))

end Go.Proofs.Ytjjfoofjipafiaa.G
