/- Functions of the program, as pure functions. -/
import Derived.Test.YtiiljfpbcanphaaMNamedAlgebra2
import Derived.Test.YtiiljfpbcanphaaProg
/- spec.l01Named, as a pure function. -/
set_option linter.unusedVariables false
namespace Go.Proofs.Ytiiljfpbcanphaa.G
open Go Go.Sx Go.Proofs

def spec_l01Named.b0 (x3 : Int) : (Nat → UInt8) × Int → Option (LB ((Nat → UInt8) × Int)) := fun p => match p with | (y8, x4) => (bif (decide (x4 < 3)) then chk x3 6 (chk x4 6 (chk (Int.tmod (w64 (x3 + x4)) 3) 6 (some (.next ((upd y8 (x3.toNat * 36 + x4.toNat * 6 + (Int.tmod (w64 (x3 + x4)) 3).toNat) (1 : UInt8)), (w64 (x4 + 1))))))) else some (.brk (y8, x4)))

def spec_l01Named.b1 : (Nat → UInt8) × Int → Option (LB ((Nat → UInt8) × Int)) := fun p => match p with | (y7, x3) => (bif (decide (x3 < 3)) then (loop1 (spec_l01Named.b0 x3) (y7, 0)).bind (fun p => match p with | (y8, x4) => some (.next (y8, (w64 (x3 + 1))))) else some (.brk (y7, x3)))

def spec_l01Named.b2 (x5 : Int) : (Nat → UInt8) × Int → Option (LB ((Nat → UInt8) × Int)) := fun p => match p with | (y10, x6) => (bif (decide (x6 < 6)) then (G.spec_l01Permuted.f x5 x6).bind (fun r_1 => chk x5 6 (chk x6 6 (chk r_1 6 (some (.next ((upd y10 (x5.toNat * 36 + x6.toNat * 6 + r_1.toNat) (1 : UInt8)), (w64 (x6 + 1)))))))) else some (.brk (y10, x6)))

def spec_l01Named.b3 : (Nat → UInt8) × Int → Option (LB ((Nat → UInt8) × Int)) := fun p => match p with | (y9, x5) => (bif (decide (x5 < 6)) then (loop1 (spec_l01Named.b2 x5) (y9, 0)).bind (fun p => match p with | (y10, x6) => some (.next (y10, (w64 (x5 + 1))))) else some (.brk (y9, x5)))

def spec_l01Named.b4 (x7 : Int) : (Nat → UInt8) × Int → Option (LB ((Nat → UInt8) × Int)) := fun p => match p with | (y12, x8) => (bif (decide (x8 < 4)) then ((bif ((Int.tmod x7 2) == (w64 (Int.tdiv x8 2))) then chk x7 6 (chk x8 6 (chk (w64 ((w64 ((w64 (Int.tdiv x7 2)) * 2)) + (Int.tmod x8 2))) 6 (some (upd y12 (x7.toNat * 36 + x8.toNat * 6 + (w64 ((w64 ((w64 (Int.tdiv x7 2)) * 2)) + (Int.tmod x8 2))).toNat) (1 : UInt8))))) else some y12)).bind (fun y13 => some (.next (y13, (w64 (x8 + 1))))) else some (.brk (y12, x8)))

def spec_l01Named.b5 : (Nat → UInt8) × Int → Option (LB ((Nat → UInt8) × Int)) := fun p => match p with | (y11, x7) => (bif (decide (x7 < 4)) then (loop1 (spec_l01Named.b4 x7) (y11, 0)).bind (fun p => match p with | (y12, x8) => some (.next (y12, (w64 (x7 + 1))))) else some (.brk (y11, x7)))

def spec_l01Named.f (x1 : Str) (x2 : Int) : Option (Int × Int × (Nat → UInt8) × (Nat → UInt8) × Bool) := ((bif (x1 == ([102, 105, 101, 108, 100] : Str)) then some (.inl (1, (upd (fun _ => (0 : UInt8)) 0 (1 : UInt8)), (upd (fun _ => (0 : UInt8)) 0 (1 : UInt8)))) else (bif (x1 == ([100, 117, 97, 108] : Str)) then some (.inl (2, (upd (upd (upd (fun _ => (0 : UInt8)) 0 (1 : UInt8)) 7 (1 : UInt8)) 37 (1 : UInt8)), (upd (fun _ => (0 : UInt8)) 1 (1 : UInt8)))) else (bif (x1 == ([112, 97, 105, 114] : Str)) then some (.inl (2, (upd (upd (fun _ => (0 : UInt8)) 0 (1 : UInt8)) 43 (1 : UInt8)), (upd (upd (fun _ => (0 : UInt8)) 0 (1 : UInt8)) 1 (1 : UInt8)))) else (bif (x1 == ([99, 121, 99, 108, 105, 99, 51] : Str)) then (loop1 (spec_l01Named.b1) ((fun _ => (0 : UInt8)), 0)).bind (fun p => match p with | (y7, x3) => some (.inl (3, y7, (upd (fun _ => (0 : UInt8)) 0 (1 : UInt8))))) else (bif (x1 == ([115, 121, 109, 109, 101, 116, 114, 105, 99] : Str)) then (loop1 (spec_l01Named.b3) ((fun _ => (0 : UInt8)), 0)).bind (fun p => match p with | (y9, x5) => some (.inl (6, y9, (upd (fun _ => (0 : UInt8)) 0 (1 : UInt8))))) else (bif (x1 == ([109, 97, 116, 114, 105, 120] : Str)) then (loop1 (spec_l01Named.b5) ((fun _ => (0 : UInt8)), 0)).bind (fun p => match p with | (y11, x7) => some (.inl (4, y11, (upd (upd (upd (upd (fun _ => (0 : UInt8)) 0 (1 : UInt8)) 1 (0 : UInt8)) 2 (0 : UInt8)) 3 (1 : UInt8))))) else some (.inr ((0, 0, (fun _ => (0 : UInt8)), (fun _ => (0 : UInt8)), false)))))))))).bind (jn (fun p => match p with | (y4, y5, y6) => some (x2, y4, y5, y6, true)))

def spec_l01Named.R (r : Int × Int × (Nat → UInt8) × (Nat → UInt8) × Bool) (v : Value) (L : List Asn) : Prop := v = .tuple #[sval [.one (.int .i64 r.1), .one (.int .i64 r.2.1), .arr 216 (enf u8v r.2.2.1), .arr 6 (enf u8v r.2.2.2.1)], .bool r.2.2.2.2] ∧ L = []

set_option maxRecDepth 100000 in
set_option maxHeartbeats 4000000 in
theorem spec_l01Named.calls (w : World) (x1 : Str) (x2 : Int) :
    ∀ r, spec_l01Named.f x1 x2 = some r → Calls Try.prog 92 #[strv x1, .int .i64 x2] w (Ret w (spec_l01Named.R r)) := by

  refine calls_T (n := 132) (Γ := [(0, strv x1), (1, .int .i64 x2)]) (R := spec_l01Named.R) Try.func92 rfl rfl (Nat.le_of_ble_eq_true rfl) ⟨rfl, rfl, trivial⟩ ?_
  unfold spec_l01Named.f
  refine TC.seq ?_
  refine TC.region ?_
  refine TL.alloc [.one (.int .i64 0), .one (.int .i64 0), .arr 216 (enf u8v (fun _ => (0 : UInt8))), .arr 6 (enf u8v (fun _ => (0 : UInt8)))] rfl rfl Try.zeroValue43 rfl fun b_1 => ?_
  refine TL.assign rfl rfl (v := .bool false) rfl ?_
  refine TL.done ?_
  refine TC.seq ?_
  refine TC.region ?_
  refine TL.move rfl rfl (v := .int .i64 x2) rfl ?_
  refine TL.buildS (segs0 := [.one (.int .i64 0), .one (.int .i64 0), .arr 216 (enf u8v (fun _ => (0 : UInt8))), .arr 6 (enf u8v (fun _ => (0 : UInt8)))]) (segs := [.one (.int .i64 x2), .one (.int .i64 0), .arr 216 (enf u8v (fun _ => (0 : UInt8))), .arr 6 (enf u8v (fun _ => (0 : UInt8)))]) [1, 1, 216, 6] Try.underlying43 ⟨Try.sizeOf2, Try.sizeOf2, Try.sizeOf40, Try.sizeOf41, trivial⟩ Try.zeroValue43 rfl [(0, .int .i64 x2)] rfl (fun pl hpl => by subst hpl; exact fill_one 0 rfl rfl rfl rfl (rfl)) rfl rfl ?_
  refine TL.alloc [.one (.int .i64 0), .one (.int .i64 0), .arr 216 (enf u8v (fun _ => (0 : UInt8))), .arr 6 (enf u8v (fun _ => (0 : UInt8)))] rfl rfl Try.zeroValue43 rfl fun b_2 => ?_
  refine TL.stM (news := [.one (.int .i64 x2), .one (.int .i64 0), .arr 216 (enf u8v (fun _ => (0 : UInt8))), .arr 6 (enf u8v (fun _ => (0 : UInt8)))]) 0 0 4 rfl Try.sizeOf43 (ones_one rfl (ones_one rfl (ones_arr (fun _ => rfl) (ones_arr (fun _ => rfl) ones_nil)))) rfl rfl rfl rfl rfl rfl ?_
  refine TL.done ?_
  refine TC.seq ?_
  refine TC.seq ?_
  refine TC.region ?_
  refine TL.move rfl rfl (v := strv x1) rfl ?_
  refine TL.done ?_
  refine TC.block NoEx.body ?_
  refine TC.seq ?_
  refine TC.region ?_
  refine TL.strEq x1 ([102, 105, 101, 108, 100] : Str) rfl rfl rfl rfl ?_
  refine TL.assign rfl rfl (v := .bool (x1 == ([102, 105, 101, 108, 100] : Str))) rfl ?_
  refine TL.done ?_
  refine TC.join (σ := Int × (Nat → UInt8) × (Nat → UInt8)) (γ := Unit) (Γ' := (fun p q => match p, q with | (y4, y5, y6), _ => [(4, bp b_1 0), (6, bp b_2 0)])) (L' := (fun p q => match p, q with | (y4, y5, y6), _ => [box b_1 43 [.one (.int .i64 0), .one (.int .i64 0), .arr 216 (enf u8v (fun _ => (0 : UInt8))), .arr 6 (enf u8v (fun _ => (0 : UInt8)))], box b_2 43 [.one (.int .i64 x2), .one (.int .i64 y4), .arr 216 (enf u8v y5), .arr 6 (enf u8v y6)]])) ?_ ?_
  · refine TC.cond (b := (x1 == ([102, 105, 101, 108, 100] : Str))) rfl (fun c1 => ?_) (fun c2 => ?_)
    · refine TC.seq ?_
      refine TC.region ?_
      refine TL.fa Try.underlying43 rfl Try.sizeOf2 rfl 1 rfl rfl rfl rfl ?_
      refine TL.st1 0 1 rfl Try.sizeOf2 rfl rfl rfl rfl rfl rfl rfl ?_
      refine TL.done ?_
      refine TC.seq ?_
      refine TC.region ?_
      refine TL.fa Try.underlying43 rfl Try.sizeOf41 rfl 218 rfl rfl rfl rfl ?_
      refine TL.ixa 0 218 (by decide) Try.underlying41 Try.sizeOf5 rfl rfl rfl rfl rfl ?_
      refine TL.stA (e := u8v) (z := (1 : UInt8)) 0 3 0 rfl Try.sizeOf5 rfl (by omega) (s := 218) rfl rfl rfl rfl rfl rfl rfl ?_
      refine TL.done ?_
      refine TC.region ?_
      refine TL.fa Try.underlying43 rfl Try.sizeOf40 rfl 2 rfl rfl rfl rfl ?_
      refine TL.ixa 0 2 (by decide) Try.underlying40 Try.sizeOf39 rfl rfl rfl rfl rfl ?_
      refine TL.ixa 0 2 (by decide) Try.underlying39 Try.sizeOf38 rfl rfl rfl rfl rfl ?_
      refine TL.ixa 0 2 (by decide) Try.underlying38 Try.sizeOf5 rfl rfl rfl rfl rfl ?_
      refine TL.stA (e := u8v) (z := (1 : UInt8)) 0 2 0 rfl Try.sizeOf5 rfl (by omega) (s := 2) rfl rfl rfl rfl rfl rfl rfl ?_
      refine TL.done ?_
      exact TC.inl ((1, (upd (fun _ => (0 : UInt8)) 0 (1 : UInt8)), (upd (fun _ => (0 : UInt8)) 0 (1 : UInt8)))) (()) ⟨rfl, rfl, trivial⟩ [1, 0] rfl
    · refine TC.seq ?_
      refine TC.region ?_
      refine TL.strEq x1 ([100, 117, 97, 108] : Str) rfl rfl rfl rfl ?_
      refine TL.assign rfl rfl (v := .bool (x1 == ([100, 117, 97, 108] : Str))) rfl ?_
      refine TL.done ?_
      refine TC.cond (b := (x1 == ([100, 117, 97, 108] : Str))) rfl (fun c3 => ?_) (fun c4 => ?_)
      · refine TC.seq ?_
        refine TC.region ?_
        refine TL.fa Try.underlying43 rfl Try.sizeOf2 rfl 1 rfl rfl rfl rfl ?_
        refine TL.st1 0 1 rfl Try.sizeOf2 rfl rfl rfl rfl rfl rfl rfl ?_
        refine TL.done ?_
        refine TC.seq ?_
        refine TC.region ?_
        refine TL.fa Try.underlying43 rfl Try.sizeOf41 rfl 218 rfl rfl rfl rfl ?_
        refine TL.ixa 1 219 (by decide) Try.underlying41 Try.sizeOf5 rfl rfl rfl rfl rfl ?_
        refine TL.stA (e := u8v) (z := (1 : UInt8)) 0 3 1 rfl Try.sizeOf5 rfl (by omega) (s := 218) rfl rfl rfl rfl rfl rfl rfl ?_
        refine TL.done ?_
        refine TC.seq ?_
        refine TC.region ?_
        refine TL.fa Try.underlying43 rfl Try.sizeOf40 rfl 2 rfl rfl rfl rfl ?_
        refine TL.ixa 0 2 (by decide) Try.underlying40 Try.sizeOf39 rfl rfl rfl rfl rfl ?_
        refine TL.ixa 0 2 (by decide) Try.underlying39 Try.sizeOf38 rfl rfl rfl rfl rfl ?_
        refine TL.ixa 0 2 (by decide) Try.underlying38 Try.sizeOf5 rfl rfl rfl rfl rfl ?_
        refine TL.stA (e := u8v) (z := (1 : UInt8)) 0 2 0 rfl Try.sizeOf5 rfl (by omega) (s := 2) rfl rfl rfl rfl rfl rfl rfl ?_
        refine TL.done ?_
        refine TC.seq ?_
        refine TC.region ?_
        refine TL.fa Try.underlying43 rfl Try.sizeOf40 rfl 2 rfl rfl rfl rfl ?_
        refine TL.ixa 0 2 (by decide) Try.underlying40 Try.sizeOf39 rfl rfl rfl rfl rfl ?_
        refine TL.ixa 1 8 (by decide) Try.underlying39 Try.sizeOf38 rfl rfl rfl rfl rfl ?_
        refine TL.ixa 1 9 (by decide) Try.underlying38 Try.sizeOf5 rfl rfl rfl rfl rfl ?_
        refine TL.stA (e := u8v) (z := (1 : UInt8)) 0 2 7 rfl Try.sizeOf5 rfl (by omega) (s := 2) rfl rfl rfl rfl rfl rfl rfl ?_
        refine TL.done ?_
        refine TC.region ?_
        refine TL.fa Try.underlying43 rfl Try.sizeOf40 rfl 2 rfl rfl rfl rfl ?_
        refine TL.ixa 1 38 (by decide) Try.underlying40 Try.sizeOf39 rfl rfl rfl rfl rfl ?_
        refine TL.ixa 0 38 (by decide) Try.underlying39 Try.sizeOf38 rfl rfl rfl rfl rfl ?_
        refine TL.ixa 1 39 (by decide) Try.underlying38 Try.sizeOf5 rfl rfl rfl rfl rfl ?_
        refine TL.stA (e := u8v) (z := (1 : UInt8)) 0 2 37 rfl Try.sizeOf5 rfl (by omega) (s := 2) rfl rfl rfl rfl rfl rfl rfl ?_
        refine TL.done ?_
        exact TC.inl ((2, (upd (upd (upd (fun _ => (0 : UInt8)) 0 (1 : UInt8)) 7 (1 : UInt8)) 37 (1 : UInt8)), (upd (fun _ => (0 : UInt8)) 1 (1 : UInt8)))) (()) ⟨rfl, rfl, trivial⟩ [1, 0] rfl
      · refine TC.seq ?_
        refine TC.region ?_
        refine TL.strEq x1 ([112, 97, 105, 114] : Str) rfl rfl rfl rfl ?_
        refine TL.assign rfl rfl (v := .bool (x1 == ([112, 97, 105, 114] : Str))) rfl ?_
        refine TL.done ?_
        refine TC.cond (b := (x1 == ([112, 97, 105, 114] : Str))) rfl (fun c5 => ?_) (fun c6 => ?_)
        · refine TC.seq ?_
          refine TC.region ?_
          refine TL.fa Try.underlying43 rfl Try.sizeOf2 rfl 1 rfl rfl rfl rfl ?_
          refine TL.st1 0 1 rfl Try.sizeOf2 rfl rfl rfl rfl rfl rfl rfl ?_
          refine TL.done ?_
          refine TC.seq ?_
          refine TC.region ?_
          refine TL.buildA (segs0 := [.arr 6 (enf u8v (fun _ => (0 : UInt8)))]) (segs := [.arr 6 (enf u8v (upd (upd (fun _ => (0 : UInt8)) 0 (1 : UInt8)) 1 (1 : UInt8)))]) Try.underlying41 Try.sizeOf5 Try.zeroValue41 rfl [(0, u8v (1 : UInt8)), (1, u8v (1 : UInt8))] rfl (fill_arr (e := u8v) (z := (1 : UInt8)) (q := 0) (s := 0) 0 rfl rfl rfl rfl rfl rfl (fill_arr (e := u8v) (z := (1 : UInt8)) (q := 1) (s := 0) 0 rfl rfl rfl rfl rfl rfl (rfl))) rfl rfl ?_
          refine TL.fa Try.underlying43 rfl Try.sizeOf41 rfl 218 rfl rfl rfl rfl ?_
          refine TL.stM (news := [.arr 6 (enf u8v (upd (upd (fun _ => (0 : UInt8)) 0 (1 : UInt8)) 1 (1 : UInt8)))]) 0 3 1 rfl Try.sizeOf41 (ones_arr (fun _ => rfl) ones_nil) rfl rfl rfl rfl rfl rfl ?_
          refine TL.done ?_
          refine TC.seq ?_
          refine TC.region ?_
          refine TL.fa Try.underlying43 rfl Try.sizeOf40 rfl 2 rfl rfl rfl rfl ?_
          refine TL.ixa 0 2 (by decide) Try.underlying40 Try.sizeOf39 rfl rfl rfl rfl rfl ?_
          refine TL.ixa 0 2 (by decide) Try.underlying39 Try.sizeOf38 rfl rfl rfl rfl rfl ?_
          refine TL.ixa 0 2 (by decide) Try.underlying38 Try.sizeOf5 rfl rfl rfl rfl rfl ?_
          refine TL.stA (e := u8v) (z := (1 : UInt8)) 0 2 0 rfl Try.sizeOf5 rfl (by omega) (s := 2) rfl rfl rfl rfl rfl rfl rfl ?_
          refine TL.done ?_
          refine TC.region ?_
          refine TL.fa Try.underlying43 rfl Try.sizeOf40 rfl 2 rfl rfl rfl rfl ?_
          refine TL.ixa 1 38 (by decide) Try.underlying40 Try.sizeOf39 rfl rfl rfl rfl rfl ?_
          refine TL.ixa 1 44 (by decide) Try.underlying39 Try.sizeOf38 rfl rfl rfl rfl rfl ?_
          refine TL.ixa 1 45 (by decide) Try.underlying38 Try.sizeOf5 rfl rfl rfl rfl rfl ?_
          refine TL.stA (e := u8v) (z := (1 : UInt8)) 0 2 43 rfl Try.sizeOf5 rfl (by omega) (s := 2) rfl rfl rfl rfl rfl rfl rfl ?_
          refine TL.done ?_
          exact TC.inl ((2, (upd (upd (fun _ => (0 : UInt8)) 0 (1 : UInt8)) 43 (1 : UInt8)), (upd (upd (fun _ => (0 : UInt8)) 0 (1 : UInt8)) 1 (1 : UInt8)))) (()) ⟨rfl, rfl, trivial⟩ [1, 0] rfl
        · refine TC.seq ?_
          refine TC.region ?_
          refine TL.strEq x1 ([99, 121, 99, 108, 105, 99, 51] : Str) rfl rfl rfl rfl ?_
          refine TL.assign rfl rfl (v := .bool (x1 == ([99, 121, 99, 108, 105, 99, 51] : Str))) rfl ?_
          refine TL.done ?_
          refine TC.cond (b := (x1 == ([99, 121, 99, 108, 105, 99, 51] : Str))) rfl (fun c7 => ?_) (fun c8 => ?_)
          · refine TC.seq ?_
            refine TC.region ?_
            refine TL.fa Try.underlying43 rfl Try.sizeOf2 rfl 1 rfl rfl rfl rfl ?_
            refine TL.st1 0 1 rfl Try.sizeOf2 rfl rfl rfl rfl rfl rfl rfl ?_
            refine TL.done ?_
            refine TC.seq ?_
            refine TC.region ?_
            refine TL.fa Try.underlying43 rfl Try.sizeOf41 rfl 218 rfl rfl rfl rfl ?_
            refine TL.ixa 0 218 (by decide) Try.underlying41 Try.sizeOf5 rfl rfl rfl rfl rfl ?_
            refine TL.stA (e := u8v) (z := (1 : UInt8)) 0 3 0 rfl Try.sizeOf5 rfl (by omega) (s := 218) rfl rfl rfl rfl rfl rfl rfl ?_
            refine TL.done ?_
            refine TC.seq ?_
            refine TC.region ?_
            refine TL.assign rfl rfl (v := .int .i64 0) rfl ?_
            refine TL.done ?_
            refine TC.loop1 (σ := (Nat → UInt8) × Int) (γ := Unit) (Γ' := (fun p q => match p, q with | (y7, x3), _ => [(4, bp b_1 0), (6, bp b_2 0), (7, .int .i64 x3)])) (L' := (fun p q => match p, q with | (y7, x3), _ => [box b_1 43 [.one (.int .i64 0), .one (.int .i64 0), .arr 216 (enf u8v (fun _ => (0 : UInt8))), .arr 6 (enf u8v (fun _ => (0 : UInt8)))], box b_2 43 [.one (.int .i64 x2), .one (.int .i64 3), .arr 216 (enf u8v y7), .arr 6 (enf u8v (upd (fun _ => (0 : UInt8)) 0 (1 : UInt8)))]])) (Γb := (fun p q => match p, q with | (y7, x3), _ => [(4, bp b_1 0), (6, bp b_2 0), (7, .int .i64 x3)])) (Lb := (fun p q => match p, q with | (y7, x3), _ => [box b_1 43 [.one (.int .i64 0), .one (.int .i64 0), .arr 216 (enf u8v (fun _ => (0 : UInt8))), .arr 6 (enf u8v (fun _ => (0 : UInt8)))], box b_2 43 [.one (.int .i64 x2), .one (.int .i64 3), .arr 216 (enf u8v y7), .arr 6 (enf u8v (upd (fun _ => (0 : UInt8)) 0 (1 : UInt8)))]])) (((fun _ => (0 : UInt8)), 0)) (()) ⟨rfl, rfl, rfl, trivial⟩ [1, 0] rfl ?_ ?_
            · rintro ⟨y7, x3⟩ _
              refine TC.seq ?_
              refine TC.seq ?_
              refine TC.region ?_
              refine TL.move rfl rfl (v := .int .i64 x3) rfl ?_
              refine TL.bin .i64 x3 3 rfl rfl rfl rfl (v := .bool (decide (x3 < 3))) rfl ?_
              refine TL.done ?_
              refine TC.cond (b := (decide (x3 < 3))) rfl (fun c9 => ?_) (fun c10 => ?_)
              · refine TC.skip ?_
                refine TC.seq ?_
                refine TC.block (NoEx.loop1 rfl) ?_
                refine TC.seq ?_
                refine TC.region ?_
                refine TL.assign rfl rfl (v := .int .i64 0) rfl ?_
                refine TL.done ?_
                refine TC.loop1 (σ := (Nat → UInt8) × Int) (γ := Unit) (Γ' := (fun p q => match p, q with | (y8, x4), _ => [(4, bp b_1 0), (6, bp b_2 0), (7, .int .i64 x3), (8, .int .i64 x4)])) (L' := (fun p q => match p, q with | (y8, x4), _ => [box b_1 43 [.one (.int .i64 0), .one (.int .i64 0), .arr 216 (enf u8v (fun _ => (0 : UInt8))), .arr 6 (enf u8v (fun _ => (0 : UInt8)))], box b_2 43 [.one (.int .i64 x2), .one (.int .i64 3), .arr 216 (enf u8v y8), .arr 6 (enf u8v (upd (fun _ => (0 : UInt8)) 0 (1 : UInt8)))]])) (Γb := (fun p q => match p, q with | (y8, x4), _ => [(4, bp b_1 0), (6, bp b_2 0), (7, .int .i64 x3), (8, .int .i64 x4)])) (Lb := (fun p q => match p, q with | (y8, x4), _ => [box b_1 43 [.one (.int .i64 0), .one (.int .i64 0), .arr 216 (enf u8v (fun _ => (0 : UInt8))), .arr 6 (enf u8v (fun _ => (0 : UInt8)))], box b_2 43 [.one (.int .i64 x2), .one (.int .i64 3), .arr 216 (enf u8v y8), .arr 6 (enf u8v (upd (fun _ => (0 : UInt8)) 0 (1 : UInt8)))]])) ((y7, 0)) (()) ⟨rfl, rfl, rfl, rfl, trivial⟩ [0, 0] rfl ?_ ?_
                · rintro ⟨y8, x4⟩ _
                  refine TC.seq ?_
                  refine TC.seq ?_
                  refine TC.region ?_
                  refine TL.move rfl rfl (v := .int .i64 x4) rfl ?_
                  refine TL.bin .i64 x4 3 rfl rfl rfl rfl (v := .bool (decide (x4 < 3))) rfl ?_
                  refine TL.done ?_
                  refine TC.cond (b := (decide (x4 < 3))) rfl (fun c11 => ?_) (fun c12 => ?_)
                  · refine TC.skip ?_
                    refine TC.seq ?_
                    refine TC.block (NoEx.loop1 rfl) ?_
                    refine TC.region ?_
                    refine TL.move rfl rfl (v := .int .i64 x3) rfl ?_
                    refine TL.move rfl rfl (v := .int .i64 x4) rfl ?_
                    refine TL.move rfl rfl (v := .int .i64 x3) rfl ?_
                    refine TL.move rfl rfl (v := .int .i64 x4) rfl ?_
                    refine TL.bin .i64 x3 x4 rfl rfl rfl rfl (v := .int .i64 (w64 (x3 + x4))) rfl ?_
                    refine TL.rem .i64 (w64 (x3 + x4)) 3 (by decide) rfl rfl rfl rfl ?_
                    refine TL.fa Try.underlying43 rfl Try.sizeOf40 rfl 2 rfl rfl rfl rfl ?_
                    refine TL.chk fun h1 => ?_
                    refine TL.ixa x3 (2 + x3.toNat * 36) h1 Try.underlying40 Try.sizeOf39 rfl rfl rfl rfl (by omega) ?_
                    refine TL.chk fun h2 => ?_
                    refine TL.ixa x4 (2 + (x3.toNat * 36 + x4.toNat * 6)) h2 Try.underlying39 Try.sizeOf38 rfl rfl rfl rfl (by omega) ?_
                    refine TL.chk fun h3 => ?_
                    refine TL.ixa (Int.tmod (w64 (x3 + x4)) 3) (2 + (x3.toNat * 36 + x4.toNat * 6 + (Int.tmod (w64 (x3 + x4)) 3).toNat)) h3 Try.underlying38 Try.sizeOf5 rfl rfl rfl rfl (by omega) ?_
                    refine TL.stA (e := u8v) (z := (1 : UInt8)) 1 2 (x3.toNat * 36 + x4.toNat * 6 + (Int.tmod (w64 (x3 + x4)) 3).toNat) rfl Try.sizeOf5 rfl (by omega) (s := 2) rfl (by omega) rfl rfl rfl rfl rfl ?_
                    refine TL.done ?_
                    refine TC.region ?_
                    refine TL.move rfl rfl (v := .int .i64 x4) rfl ?_
                    refine TL.bin .i64 x4 1 rfl rfl rfl rfl (v := .int .i64 (w64 (x4 + 1))) rfl ?_
                    refine TL.assign rfl rfl (v := .int .i64 (w64 (x4 + 1))) rfl ?_
                    refine TL.done ?_
                    exact TC.next1 (((upd y8 (x3.toNat * 36 + x4.toNat * 6 + (Int.tmod (w64 (x3 + x4)) 3).toNat) (1 : UInt8)), (w64 (x4 + 1)))) (()) ⟨rfl, rfl, rfl, rfl, trivial⟩ [0, 0] rfl
                  · exact TC.brk1 ((y8, x4)) (()) ⟨rfl, rfl, rfl, rfl, trivial⟩ [0, 0] rfl
                · rintro ⟨y8, x4⟩ _
                  refine TC.region ?_
                  refine TL.move rfl rfl (v := .int .i64 x3) rfl ?_
                  refine TL.bin .i64 x3 1 rfl rfl rfl rfl (v := .int .i64 (w64 (x3 + 1))) rfl ?_
                  refine TL.assign rfl rfl (v := .int .i64 (w64 (x3 + 1))) rfl ?_
                  refine TL.done ?_
                  exact TC.next1 ((y8, (w64 (x3 + 1)))) (()) ⟨rfl, rfl, rfl, trivial⟩ [0, 0] rfl
              · exact TC.brk1 ((y7, x3)) (()) ⟨rfl, rfl, rfl, trivial⟩ [0, 0] rfl
            · rintro ⟨y7, x3⟩ _
              exact TC.inl ((3, y7, (upd (fun _ => (0 : UInt8)) 0 (1 : UInt8)))) (()) ⟨rfl, rfl, trivial⟩ [0, 0] rfl
          · refine TC.seq ?_
            refine TC.region ?_
            refine TL.strEq x1 ([115, 121, 109, 109, 101, 116, 114, 105, 99] : Str) rfl rfl rfl rfl ?_
            refine TL.assign rfl rfl (v := .bool (x1 == ([115, 121, 109, 109, 101, 116, 114, 105, 99] : Str))) rfl ?_
            refine TL.done ?_
            refine TC.cond (b := (x1 == ([115, 121, 109, 109, 101, 116, 114, 105, 99] : Str))) rfl (fun c13 => ?_) (fun c14 => ?_)
            · refine TC.seq ?_
              refine TC.region ?_
              refine TL.fa Try.underlying43 rfl Try.sizeOf2 rfl 1 rfl rfl rfl rfl ?_
              refine TL.st1 0 1 rfl Try.sizeOf2 rfl rfl rfl rfl rfl rfl rfl ?_
              refine TL.done ?_
              refine TC.seq ?_
              refine TC.region ?_
              refine TL.fa Try.underlying43 rfl Try.sizeOf41 rfl 218 rfl rfl rfl rfl ?_
              refine TL.ixa 0 218 (by decide) Try.underlying41 Try.sizeOf5 rfl rfl rfl rfl rfl ?_
              refine TL.stA (e := u8v) (z := (1 : UInt8)) 0 3 0 rfl Try.sizeOf5 rfl (by omega) (s := 218) rfl rfl rfl rfl rfl rfl rfl ?_
              refine TL.done ?_
              refine TC.seq ?_
              refine TC.region ?_
              refine TL.assign rfl rfl (v := .int .i64 0) rfl ?_
              refine TL.done ?_
              refine TC.loop1 (σ := (Nat → UInt8) × Int) (γ := Unit) (Γ' := (fun p q => match p, q with | (y9, x5), _ => [(4, bp b_1 0), (6, bp b_2 0), (9, .int .i64 x5)])) (L' := (fun p q => match p, q with | (y9, x5), _ => [box b_1 43 [.one (.int .i64 0), .one (.int .i64 0), .arr 216 (enf u8v (fun _ => (0 : UInt8))), .arr 6 (enf u8v (fun _ => (0 : UInt8)))], box b_2 43 [.one (.int .i64 x2), .one (.int .i64 6), .arr 216 (enf u8v y9), .arr 6 (enf u8v (upd (fun _ => (0 : UInt8)) 0 (1 : UInt8)))]])) (Γb := (fun p q => match p, q with | (y9, x5), _ => [(4, bp b_1 0), (6, bp b_2 0), (9, .int .i64 x5)])) (Lb := (fun p q => match p, q with | (y9, x5), _ => [box b_1 43 [.one (.int .i64 0), .one (.int .i64 0), .arr 216 (enf u8v (fun _ => (0 : UInt8))), .arr 6 (enf u8v (fun _ => (0 : UInt8)))], box b_2 43 [.one (.int .i64 x2), .one (.int .i64 6), .arr 216 (enf u8v y9), .arr 6 (enf u8v (upd (fun _ => (0 : UInt8)) 0 (1 : UInt8)))]])) (((fun _ => (0 : UInt8)), 0)) (()) ⟨rfl, rfl, rfl, trivial⟩ [1, 0] rfl ?_ ?_
              · rintro ⟨y9, x5⟩ _
                refine TC.seq ?_
                refine TC.seq ?_
                refine TC.region ?_
                refine TL.move rfl rfl (v := .int .i64 x5) rfl ?_
                refine TL.bin .i64 x5 6 rfl rfl rfl rfl (v := .bool (decide (x5 < 6))) rfl ?_
                refine TL.done ?_
                refine TC.cond (b := (decide (x5 < 6))) rfl (fun c15 => ?_) (fun c16 => ?_)
                · refine TC.skip ?_
                  refine TC.seq ?_
                  refine TC.block (NoEx.loop1 rfl) ?_
                  refine TC.seq ?_
                  refine TC.region ?_
                  refine TL.assign rfl rfl (v := .int .i64 0) rfl ?_
                  refine TL.done ?_
                  refine TC.loop1 (σ := (Nat → UInt8) × Int) (γ := Unit) (Γ' := (fun p q => match p, q with | (y10, x6), _ => [(4, bp b_1 0), (6, bp b_2 0), (9, .int .i64 x5), (10, .int .i64 x6)])) (L' := (fun p q => match p, q with | (y10, x6), _ => [box b_1 43 [.one (.int .i64 0), .one (.int .i64 0), .arr 216 (enf u8v (fun _ => (0 : UInt8))), .arr 6 (enf u8v (fun _ => (0 : UInt8)))], box b_2 43 [.one (.int .i64 x2), .one (.int .i64 6), .arr 216 (enf u8v y10), .arr 6 (enf u8v (upd (fun _ => (0 : UInt8)) 0 (1 : UInt8)))]])) (Γb := (fun p q => match p, q with | (y10, x6), _ => [(4, bp b_1 0), (6, bp b_2 0), (9, .int .i64 x5), (10, .int .i64 x6)])) (Lb := (fun p q => match p, q with | (y10, x6), _ => [box b_1 43 [.one (.int .i64 0), .one (.int .i64 0), .arr 216 (enf u8v (fun _ => (0 : UInt8))), .arr 6 (enf u8v (fun _ => (0 : UInt8)))], box b_2 43 [.one (.int .i64 x2), .one (.int .i64 6), .arr 216 (enf u8v y10), .arr 6 (enf u8v (upd (fun _ => (0 : UInt8)) 0 (1 : UInt8)))]])) ((y9, 0)) (()) ⟨rfl, rfl, rfl, rfl, trivial⟩ [0, 0] rfl ?_ ?_
                  · rintro ⟨y10, x6⟩ _
                    refine TC.seq ?_
                    refine TC.seq ?_
                    refine TC.region ?_
                    refine TL.move rfl rfl (v := .int .i64 x6) rfl ?_
                    refine TL.bin .i64 x6 6 rfl rfl rfl rfl (v := .bool (decide (x6 < 6))) rfl ?_
                    refine TL.done ?_
                    refine TC.cond (b := (decide (x6 < 6))) rfl (fun c17 => ?_) (fun c18 => ?_)
                    · refine TC.skip ?_
                      refine TC.seq ?_
                      refine TC.block (NoEx.loop1 rfl) ?_
                      refine TC.wk (Γ' := [(4, bp b_1 0), (6, bp b_2 0), (9, .int .i64 x5), (10, .int .i64 x6), (88, .int .i64 x6), (89, .bool (decide (x6 < 6)))]) ⟨rfl, rfl, rfl, rfl, rfl, rfl, trivial⟩ ?_
                      refine TC.bindE ?_
                      rintro r_1 hr1
                      refine TC.chk fun h4 => ?_
                      refine TC.chk fun h5 => ?_
                      refine TC.chk fun h6 => ?_
                      refine TC.drawG [(4, bp b_1 0), (6, bp b_2 0), (9, .int .i64 x5), (10, .int .i64 x6), (88, .int .i64 x6), (89, .bool (decide (x6 < 6)))] [] ⟨rfl, rfl, rfl, rfl, rfl, rfl, trivial⟩ trivial (fun l_ g1 => [box b_1 43 [.one (.int .i64 0), .one (.int .i64 0), .arr 216 (enf u8v (fun _ => (0 : UInt8))), .arr 6 (enf u8v (fun _ => (0 : UInt8)))], (bif nb l_ 9 then box b_2 43 [.one (.int .i64 x2), .one (.int .i64 6), .arr 216 (enf u8v (upd y10 (x5.toNat * 36 + x6.toNat * 6 + r_1.toNat) (1 : UInt8))), .arr 6 (enf u8v (upd (fun _ => (0 : UInt8)) 0 (1 : UInt8)))] else box b_2 43 [.one (.int .i64 x2), .one (.int .i64 6), .arr 216 (enf u8v y10), .arr 6 (enf u8v (upd (fun _ => (0 : UInt8)) 0 (1 : UInt8)))])]) (fun g1 => [.int .i64 x5, .int .i64 x6, .int .i64 x5, .int .i64 x6, .int .i64 r_1, bp b_2 2, bp b_2 (2 + x5.toNat * 36), bp b_2 (2 + (x5.toNat * 36 + x6.toNat * 6)), bp b_2 (2 + (x5.toNat * 36 + x6.toNat * 6 + r_1.toNat)), undef]) [[], [], [], [], [2, 3], [], [0, 5], [0, 1, 5, 6], [0, 1, 2, 3, 4, 5, 6, 7], [0, 1, 2, 3, 4, 5, 6, 7, 8]] [[some false, none, none, none, none, none, some false, some false, some false, some false], [none, some false, none, none, none, none, none, some false, some false, some false], [none, none, some false, none, some false, none, none, none, some false, some false], [none, none, none, some false, some false, none, none, none, some false, some false], [none, none, some true, some true, some false, none, none, none, some false, some false], [none, none, none, none, none, some false, some false, some false, some false, some false], [some true, none, none, none, none, some true, some false, some false, some false, some false], [some true, some true, none, none, none, some true, some true, some false, some false, some false], [some true, some true, some true, some true, some true, some true, some true, some true, some false, some false], [some true, some true, some true, some true, some true, some true, some true, some true, some true, some false]] (by kernel_rfl) (fun _ => rfl) rfl rfl rfl rfl rfl (fun _ _ => ⟨⟨⟨⟨⟨⟨⟨⟨⟨⟨trivial, rfl⟩, rfl⟩, rfl⟩, rfl⟩, rfl⟩, rfl⟩, rfl⟩, rfl⟩, rfl⟩, rfl⟩) 0 [0, 0] (fun _ => by kernel_rfl) ?_ ?_
                      · refine ⟨rfl, ?_, rfl, ?_, rfl, ?_, rfl, ?_, rfl, ?_, rfl, ?_, rfl, ?_, rfl, ?_, rfl, ?_, rfl, ?_, trivial⟩
                        · intro b1_ b2_ b3_ b4_ b5_ g1
                          refine TL.move rfl rfl (v := .int .i64 x5) rfl ?_
                          refine TL.done ?_
                          exact TC.nrm () [] ⟨rfl, trivial⟩ [0, 0] (by kernel_rfl)
                        · intro b0_ b2_ b3_ b4_ b5_ b6_ g1
                          refine TL.move rfl rfl (v := .int .i64 x6) rfl ?_
                          refine TL.done ?_
                          exact TC.nrm () [] ⟨rfl, trivial⟩ [0, 0] (by kernel_rfl)
                        · intro b0_ b1_ b3_ b5_ b6_ b7_ g1
                          refine TL.move rfl rfl (v := .int .i64 x5) rfl ?_
                          refine TL.done ?_
                          exact TC.nrm () [] ⟨rfl, trivial⟩ [0, 0] (by kernel_rfl)
                        · intro b0_ b1_ b2_ b5_ b6_ b7_ g1
                          refine TL.move rfl rfl (v := .int .i64 x6) rfl ?_
                          refine TL.done ?_
                          exact TC.nrm () [] ⟨rfl, trivial⟩ [0, 0] (by kernel_rfl)
                        · intro b0_ b1_ b5_ b6_ b7_ g1
                          refine TL.asL [box b_1 43 [.one (.int .i64 0), .one (.int .i64 0), .arr 216 (enf u8v (fun _ => (0 : UInt8))), .arr 6 (enf u8v (fun _ => (0 : UInt8)))], box b_2 43 [.one (.int .i64 x2), .one (.int .i64 6), .arr 216 (enf u8v y10), .arr 6 (enf u8v (upd (fun _ => (0 : UInt8)) 0 (1 : UInt8)))]] (by kernel_rfl) ?_
                          refine TL.callH (R := G.spec_l01Permuted.R) hr1 Try.call144 rfl rfl rfl (fun w hS => G.spec_l01Permuted.calls w x5 x6) ?_
                          rintro _ _ ⟨rfl, rfl⟩
                          refine TL.done ?_
                          exact TC.nrm () [] ⟨rfl, trivial⟩ [0, 0] (by kernel_rfl)
                        · intro b0_ b1_ b2_ b3_ b4_ g1
                          refine TL.asL [box b_1 43 [.one (.int .i64 0), .one (.int .i64 0), .arr 216 (enf u8v (fun _ => (0 : UInt8))), .arr 6 (enf u8v (fun _ => (0 : UInt8)))], box b_2 43 [.one (.int .i64 x2), .one (.int .i64 6), .arr 216 (enf u8v y10), .arr 6 (enf u8v (upd (fun _ => (0 : UInt8)) 0 (1 : UInt8)))]] (by kernel_rfl) ?_
                          refine TL.fa Try.underlying43 rfl Try.sizeOf40 rfl 2 rfl rfl rfl rfl ?_
                          refine TL.done ?_
                          exact TC.nrm () [] ⟨rfl, trivial⟩ [0, 0] (by kernel_rfl)
                        · intro b1_ b2_ b3_ b4_ g1
                          refine TL.asL [box b_1 43 [.one (.int .i64 0), .one (.int .i64 0), .arr 216 (enf u8v (fun _ => (0 : UInt8))), .arr 6 (enf u8v (fun _ => (0 : UInt8)))], box b_2 43 [.one (.int .i64 x2), .one (.int .i64 6), .arr 216 (enf u8v y10), .arr 6 (enf u8v (upd (fun _ => (0 : UInt8)) 0 (1 : UInt8)))]] (by kernel_rfl) ?_
                          refine TL.ixa x5 (2 + x5.toNat * 36) h4 Try.underlying40 Try.sizeOf39 rfl rfl rfl rfl (by omega) ?_
                          refine TL.done ?_
                          exact TC.nrm () [] ⟨rfl, trivial⟩ [0, 0] (by kernel_rfl)
                        · intro b2_ b3_ b4_ g1
                          refine TL.asL [box b_1 43 [.one (.int .i64 0), .one (.int .i64 0), .arr 216 (enf u8v (fun _ => (0 : UInt8))), .arr 6 (enf u8v (fun _ => (0 : UInt8)))], box b_2 43 [.one (.int .i64 x2), .one (.int .i64 6), .arr 216 (enf u8v y10), .arr 6 (enf u8v (upd (fun _ => (0 : UInt8)) 0 (1 : UInt8)))]] (by kernel_rfl) ?_
                          refine TL.ixa x6 (2 + (x5.toNat * 36 + x6.toNat * 6)) h5 Try.underlying39 Try.sizeOf38 rfl rfl rfl rfl (by omega) ?_
                          refine TL.done ?_
                          exact TC.nrm () [] ⟨rfl, trivial⟩ [0, 0] (by kernel_rfl)
                        · intro g1
                          refine TL.asL [box b_1 43 [.one (.int .i64 0), .one (.int .i64 0), .arr 216 (enf u8v (fun _ => (0 : UInt8))), .arr 6 (enf u8v (fun _ => (0 : UInt8)))], box b_2 43 [.one (.int .i64 x2), .one (.int .i64 6), .arr 216 (enf u8v y10), .arr 6 (enf u8v (upd (fun _ => (0 : UInt8)) 0 (1 : UInt8)))]] (by kernel_rfl) ?_
                          refine TL.ixa r_1 (2 + (x5.toNat * 36 + x6.toNat * 6 + r_1.toNat)) h6 Try.underlying38 Try.sizeOf5 rfl rfl rfl rfl (by omega) ?_
                          refine TL.done ?_
                          exact TC.nrm () [] ⟨rfl, trivial⟩ [0, 0] (by kernel_rfl)
                        · intro g1
                          refine TL.asL [box b_1 43 [.one (.int .i64 0), .one (.int .i64 0), .arr 216 (enf u8v (fun _ => (0 : UInt8))), .arr 6 (enf u8v (fun _ => (0 : UInt8)))], box b_2 43 [.one (.int .i64 x2), .one (.int .i64 6), .arr 216 (enf u8v y10), .arr 6 (enf u8v (upd (fun _ => (0 : UInt8)) 0 (1 : UInt8)))]] (by kernel_rfl) ?_
                          refine TL.stA (e := u8v) (z := (1 : UInt8)) 1 2 (x5.toNat * 36 + x6.toNat * 6 + r_1.toNat) rfl Try.sizeOf5 rfl (by omega) (s := 2) rfl (by omega) rfl rfl rfl rfl rfl ?_
                          refine TL.done ?_
                          exact TC.nrm () [] trivial [0, 0] (by kernel_rfl)
                      · intro g1
                        refine TC.asL [box b_1 43 [.one (.int .i64 0), .one (.int .i64 0), .arr 216 (enf u8v (fun _ => (0 : UInt8))), .arr 6 (enf u8v (fun _ => (0 : UInt8)))], box b_2 43 [.one (.int .i64 x2), .one (.int .i64 6), .arr 216 (enf u8v (upd y10 (x5.toNat * 36 + x6.toNat * 6 + r_1.toNat) (1 : UInt8))), .arr 6 (enf u8v (upd (fun _ => (0 : UInt8)) 0 (1 : UInt8)))]] (by kernel_rfl) ?_
                        refine TC.region ?_
                        refine TL.move rfl rfl (v := .int .i64 x6) rfl ?_
                        refine TL.bin .i64 x6 1 rfl rfl rfl rfl (v := .int .i64 (w64 (x6 + 1))) rfl ?_
                        refine TL.assign rfl rfl (v := .int .i64 (w64 (x6 + 1))) rfl ?_
                        refine TL.done ?_
                        exact TC.next1 (((upd y10 (x5.toNat * 36 + x6.toNat * 6 + r_1.toNat) (1 : UInt8)), (w64 (x6 + 1)))) (()) ⟨rfl, rfl, rfl, rfl, trivial⟩ [0, 0] rfl
                    · exact TC.brk1 ((y10, x6)) (()) ⟨rfl, rfl, rfl, rfl, trivial⟩ [0, 0] rfl
                  · rintro ⟨y10, x6⟩ _
                    refine TC.region ?_
                    refine TL.move rfl rfl (v := .int .i64 x5) rfl ?_
                    refine TL.bin .i64 x5 1 rfl rfl rfl rfl (v := .int .i64 (w64 (x5 + 1))) rfl ?_
                    refine TL.assign rfl rfl (v := .int .i64 (w64 (x5 + 1))) rfl ?_
                    refine TL.done ?_
                    exact TC.next1 ((y10, (w64 (x5 + 1)))) (()) ⟨rfl, rfl, rfl, trivial⟩ [0, 0] rfl
                · exact TC.brk1 ((y9, x5)) (()) ⟨rfl, rfl, rfl, trivial⟩ [0, 0] rfl
              · rintro ⟨y9, x5⟩ _
                exact TC.inl ((6, y9, (upd (fun _ => (0 : UInt8)) 0 (1 : UInt8)))) (()) ⟨rfl, rfl, trivial⟩ [0, 0] rfl
            · refine TC.seq ?_
              refine TC.region ?_
              refine TL.strEq x1 ([109, 97, 116, 114, 105, 120] : Str) rfl rfl rfl rfl ?_
              refine TL.assign rfl rfl (v := .bool (x1 == ([109, 97, 116, 114, 105, 120] : Str))) rfl ?_
              refine TL.done ?_
              refine TC.cond (b := (x1 == ([109, 97, 116, 114, 105, 120] : Str))) rfl (fun c19 => ?_) (fun c20 => ?_)
              · refine TC.seq ?_
                refine TC.region ?_
                refine TL.fa Try.underlying43 rfl Try.sizeOf2 rfl 1 rfl rfl rfl rfl ?_
                refine TL.st1 0 1 rfl Try.sizeOf2 rfl rfl rfl rfl rfl rfl rfl ?_
                refine TL.done ?_
                refine TC.seq ?_
                refine TC.region ?_
                refine TL.buildA (segs0 := [.arr 6 (enf u8v (fun _ => (0 : UInt8)))]) (segs := [.arr 6 (enf u8v (upd (upd (upd (upd (fun _ => (0 : UInt8)) 0 (1 : UInt8)) 1 (0 : UInt8)) 2 (0 : UInt8)) 3 (1 : UInt8)))]) Try.underlying41 Try.sizeOf5 Try.zeroValue41 rfl [(0, u8v (1 : UInt8)), (1, u8v (0 : UInt8)), (2, u8v (0 : UInt8)), (3, u8v (1 : UInt8))] rfl (fill_arr (e := u8v) (z := (1 : UInt8)) (q := 0) (s := 0) 0 rfl rfl rfl rfl rfl rfl (fill_arr (e := u8v) (z := (0 : UInt8)) (q := 1) (s := 0) 0 rfl rfl rfl rfl rfl rfl (fill_arr (e := u8v) (z := (0 : UInt8)) (q := 2) (s := 0) 0 rfl rfl rfl rfl rfl rfl (fill_arr (e := u8v) (z := (1 : UInt8)) (q := 3) (s := 0) 0 rfl rfl rfl rfl rfl rfl (rfl))))) rfl rfl ?_
                refine TL.fa Try.underlying43 rfl Try.sizeOf41 rfl 218 rfl rfl rfl rfl ?_
                refine TL.stM (news := [.arr 6 (enf u8v (upd (upd (upd (upd (fun _ => (0 : UInt8)) 0 (1 : UInt8)) 1 (0 : UInt8)) 2 (0 : UInt8)) 3 (1 : UInt8)))]) 0 3 1 rfl Try.sizeOf41 (ones_arr (fun _ => rfl) ones_nil) rfl rfl rfl rfl rfl rfl ?_
                refine TL.done ?_
                refine TC.seq ?_
                refine TC.region ?_
                refine TL.assign rfl rfl (v := .int .i64 0) rfl ?_
                refine TL.done ?_
                refine TC.loop1 (σ := (Nat → UInt8) × Int) (γ := Unit) (Γ' := (fun p q => match p, q with | (y11, x7), _ => [(4, bp b_1 0), (6, bp b_2 0), (11, .int .i64 x7)])) (L' := (fun p q => match p, q with | (y11, x7), _ => [box b_1 43 [.one (.int .i64 0), .one (.int .i64 0), .arr 216 (enf u8v (fun _ => (0 : UInt8))), .arr 6 (enf u8v (fun _ => (0 : UInt8)))], box b_2 43 [.one (.int .i64 x2), .one (.int .i64 4), .arr 216 (enf u8v y11), .arr 6 (enf u8v (upd (upd (upd (upd (fun _ => (0 : UInt8)) 0 (1 : UInt8)) 1 (0 : UInt8)) 2 (0 : UInt8)) 3 (1 : UInt8)))]])) (Γb := (fun p q => match p, q with | (y11, x7), _ => [(4, bp b_1 0), (6, bp b_2 0), (11, .int .i64 x7)])) (Lb := (fun p q => match p, q with | (y11, x7), _ => [box b_1 43 [.one (.int .i64 0), .one (.int .i64 0), .arr 216 (enf u8v (fun _ => (0 : UInt8))), .arr 6 (enf u8v (fun _ => (0 : UInt8)))], box b_2 43 [.one (.int .i64 x2), .one (.int .i64 4), .arr 216 (enf u8v y11), .arr 6 (enf u8v (upd (upd (upd (upd (fun _ => (0 : UInt8)) 0 (1 : UInt8)) 1 (0 : UInt8)) 2 (0 : UInt8)) 3 (1 : UInt8)))]])) (((fun _ => (0 : UInt8)), 0)) (()) ⟨rfl, rfl, rfl, trivial⟩ [1, 0] rfl ?_ ?_
                · rintro ⟨y11, x7⟩ _
                  refine TC.seq ?_
                  refine TC.seq ?_
                  refine TC.region ?_
                  refine TL.move rfl rfl (v := .int .i64 x7) rfl ?_
                  refine TL.bin .i64 x7 4 rfl rfl rfl rfl (v := .bool (decide (x7 < 4))) rfl ?_
                  refine TL.done ?_
                  refine TC.cond (b := (decide (x7 < 4))) rfl (fun c21 => ?_) (fun c22 => ?_)
                  · refine TC.skip ?_
                    refine TC.seq ?_
                    refine TC.block (NoEx.loop1 rfl) ?_
                    refine TC.seq ?_
                    refine TC.region ?_
                    refine TL.assign rfl rfl (v := .int .i64 0) rfl ?_
                    refine TL.done ?_
                    refine TC.loop1 (σ := (Nat → UInt8) × Int) (γ := Unit) (Γ' := (fun p q => match p, q with | (y12, x8), _ => [(4, bp b_1 0), (6, bp b_2 0), (11, .int .i64 x7), (12, .int .i64 x8)])) (L' := (fun p q => match p, q with | (y12, x8), _ => [box b_1 43 [.one (.int .i64 0), .one (.int .i64 0), .arr 216 (enf u8v (fun _ => (0 : UInt8))), .arr 6 (enf u8v (fun _ => (0 : UInt8)))], box b_2 43 [.one (.int .i64 x2), .one (.int .i64 4), .arr 216 (enf u8v y12), .arr 6 (enf u8v (upd (upd (upd (upd (fun _ => (0 : UInt8)) 0 (1 : UInt8)) 1 (0 : UInt8)) 2 (0 : UInt8)) 3 (1 : UInt8)))]])) (Γb := (fun p q => match p, q with | (y12, x8), _ => [(4, bp b_1 0), (6, bp b_2 0), (11, .int .i64 x7), (12, .int .i64 x8)])) (Lb := (fun p q => match p, q with | (y12, x8), _ => [box b_1 43 [.one (.int .i64 0), .one (.int .i64 0), .arr 216 (enf u8v (fun _ => (0 : UInt8))), .arr 6 (enf u8v (fun _ => (0 : UInt8)))], box b_2 43 [.one (.int .i64 x2), .one (.int .i64 4), .arr 216 (enf u8v y12), .arr 6 (enf u8v (upd (upd (upd (upd (fun _ => (0 : UInt8)) 0 (1 : UInt8)) 1 (0 : UInt8)) 2 (0 : UInt8)) 3 (1 : UInt8)))]])) ((y11, 0)) (()) ⟨rfl, rfl, rfl, rfl, trivial⟩ [0, 0] rfl ?_ ?_
                    · rintro ⟨y12, x8⟩ _
                      refine TC.seq ?_
                      refine TC.seq ?_
                      refine TC.region ?_
                      refine TL.move rfl rfl (v := .int .i64 x8) rfl ?_
                      refine TL.bin .i64 x8 4 rfl rfl rfl rfl (v := .bool (decide (x8 < 4))) rfl ?_
                      refine TL.done ?_
                      refine TC.cond (b := (decide (x8 < 4))) rfl (fun c23 => ?_) (fun c24 => ?_)
                      · refine TC.skip ?_
                        refine TC.seq ?_
                        refine TC.block (NoEx.loop1 rfl) ?_
                        refine TC.seq ?_
                        refine TC.region ?_
                        refine TL.move rfl rfl (v := .int .i64 x7) rfl ?_
                        refine TL.rem .i64 x7 2 (by decide) rfl rfl rfl rfl ?_
                        refine TL.move rfl rfl (v := .int .i64 x8) rfl ?_
                        refine TL.quo .i64 x8 2 (by decide) rfl rfl rfl rfl ?_
                        refine TL.bin .i64 (Int.tmod x7 2) (w64 (Int.tdiv x8 2)) rfl rfl rfl rfl (v := .bool ((Int.tmod x7 2) == (w64 (Int.tdiv x8 2)))) rfl ?_
                        refine TL.done ?_
                        refine TC.join1 (σ := (Nat → UInt8)) (γ := Unit) (Γ' := (fun y13 _ => [(4, bp b_1 0), (6, bp b_2 0), (11, .int .i64 x7), (12, .int .i64 x8)])) (L' := (fun y13 _ => [box b_1 43 [.one (.int .i64 0), .one (.int .i64 0), .arr 216 (enf u8v (fun _ => (0 : UInt8))), .arr 6 (enf u8v (fun _ => (0 : UInt8)))], box b_2 43 [.one (.int .i64 x2), .one (.int .i64 4), .arr 216 (enf u8v y13), .arr 6 (enf u8v (upd (upd (upd (upd (fun _ => (0 : UInt8)) 0 (1 : UInt8)) 1 (0 : UInt8)) 2 (0 : UInt8)) 3 (1 : UInt8)))]])) ?_ ?_
                        · refine TC.cond (b := ((Int.tmod x7 2) == (w64 (Int.tdiv x8 2)))) rfl (fun c25 => ?_) (fun c26 => ?_)
                          · refine TC.region ?_
                            refine TL.move rfl rfl (v := .int .i64 x7) rfl ?_
                            refine TL.move rfl rfl (v := .int .i64 x8) rfl ?_
                            refine TL.move rfl rfl (v := .int .i64 x7) rfl ?_
                            refine TL.quo .i64 x7 2 (by decide) rfl rfl rfl rfl ?_
                            refine TL.bin .i64 (w64 (Int.tdiv x7 2)) 2 rfl rfl rfl rfl (v := .int .i64 (w64 ((w64 (Int.tdiv x7 2)) * 2))) rfl ?_
                            refine TL.move rfl rfl (v := .int .i64 x8) rfl ?_
                            refine TL.rem .i64 x8 2 (by decide) rfl rfl rfl rfl ?_
                            refine TL.bin .i64 (w64 ((w64 (Int.tdiv x7 2)) * 2)) (Int.tmod x8 2) rfl rfl rfl rfl (v := .int .i64 (w64 ((w64 ((w64 (Int.tdiv x7 2)) * 2)) + (Int.tmod x8 2)))) rfl ?_
                            refine TL.fa Try.underlying43 rfl Try.sizeOf40 rfl 2 rfl rfl rfl rfl ?_
                            refine TL.chk fun h7 => ?_
                            refine TL.ixa x7 (2 + x7.toNat * 36) h7 Try.underlying40 Try.sizeOf39 rfl rfl rfl rfl (by omega) ?_
                            refine TL.chk fun h8 => ?_
                            refine TL.ixa x8 (2 + (x7.toNat * 36 + x8.toNat * 6)) h8 Try.underlying39 Try.sizeOf38 rfl rfl rfl rfl (by omega) ?_
                            refine TL.chk fun h9 => ?_
                            refine TL.ixa (w64 ((w64 ((w64 (Int.tdiv x7 2)) * 2)) + (Int.tmod x8 2))) (2 + (x7.toNat * 36 + x8.toNat * 6 + (w64 ((w64 ((w64 (Int.tdiv x7 2)) * 2)) + (Int.tmod x8 2))).toNat)) h9 Try.underlying38 Try.sizeOf5 rfl rfl rfl rfl (by omega) ?_
                            refine TL.stA (e := u8v) (z := (1 : UInt8)) 1 2 (x7.toNat * 36 + x8.toNat * 6 + (w64 ((w64 ((w64 (Int.tdiv x7 2)) * 2)) + (Int.tmod x8 2))).toNat) rfl Try.sizeOf5 rfl (by omega) (s := 2) rfl (by omega) rfl rfl rfl rfl rfl ?_
                            refine TL.done ?_
                            exact TC.nrm ((upd y12 (x7.toNat * 36 + x8.toNat * 6 + (w64 ((w64 ((w64 (Int.tdiv x7 2)) * 2)) + (Int.tmod x8 2))).toNat) (1 : UInt8))) (()) ⟨rfl, rfl, rfl, rfl, trivial⟩ [0, 0] rfl
                          · refine TC.skip ?_
                            exact TC.nrm (y12) (()) ⟨rfl, rfl, rfl, rfl, trivial⟩ [0, 0] rfl
                        · rintro y13 _
                          refine TC.region ?_
                          refine TL.move rfl rfl (v := .int .i64 x8) rfl ?_
                          refine TL.bin .i64 x8 1 rfl rfl rfl rfl (v := .int .i64 (w64 (x8 + 1))) rfl ?_
                          refine TL.assign rfl rfl (v := .int .i64 (w64 (x8 + 1))) rfl ?_
                          refine TL.done ?_
                          exact TC.next1 ((y13, (w64 (x8 + 1)))) (()) ⟨rfl, rfl, rfl, rfl, trivial⟩ [0, 0] rfl
                      · exact TC.brk1 ((y12, x8)) (()) ⟨rfl, rfl, rfl, rfl, trivial⟩ [0, 0] rfl
                    · rintro ⟨y12, x8⟩ _
                      refine TC.region ?_
                      refine TL.move rfl rfl (v := .int .i64 x7) rfl ?_
                      refine TL.bin .i64 x7 1 rfl rfl rfl rfl (v := .int .i64 (w64 (x7 + 1))) rfl ?_
                      refine TL.assign rfl rfl (v := .int .i64 (w64 (x7 + 1))) rfl ?_
                      refine TL.done ?_
                      exact TC.next1 ((y12, (w64 (x7 + 1)))) (()) ⟨rfl, rfl, rfl, trivial⟩ [0, 0] rfl
                  · exact TC.brk1 ((y11, x7)) (()) ⟨rfl, rfl, rfl, trivial⟩ [0, 0] rfl
                · rintro ⟨y11, x7⟩ _
                  exact TC.inl ((4, y11, (upd (upd (upd (upd (fun _ => (0 : UInt8)) 0 (1 : UInt8)) 1 (0 : UInt8)) 2 (0 : UInt8)) 3 (1 : UInt8)))) (()) ⟨rfl, rfl, trivial⟩ [0, 0] rfl
              · refine TC.seq ?_
                refine TC.region ?_
                refine TL.buildS (segs0 := [.one (.int .i64 0), .one (.int .i64 0), .arr 216 (enf u8v (fun _ => (0 : UInt8))), .arr 6 (enf u8v (fun _ => (0 : UInt8)))]) (segs := [.one (.int .i64 0), .one (.int .i64 0), .arr 216 (enf u8v (fun _ => (0 : UInt8))), .arr 6 (enf u8v (fun _ => (0 : UInt8)))]) [1, 1, 216, 6] Try.underlying43 ⟨Try.sizeOf2, Try.sizeOf2, Try.sizeOf40, Try.sizeOf41, trivial⟩ Try.zeroValue43 rfl [] rfl (fun pl hpl => by subst hpl; exact rfl) rfl rfl ?_
                refine TL.stM (news := [.one (.int .i64 0), .one (.int .i64 0), .arr 216 (enf u8v (fun _ => (0 : UInt8))), .arr 6 (enf u8v (fun _ => (0 : UInt8)))]) 1 0 4 rfl Try.sizeOf43 (ones_one rfl (ones_one rfl (ones_arr (fun _ => rfl) (ones_arr (fun _ => rfl) ones_nil)))) rfl rfl rfl rfl rfl rfl ?_
                refine TL.assign rfl rfl (v := .bool false) rfl ?_
                refine TL.done ?_
                exact TC.retF (Fin.join (by simp) (Fin.body (fin2 (.inr rfl) rfl (.cellN rfl (Src.box 1 rfl) Try.isAgg43 Try.sizeOf43 rfl) (.tmp rfl) [] rfl ⟨rfl, rfl⟩)))
  · rintro ⟨y4, y5, y6⟩ _
    refine TC.seq ?_
    refine TC.region ?_
    refine TL.loadM 0 4 (Src.box 1 rfl) Try.isAgg43 Try.sizeOf43 (mid := [.one (.int .i64 x2), .one (.int .i64 y4), .arr 216 (enf u8v y5), .arr 6 (enf u8v y6)]) rfl rfl rfl rfl rfl rfl ?_
    refine TL.stM (news := [.one (.int .i64 x2), .one (.int .i64 y4), .arr 216 (enf u8v y5), .arr 6 (enf u8v y6)]) 0 0 4 rfl Try.sizeOf43 (ones_one rfl (ones_one rfl (ones_arr (fun _ => rfl) (ones_arr (fun _ => rfl) ones_nil)))) rfl rfl rfl rfl rfl rfl ?_
    refine TL.assign rfl rfl (v := .bool true) rfl ?_
    refine TL.done ?_
    exact TC.retF (Fin.body (fin2 (.inr rfl) rfl (.cellN rfl (Src.box 0 rfl) Try.isAgg43 Try.sizeOf43 rfl) (.tmp rfl) [] rfl ⟨rfl, rfl⟩))

end Go.Proofs.Ytiiljfpbcanphaa.G

/- spec.NamedAlgebra, as a pure function. -/
set_option linter.unusedVariables false
namespace Go.Proofs.Ytiiljfpbcanphaa.G
open Go Go.Sx Go.Proofs

def spec_NamedAlgebra.f (name1 : Str) (p1 : Int) : Option (Int × Int × (Nat → UInt8) × (Nat → UInt8) × Int) := (G.spec_l01Prime.f p1).bind (fun r_1 => (bif (!r_1) then some (0, 0, (fun _ => (0 : UInt8)), (fun _ => (0 : UInt8)), 2) else (G.spec_l01Named.f name1 p1).bind (fun p => match p with | (r_2, r_3, r_4, r_5, r_6) => (bif (!r_6) then some (0, 0, (fun _ => (0 : UInt8)), (fun _ => (0 : UInt8)), 4) else some (r_2, r_3, r_4, r_5, 0)))))

def spec_NamedAlgebra.R (r : Int × Int × (Nat → UInt8) × (Nat → UInt8) × Int) (v : Value) (L : List Asn) : Prop := v = .tuple #[sval [.one (.int .i64 r.1), .one (.int .i64 r.2.1), .arr 216 (enf u8v r.2.2.1), .arr 6 (enf u8v r.2.2.2.1)], .int .i64 r.2.2.2.2] ∧ L = []

set_option maxRecDepth 100000 in
set_option maxHeartbeats 4000000 in
theorem spec_NamedAlgebra.calls (w : World) (name1 : Str) (p1 : Int) :
    ∀ r, spec_NamedAlgebra.f name1 p1 = some r → Calls Try.prog 30 #[strv name1, .int .i64 p1] w (Ret w (spec_NamedAlgebra.R r)) := by

  refine calls_T (n := 22) (Γ := [(0, strv name1), (1, .int .i64 p1)]) (R := spec_NamedAlgebra.R) Try.func30 rfl rfl (Nat.le_of_ble_eq_true rfl) ⟨rfl, rfl, trivial⟩ ?_
  unfold spec_NamedAlgebra.f
  refine TC.seq ?_
  refine TC.region ?_
  refine TL.alloc [.one (.int .i64 0), .one (.int .i64 0), .arr 216 (enf u8v (fun _ => (0 : UInt8))), .arr 6 (enf u8v (fun _ => (0 : UInt8)))] rfl rfl Try.zeroValue43 rfl fun b_1 => ?_
  refine TL.assign rfl rfl (v := .int .i64 0) rfl ?_
  refine TL.done ?_
  refine TC.seq ?_
  refine TC.seq ?_
  refine TC.region ?_
  refine TL.move rfl rfl (v := .int .i64 p1) rfl ?_
  refine TL.call (R := G.spec_l01Prime.R) Try.call84 rfl rfl rfl (fun w hS => G.spec_l01Prime.calls w p1) ?_
  rintro r_1 _ _ ⟨rfl, rfl⟩
  refine TL.not r_1 rfl rfl rfl ?_
  refine TL.done ?_
  refine TC.cond (b := (!r_1)) rfl (fun c1 => ?_) (fun c2 => ?_)
  · refine TC.seq ?_
    refine TC.region ?_
    refine TL.buildS (segs0 := [.one (.int .i64 0), .one (.int .i64 0), .arr 216 (enf u8v (fun _ => (0 : UInt8))), .arr 6 (enf u8v (fun _ => (0 : UInt8)))]) (segs := [.one (.int .i64 0), .one (.int .i64 0), .arr 216 (enf u8v (fun _ => (0 : UInt8))), .arr 6 (enf u8v (fun _ => (0 : UInt8)))]) [1, 1, 216, 6] Try.underlying43 ⟨Try.sizeOf2, Try.sizeOf2, Try.sizeOf40, Try.sizeOf41, trivial⟩ Try.zeroValue43 rfl [] rfl (fun pl hpl => by subst hpl; exact rfl) rfl rfl ?_
    refine TL.stM (news := [.one (.int .i64 0), .one (.int .i64 0), .arr 216 (enf u8v (fun _ => (0 : UInt8))), .arr 6 (enf u8v (fun _ => (0 : UInt8)))]) 0 0 4 rfl Try.sizeOf43 (ones_one rfl (ones_one rfl (ones_arr (fun _ => rfl) (ones_arr (fun _ => rfl) ones_nil)))) rfl rfl rfl rfl rfl rfl ?_
    refine TL.assign rfl rfl (v := .int .i64 2) rfl ?_
    refine TL.done ?_
    exact TC.retF (Fin.body (fin2 (.inr rfl) rfl (.cellN rfl (Src.box 0 rfl) Try.isAgg43 Try.sizeOf43 rfl) (.tmp rfl) [] rfl ⟨rfl, rfl⟩))
  · refine TC.skip ?_
    refine TC.seq ?_
    refine TC.region ?_
    refine TL.move rfl rfl (v := strv name1) rfl ?_
    refine TL.move rfl rfl (v := .int .i64 p1) rfl ?_
    refine TL.call (R := G.spec_l01Named.R) Try.call92 rfl rfl rfl (fun w hS => G.spec_l01Named.calls w name1 p1) ?_
    rintro ⟨r_2, r_3, r_4, r_5, r_6⟩ _ _ ⟨rfl, rfl⟩
    refine TL.move rfl rfl (v := .tuple #[sval [.one (.int .i64 r_2), .one (.int .i64 r_3), .arr 216 (enf u8v r_4), .arr 6 (enf u8v r_5)], .bool r_6]) rfl ?_
    refine TL.extract rfl rfl rfl (v := sval [.one (.int .i64 r_2), .one (.int .i64 r_3), .arr 216 (enf u8v r_4), .arr 6 (enf u8v r_5)]) rfl ?_
    refine TL.extract rfl rfl rfl (v := .bool r_6) rfl ?_
    refine TL.alloc [.one (.int .i64 0), .one (.int .i64 0), .arr 216 (enf u8v (fun _ => (0 : UInt8))), .arr 6 (enf u8v (fun _ => (0 : UInt8)))] rfl rfl Try.zeroValue43 rfl fun b_2 => ?_
    refine TL.stM (news := [.one (.int .i64 r_2), .one (.int .i64 r_3), .arr 216 (enf u8v r_4), .arr 6 (enf u8v r_5)]) 0 0 4 rfl Try.sizeOf43 (ones_one rfl (ones_one rfl (ones_arr (fun _ => rfl) (ones_arr (fun _ => rfl) ones_nil)))) rfl rfl rfl rfl rfl rfl ?_
    refine TL.assign rfl rfl (v := .bool r_6) rfl ?_
    refine TL.done ?_
    refine TC.seq ?_
    refine TC.seq ?_
    refine TC.region ?_
    refine TL.move rfl rfl (v := .bool r_6) rfl ?_
    refine TL.not r_6 rfl rfl rfl ?_
    refine TL.done ?_
    refine TC.cond (b := (!r_6)) rfl (fun c3 => ?_) (fun c4 => ?_)
    · refine TC.seq ?_
      refine TC.region ?_
      refine TL.buildS (segs0 := [.one (.int .i64 0), .one (.int .i64 0), .arr 216 (enf u8v (fun _ => (0 : UInt8))), .arr 6 (enf u8v (fun _ => (0 : UInt8)))]) (segs := [.one (.int .i64 0), .one (.int .i64 0), .arr 216 (enf u8v (fun _ => (0 : UInt8))), .arr 6 (enf u8v (fun _ => (0 : UInt8)))]) [1, 1, 216, 6] Try.underlying43 ⟨Try.sizeOf2, Try.sizeOf2, Try.sizeOf40, Try.sizeOf41, trivial⟩ Try.zeroValue43 rfl [] rfl (fun pl hpl => by subst hpl; exact rfl) rfl rfl ?_
      refine TL.stM (news := [.one (.int .i64 0), .one (.int .i64 0), .arr 216 (enf u8v (fun _ => (0 : UInt8))), .arr 6 (enf u8v (fun _ => (0 : UInt8)))]) 1 0 4 rfl Try.sizeOf43 (ones_one rfl (ones_one rfl (ones_arr (fun _ => rfl) (ones_arr (fun _ => rfl) ones_nil)))) rfl rfl rfl rfl rfl rfl ?_
      refine TL.assign rfl rfl (v := .int .i64 4) rfl ?_
      refine TL.done ?_
      exact TC.retF (Fin.body (fin2 (.inr rfl) rfl (.cellN rfl (Src.box 1 rfl) Try.isAgg43 Try.sizeOf43 rfl) (.tmp rfl) [] rfl ⟨rfl, rfl⟩))
    · refine TC.skip ?_
      refine TC.seq ?_
      refine TC.region ?_
      refine TL.loadM 0 4 (Src.box 0 rfl) Try.isAgg43 Try.sizeOf43 (mid := [.one (.int .i64 r_2), .one (.int .i64 r_3), .arr 216 (enf u8v r_4), .arr 6 (enf u8v r_5)]) rfl rfl rfl rfl rfl rfl ?_
      refine TL.stM (news := [.one (.int .i64 r_2), .one (.int .i64 r_3), .arr 216 (enf u8v r_4), .arr 6 (enf u8v r_5)]) 1 0 4 rfl Try.sizeOf43 (ones_one rfl (ones_one rfl (ones_arr (fun _ => rfl) (ones_arr (fun _ => rfl) ones_nil)))) rfl rfl rfl rfl rfl rfl ?_
      refine TL.assign rfl rfl (v := .int .i64 0) rfl ?_
      refine TL.done ?_
      exact TC.retF (Fin.body (fin2 (.inr rfl) rfl (.cellN rfl (Src.box 1 rfl) Try.isAgg43 Try.sizeOf43 rfl) (.tmp rfl) [] rfl ⟨rfl, rfl⟩))

end Go.Proofs.Ytiiljfpbcanphaa.G

/- slices.Index[[]int64,int64], as a pure function. -/
set_option linter.unusedVariables false
namespace Go.Proofs.Ytiiljfpbcanphaa.G
open Go Go.Sx Go.Proofs

def slices_Index_int64_int64.b0 (s1 : List Int) (v_1 : Int) : Int → Option (LR Int Int) := fun x1 => (bif (decide (x1 < (s1.length : Int))) then chk x1 s1.length ((bif (v_1 == (gt s1 x1)) then some (.ret (x1)) else some (.next (w64 (x1 + 1))))) else some (.brk x1))

def slices_Index_int64_int64.f (s1 : List Int) (v_1 : Int) : Option Int := (loop (slices_Index_int64_int64.b0 s1 v_1) 0).bind (ln (fun x1 => some (-1)))

def slices_Index_int64_int64.R (r : Int) (v : Value) (L : List Asn) : Prop := v = .int .i64 r ∧ L = []

set_option maxRecDepth 100000 in
set_option maxHeartbeats 4000000 in
theorem slices_Index_int64_int64.calls (w : World) (s2 : SV) (s1 : List Int) (v_1 : Int) (h1 : Reads Ei (hp w) s2 s1) :
    ∀ r, slices_Index_int64_int64.f s1 v_1 = some r → Calls Try.prog 151 #[SV.v s2, .int .i64 v_1] w (Ret w (slices_Index_int64_int64.R r)) := by

  refine calls_T (n := 19) (Γ := [(0, SV.v s2), (1, .int .i64 v_1)]) (R := slices_Index_int64_int64.R) Try.func151 rfl rfl (Nat.le_of_ble_eq_true rfl) ⟨rfl, rfl, trivial⟩ ?_
  unfold slices_Index_int64_int64.f
  refine TC.seq ?_
  refine TC.region ?_
  refine TL.assign rfl rfl (v := .int .i64 0) rfl ?_
  refine TL.done ?_
  refine TC.seq ?_
  refine TC.seq ?_
  refine TC.region ?_
  refine TL.move rfl rfl (v := SV.v s2) rfl ?_
  refine TL.len (Rd.old h1) Try.underlying22 rfl rfl rfl ?_
  refine TL.move rfl rfl (v := .int .i64 0) rfl ?_
  refine TL.done ?_
  refine TC.loopK (σ := Int) (γ := Unit) (Γ' := (fun x1 _ => [(0, SV.v s2), (1, .int .i64 v_1), (7, .int .i64 (s1.length : Int)), (8, .int .i64 x1)])) (L' := (fun x1 _ => [])) (Γb := (fun x1 _ => [(0, SV.v s2), (1, .int .i64 v_1), (7, .int .i64 (s1.length : Int)), (8, .int .i64 x1)])) (Lb := (fun x1 _ => [])) (0) (()) ⟨rfl, rfl, rfl, rfl, trivial⟩ [] rfl ?_ ?_
  · rintro x1 _
    refine TC.seq ?_
    refine TC.region ?_
    refine TL.bin .i64 x1 (s1.length : Int) rfl rfl rfl rfl (v := .bool (decide (x1 < (s1.length : Int)))) rfl ?_
    refine TL.done ?_
    refine TC.seq ?_
    refine TC.cond (b := (decide (x1 < (s1.length : Int)))) rfl (fun c1 => ?_) (fun c2 => ?_)
    · refine TC.skip ?_
      refine TC.seq ?_
      refine TC.block (NoEx.loop rfl NoEx.body) ?_
      refine TC.seq ?_
      refine TC.region ?_
      refine TL.move rfl rfl (v := .int .i64 x1) rfl ?_
      refine TL.assign rfl rfl (v := .int .i64 x1) rfl ?_
      refine TL.done ?_
      refine TC.seq ?_
      refine TC.region ?_
      refine TL.move rfl rfl (v := .int .i64 v_1) rfl ?_
      refine TL.move rfl rfl (v := SV.v s2) rfl ?_
      refine TL.move rfl rfl (v := .int .i64 x1) rfl ?_
      refine TL.chk fun h2 => ?_
      refine TL.ixs x1 x1.toNat (Rd.old h1) h2 Try.underlying22 Try.sizeOf2 rfl rfl rfl rfl (by omega) ?_
      refine TL.loadE (Rd.old h1) Try.isAgg2 x1.toNat 0 (gt_spec h2) (v := .int .i64 (gt s1 x1)) rfl (by simp only [show Ei.sz = 1 from rfl] <;> omega) rfl rfl rfl ?_
      refine TL.bin .i64 v_1 (gt s1 x1) rfl rfl rfl rfl (v := .bool (v_1 == (gt s1 x1))) rfl ?_
      refine TL.done ?_
      refine TC.cond (b := (v_1 == (gt s1 x1))) rfl (fun c3 => ?_) (fun c4 => ?_)
      · refine TC.seq ?_
        refine TC.region ?_
        refine TL.move rfl rfl (v := .int .i64 x1) rfl ?_
        refine TL.assign rfl rfl (v := .int .i64 x1) rfl ?_
        refine TL.done ?_
        exact TC.retF (Fin.loop Far.ret (Fin.body (fin1 (.inr rfl) rfl (.tmp rfl) [] rfl ⟨rfl, rfl⟩)))
      · refine TC.skip ?_
        refine TC.region ?_
        refine TL.bin .i64 x1 1 rfl rfl rfl rfl (v := .int .i64 (w64 (x1 + 1))) rfl ?_
        refine TL.move rfl rfl (v := .int .i64 (w64 (x1 + 1))) rfl ?_
        refine TL.done ?_
        exact TC.next ((w64 (x1 + 1))) (()) ⟨rfl, rfl, rfl, rfl, trivial⟩ [] rfl
    · exact TC.brk (x1) (()) ⟨rfl, rfl, rfl, rfl, trivial⟩ [] rfl
  · rintro x1 _
    refine TC.seq ?_
    refine TC.region ?_
    refine TL.assign rfl rfl (v := .int .i64 (-1)) rfl ?_
    refine TL.done ?_
    exact TC.retF (Fin.body (fin1 (.inr rfl) rfl (.tmp rfl) [] rfl ⟨rfl, rfl⟩))

end Go.Proofs.Ytiiljfpbcanphaa.G

/- slices.Contains[[]int64,int64], as a pure function. -/
set_option linter.unusedVariables false
namespace Go.Proofs.Ytiiljfpbcanphaa.G
open Go Go.Sx Go.Proofs

def slices_Contains_int64_int64.f (s1 : List Int) (v_1 : Int) : Option Bool := (G.slices_Index_int64_int64.f s1 v_1).bind (fun r_1 => some (decide (r_1 ≥ 0)))

def slices_Contains_int64_int64.R (r : Bool) (v : Value) (L : List Asn) : Prop := v = .bool r ∧ L = []

set_option maxRecDepth 100000 in
set_option maxHeartbeats 4000000 in
theorem slices_Contains_int64_int64.calls (w : World) (s2 : SV) (s1 : List Int) (v_1 : Int) (h1 : Reads Ei (hp w) s2 s1) :
    ∀ r, slices_Contains_int64_int64.f s1 v_1 = some r → Calls Try.prog 105 #[SV.v s2, .int .i64 v_1] w (Ret w (slices_Contains_int64_int64.R r)) := by

  refine calls_T (n := 9) (Γ := [(0, SV.v s2), (1, .int .i64 v_1)]) (R := slices_Contains_int64_int64.R) Try.func105 rfl rfl (Nat.le_of_ble_eq_true rfl) ⟨rfl, rfl, trivial⟩ ?_
  unfold slices_Contains_int64_int64.f
  refine TC.seq ?_
  refine TC.region ?_
  refine TL.assign rfl rfl (v := .bool false) rfl ?_
  refine TL.done ?_
  refine TC.seq ?_
  refine TC.region ?_
  refine TL.move rfl rfl (v := SV.v s2) rfl ?_
  refine TL.move rfl rfl (v := .int .i64 v_1) rfl ?_
  refine TL.call (R := G.slices_Index_int64_int64.R) Try.call151 rfl rfl rfl (fun w hS => G.slices_Index_int64_int64.calls w s2 s1 v_1 ((Rd.old h1) w hS)) ?_
  rintro r_1 _ _ ⟨rfl, rfl⟩
  refine TL.bin .i64 r_1 0 rfl rfl rfl rfl (v := .bool (decide (r_1 ≥ 0))) rfl ?_
  refine TL.assign rfl rfl (v := .bool (decide (r_1 ≥ 0))) rfl ?_
  refine TL.done ?_
  exact TC.retF (Fin.body (fin1 (.inr rfl) rfl (.tmp rfl) [] rfl ⟨rfl, rfl⟩))

end Go.Proofs.Ytiiljfpbcanphaa.G

/- impl.isPrime, as a pure function. -/
set_option linter.unusedVariables false
namespace Go.Proofs.Ytiiljfpbcanphaa.G
open Go Go.Sx Go.Proofs

def impl_isPrime.f (p1 : Int) : Option Bool := (G.slices_Contains_int64_int64.f ([2, 3, 5, 7, 11, 13] : List Int) p1).bind (fun r_1 => some r_1)

def impl_isPrime.R (r : Bool) (v : Value) (L : List Asn) : Prop := v = .bool r ∧ L = []

set_option maxRecDepth 100000 in
set_option maxHeartbeats 4000000 in
theorem impl_isPrime.calls (w : World) (p1 : Int) :
    ∀ r, impl_isPrime.f p1 = some r → Calls Try.prog 85 #[.int .i64 p1] w (Ret w (impl_isPrime.R r)) := by

  refine calls_T (n := 6) (Γ := [(0, .int .i64 p1)]) (R := impl_isPrime.R) Try.func85 rfl rfl (Nat.le_of_ble_eq_true rfl) ⟨rfl, trivial⟩ ?_
  unfold impl_isPrime.f
  refine TC.seq ?_
  refine TC.region ?_
  refine TL.assign rfl rfl (v := .bool false) rfl ?_
  refine TL.done ?_
  refine TC.seq ?_
  refine TC.region ?_
  refine TL.blit Ei ([2, 3, 5, 7, 11, 13] : List Int) Try.underlying22 Try.sizeOf2 Try.zeroValue2 rfl rfl rfl [(0, .int .i64 2), (1, .int .i64 3), (2, .int .i64 5), (3, .int .i64 7), (4, .int .i64 11), (5, .int .i64 13)] rfl ⟨rfl, rfl, rfl, rfl, rfl, rfl, rfl, rfl, rfl, rfl, rfl, rfl, trivial⟩ rfl rfl fun s1 => ?_
  refine TL.move rfl rfl (v := .int .i64 p1) rfl ?_
  refine TL.call (R := G.slices_Contains_int64_int64.R) Try.call105 rfl rfl rfl (fun w hS => G.slices_Contains_int64_int64.calls w s1 ([2, 3, 5, 7, 11, 13] : List Int) p1 ((Rd.row 0 rfl) w hS)) ?_
  rintro r_1 _ _ ⟨rfl, rfl⟩
  refine TL.assign rfl rfl (v := .bool r_1) rfl ?_
  refine TL.done ?_
  exact TC.retF (Fin.body (fin1 (.inr rfl) rfl (.tmp rfl) [] rfl ⟨rfl, rfl⟩))

end Go.Proofs.Ytiiljfpbcanphaa.G

/- impl.built, as a pure function. -/
set_option linter.unusedVariables false
namespace Go.Proofs.Ytiiljfpbcanphaa.G
open Go Go.Sx Go.Proofs

def impl_built.b0 (n_1 : Int) (product1 : Int → Int → Option Int) (x1 : Int) : (Nat → UInt8) × Int → Option (LB ((Nat → UInt8) × Int)) := fun p => match p with | (a_2, x2) => (bif (decide (x2 < n_1)) then (product1 x1 x2).bind (fun r_1 => ((bif (decide (r_1 ≥ 0)) then chk x1 6 (chk x2 6 (chk r_1 6 (some (upd a_2 (x1.toNat * 36 + x2.toNat * 6 + r_1.toNat) (1 : UInt8))))) else some a_2)).bind (fun a_3 => some (.next (a_3, (w64 (x2 + 1)))))) else some (.brk (a_2, x2)))

def impl_built.b1 (n_1 : Int) (product1 : Int → Int → Option Int) : (Nat → UInt8) × Int → Option (LB ((Nat → UInt8) × Int)) := fun p => match p with | (a_1, x1) => (bif (decide (x1 < n_1)) then (loop1 (impl_built.b0 n_1 product1 x1) (a_1, 0)).bind (fun p => match p with | (a_2, x2) => some (.next (a_2, (w64 (x1 + 1))))) else some (.brk (a_1, x1)))

def impl_built.f (p1 : Int) (n_1 : Int) (form1 : Nat → UInt8) (product1 : Int → Int → Option Int) : Option (Int × Int × (Nat → UInt8) × (Nat → UInt8)) := (loop1 (impl_built.b1 n_1 product1) ((fun _ => (0 : UInt8)), 0)).bind (fun p => match p with | (a_1, x1) => some (p1, n_1, a_1, form1))

def impl_built.R (r : Int × Int × (Nat → UInt8) × (Nat → UInt8)) (v : Value) (L : List Asn) : Prop := v = sval [.one (.int .i64 r.1), .one (.int .i64 r.2.1), .arr 216 (enf u8v r.2.2.1), .arr 6 (enf u8v r.2.2.2)] ∧ L = []

set_option maxRecDepth 100000 in
set_option maxHeartbeats 4000000 in
theorem impl_built.calls (w : World) (p1 : Int) (n_1 : Int) (form1 : Nat → UInt8) (f1 : Nat) (fst1 : List Value) (cap1 : List Value) (product1 : Int → Int → Option Int) (hc1 : ∀ (args_ : Array Value) (w_ : World), (callFunc f1 args_).run Try.prog w_ = .ok (.enter f1 args_) w_) (hf1 : ∀ w_, Hle (hp w) (hp w_) → ∀ (x0_ : Int) (x1_ : Int), ∀ r_, product1 x0_ x1_ = some r_ → Calls Try.prog f1 (fst1 ++ ([.int .i64 x0_, .int .i64 x1_] : List Value) ++ cap1).toArray w_ (Ret w_ (fun (v_ : Value) (L_ : List Asn) => v_ = .int .i64 r_ ∧ L_ = []))) :
    ∀ r, impl_built.f p1 n_1 form1 product1 = some r → Calls Try.prog 86 #[.int .i64 p1, .int .i64 n_1, sval [.arr 6 (enf u8v form1)], .func (.func f1) fst1.toArray cap1.toArray] w (Ret w (impl_built.R r)) := by

  refine calls_T (n := 41) (Γ := [(0, .int .i64 p1), (1, .int .i64 n_1), (2, sval [.arr 6 (enf u8v form1)]), (3, .func (.func f1) fst1.toArray cap1.toArray)]) (R := impl_built.R) Try.func86 rfl rfl (Nat.le_of_ble_eq_true rfl) ⟨rfl, rfl, rfl, rfl, trivial⟩ ?_
  unfold impl_built.f
  refine TC.seq ?_
  refine TC.region ?_
  refine TL.box [.arr 6 (enf u8v form1)] rfl rfl rfl rfl fun b_1 => ?_
  refine TL.alloc [.one (.int .i64 0), .one (.int .i64 0), .arr 216 (enf u8v (fun _ => (0 : UInt8))), .arr 6 (enf u8v (fun _ => (0 : UInt8)))] rfl rfl Try.zeroValue43 rfl fun b_2 => ?_
  refine TL.done ?_
  refine TC.seq ?_
  refine TC.region ?_
  refine TL.move rfl rfl (v := .int .i64 p1) rfl ?_
  refine TL.move rfl rfl (v := .int .i64 n_1) rfl ?_
  refine TL.loadM 0 1 (Src.box 1 rfl) Try.isAgg41 Try.sizeOf41 (mid := [.arr 6 (enf u8v form1)]) rfl rfl rfl rfl rfl rfl ?_
  refine TL.buildS (segs0 := [.one (.int .i64 0), .one (.int .i64 0), .arr 216 (enf u8v (fun _ => (0 : UInt8))), .arr 6 (enf u8v (fun _ => (0 : UInt8)))]) (segs := [.one (.int .i64 p1), .one (.int .i64 n_1), .arr 216 (enf u8v (fun _ => (0 : UInt8))), .arr 6 (enf u8v form1)]) [1, 1, 216, 6] Try.underlying43 ⟨Try.sizeOf2, Try.sizeOf2, Try.sizeOf40, Try.sizeOf41, trivial⟩ Try.zeroValue43 rfl [(0, .int .i64 p1), (1, .int .i64 n_1), (3, sval [.arr 6 (enf u8v form1)])] rfl (fun pl hpl => by subst hpl; exact fill_one 0 rfl rfl rfl rfl (fill_one 1 rfl rfl rfl rfl (fill_mid (news := [.arr 6 (enf u8v form1)]) 3 1 rfl rfl rfl rfl (rfl)))) rfl rfl ?_
  refine TL.alloc [.one (.int .i64 0), .one (.int .i64 0), .arr 216 (enf u8v (fun _ => (0 : UInt8))), .arr 6 (enf u8v (fun _ => (0 : UInt8)))] rfl rfl Try.zeroValue43 rfl fun b_3 => ?_
  refine TL.stM (news := [.one (.int .i64 p1), .one (.int .i64 n_1), .arr 216 (enf u8v (fun _ => (0 : UInt8))), .arr 6 (enf u8v form1)]) 0 0 4 rfl Try.sizeOf43 (ones_one rfl (ones_one rfl (ones_arr (fun _ => rfl) (ones_arr (fun _ => rfl) ones_nil)))) rfl rfl rfl rfl rfl rfl ?_
  refine TL.done ?_
  refine TC.seq ?_
  refine TC.seq ?_
  refine TC.region ?_
  refine TL.move rfl rfl (v := .int .i64 n_1) rfl ?_
  refine TL.move rfl rfl (v := .int .i64 0) rfl ?_
  refine TL.done ?_
  refine TC.loop1 (σ := (Nat → UInt8) × Int) (γ := Unit) (Γ' := (fun p q => match p, q with | (a_1, x1), _ => [(1, .int .i64 n_1), (3, .func (.func f1) fst1.toArray cap1.toArray), (8, bp b_2 0), (9, bp b_3 0), (17, .int .i64 n_1), (18, .int .i64 x1)])) (L' := (fun p q => match p, q with | (a_1, x1), _ => [box b_2 43 [.one (.int .i64 0), .one (.int .i64 0), .arr 216 (enf u8v (fun _ => (0 : UInt8))), .arr 6 (enf u8v (fun _ => (0 : UInt8)))], box b_3 43 [.one (.int .i64 p1), .one (.int .i64 n_1), .arr 216 (enf u8v a_1), .arr 6 (enf u8v form1)]])) (Γb := (fun p q => match p, q with | (a_1, x1), _ => [(1, .int .i64 n_1), (3, .func (.func f1) fst1.toArray cap1.toArray), (8, bp b_2 0), (9, bp b_3 0), (17, .int .i64 n_1), (18, .int .i64 x1)])) (Lb := (fun p q => match p, q with | (a_1, x1), _ => [box b_2 43 [.one (.int .i64 0), .one (.int .i64 0), .arr 216 (enf u8v (fun _ => (0 : UInt8))), .arr 6 (enf u8v (fun _ => (0 : UInt8)))], box b_3 43 [.one (.int .i64 p1), .one (.int .i64 n_1), .arr 216 (enf u8v a_1), .arr 6 (enf u8v form1)]])) (((fun _ => (0 : UInt8)), 0)) (()) ⟨rfl, rfl, rfl, rfl, rfl, rfl, trivial⟩ [1, 0] rfl ?_ ?_
  · rintro ⟨a_1, x1⟩ _
    refine TC.seq ?_
    refine TC.region ?_
    refine TL.bin .i64 x1 n_1 rfl rfl rfl rfl (v := .bool (decide (x1 < n_1))) rfl ?_
    refine TL.done ?_
    refine TC.seq ?_
    refine TC.cond (b := (decide (x1 < n_1))) rfl (fun c1 => ?_) (fun c2 => ?_)
    · refine TC.skip ?_
      refine TC.seq ?_
      refine TC.block (NoEx.loop1 rfl) ?_
      refine TC.seq ?_
      refine TC.region ?_
      refine TL.move rfl rfl (v := .int .i64 x1) rfl ?_
      refine TL.assign rfl rfl (v := .int .i64 x1) rfl ?_
      refine TL.done ?_
      refine TC.seq ?_
      refine TC.region ?_
      refine TL.move rfl rfl (v := .int .i64 n_1) rfl ?_
      refine TL.move rfl rfl (v := .int .i64 0) rfl ?_
      refine TL.done ?_
      refine TC.loop1 (σ := (Nat → UInt8) × Int) (γ := Unit) (Γ' := (fun p q => match p, q with | (a_2, x2), _ => [(1, .int .i64 n_1), (3, .func (.func f1) fst1.toArray cap1.toArray), (8, bp b_2 0), (9, bp b_3 0), (10, .int .i64 x1), (17, .int .i64 n_1), (18, .int .i64 x1), (21, .int .i64 n_1), (22, .int .i64 x2)])) (L' := (fun p q => match p, q with | (a_2, x2), _ => [box b_2 43 [.one (.int .i64 0), .one (.int .i64 0), .arr 216 (enf u8v (fun _ => (0 : UInt8))), .arr 6 (enf u8v (fun _ => (0 : UInt8)))], box b_3 43 [.one (.int .i64 p1), .one (.int .i64 n_1), .arr 216 (enf u8v a_2), .arr 6 (enf u8v form1)]])) (Γb := (fun p q => match p, q with | (a_2, x2), _ => [(1, .int .i64 n_1), (3, .func (.func f1) fst1.toArray cap1.toArray), (8, bp b_2 0), (9, bp b_3 0), (10, .int .i64 x1), (17, .int .i64 n_1), (18, .int .i64 x1), (21, .int .i64 n_1), (22, .int .i64 x2)])) (Lb := (fun p q => match p, q with | (a_2, x2), _ => [box b_2 43 [.one (.int .i64 0), .one (.int .i64 0), .arr 216 (enf u8v (fun _ => (0 : UInt8))), .arr 6 (enf u8v (fun _ => (0 : UInt8)))], box b_3 43 [.one (.int .i64 p1), .one (.int .i64 n_1), .arr 216 (enf u8v a_2), .arr 6 (enf u8v form1)]])) ((a_1, 0)) (()) ⟨rfl, rfl, rfl, rfl, rfl, rfl, rfl, rfl, rfl, trivial⟩ [0, 0] rfl ?_ ?_
      · rintro ⟨a_2, x2⟩ _
        refine TC.seq ?_
        refine TC.region ?_
        refine TL.bin .i64 x2 n_1 rfl rfl rfl rfl (v := .bool (decide (x2 < n_1))) rfl ?_
        refine TL.done ?_
        refine TC.seq ?_
        refine TC.cond (b := (decide (x2 < n_1))) rfl (fun c3 => ?_) (fun c4 => ?_)
        · refine TC.skip ?_
          refine TC.seq ?_
          refine TC.block (NoEx.loop1 rfl) ?_
          refine TC.seq ?_
          refine TC.region ?_
          refine TL.move rfl rfl (v := .int .i64 x2) rfl ?_
          refine TL.assign rfl rfl (v := .int .i64 x2) rfl ?_
          refine TL.done ?_
          refine TC.seq ?_
          refine TC.region ?_
          refine TL.move rfl rfl (v := .func (.func f1) fst1.toArray cap1.toArray) rfl ?_
          refine TL.move rfl rfl (v := .int .i64 x1) rfl ?_
          refine TL.move rfl rfl (v := .int .i64 x2) rfl ?_
          refine TL.callv (R := (fun r_ => (fun (v_ : Value) (L_ : List Asn) => v_ = .int .i64 r_ ∧ L_ = []))) (vs := [.int .i64 x1, .int .i64 x2]) hc1 rfl rfl rfl rfl (fun w hS => hf1 w hS.iw x1 x2) ?_
          rintro r_1 _ _ ⟨rfl, rfl⟩
          refine TL.assign rfl rfl (v := .int .i64 r_1) rfl ?_
          refine TL.done ?_
          refine TC.seq ?_
          refine TC.region ?_
          refine TL.move rfl rfl (v := .int .i64 r_1) rfl ?_
          refine TL.bin .i64 r_1 0 rfl rfl rfl rfl (v := .bool (decide (r_1 ≥ 0))) rfl ?_
          refine TL.done ?_
          refine TC.join1 (σ := (Nat → UInt8)) (γ := Unit) (Γ' := (fun a_3 _ => [(1, .int .i64 n_1), (3, .func (.func f1) fst1.toArray cap1.toArray), (8, bp b_2 0), (9, bp b_3 0), (10, .int .i64 x1), (17, .int .i64 n_1), (18, .int .i64 x1), (21, .int .i64 n_1), (22, .int .i64 x2)])) (L' := (fun a_3 _ => [box b_2 43 [.one (.int .i64 0), .one (.int .i64 0), .arr 216 (enf u8v (fun _ => (0 : UInt8))), .arr 6 (enf u8v (fun _ => (0 : UInt8)))], box b_3 43 [.one (.int .i64 p1), .one (.int .i64 n_1), .arr 216 (enf u8v a_3), .arr 6 (enf u8v form1)]])) ?_ ?_
          · refine TC.cond (b := (decide (r_1 ≥ 0))) rfl (fun c5 => ?_) (fun c6 => ?_)
            · refine TC.region ?_
              refine TL.move rfl rfl (v := .int .i64 x1) rfl ?_
              refine TL.move rfl rfl (v := .int .i64 x2) rfl ?_
              refine TL.move rfl rfl (v := .int .i64 r_1) rfl ?_
              refine TL.fa Try.underlying43 rfl Try.sizeOf40 rfl 2 rfl rfl rfl rfl ?_
              refine TL.chk fun h1 => ?_
              refine TL.ixa x1 (2 + x1.toNat * 36) h1 Try.underlying40 Try.sizeOf39 rfl rfl rfl rfl (by omega) ?_
              refine TL.chk fun h2 => ?_
              refine TL.ixa x2 (2 + (x1.toNat * 36 + x2.toNat * 6)) h2 Try.underlying39 Try.sizeOf38 rfl rfl rfl rfl (by omega) ?_
              refine TL.chk fun h3 => ?_
              refine TL.ixa r_1 (2 + (x1.toNat * 36 + x2.toNat * 6 + r_1.toNat)) h3 Try.underlying38 Try.sizeOf5 rfl rfl rfl rfl (by omega) ?_
              refine TL.stA (e := u8v) (z := (1 : UInt8)) 1 2 (x1.toNat * 36 + x2.toNat * 6 + r_1.toNat) rfl Try.sizeOf5 rfl (by omega) (s := 2) rfl (by omega) rfl rfl rfl rfl rfl ?_
              refine TL.done ?_
              exact TC.nrm ((upd a_2 (x1.toNat * 36 + x2.toNat * 6 + r_1.toNat) (1 : UInt8))) (()) ⟨rfl, rfl, rfl, rfl, rfl, rfl, rfl, rfl, rfl, trivial⟩ [0, 0] rfl
            · refine TC.skip ?_
              exact TC.nrm (a_2) (()) ⟨rfl, rfl, rfl, rfl, rfl, rfl, rfl, rfl, rfl, trivial⟩ [0, 0] rfl
          · rintro a_3 _
            refine TC.region ?_
            refine TL.bin .i64 x2 1 rfl rfl rfl rfl (v := .int .i64 (w64 (x2 + 1))) rfl ?_
            refine TL.move rfl rfl (v := .int .i64 (w64 (x2 + 1))) rfl ?_
            refine TL.done ?_
            exact TC.next1 ((a_3, (w64 (x2 + 1)))) (()) ⟨rfl, rfl, rfl, rfl, rfl, rfl, rfl, rfl, rfl, trivial⟩ [0, 0] rfl
        · exact TC.brk1 ((a_2, x2)) (()) ⟨rfl, rfl, rfl, rfl, rfl, rfl, rfl, rfl, rfl, trivial⟩ [0, 0] rfl
      · rintro ⟨a_2, x2⟩ _
        refine TC.region ?_
        refine TL.bin .i64 x1 1 rfl rfl rfl rfl (v := .int .i64 (w64 (x1 + 1))) rfl ?_
        refine TL.move rfl rfl (v := .int .i64 (w64 (x1 + 1))) rfl ?_
        refine TL.done ?_
        exact TC.next1 ((a_2, (w64 (x1 + 1)))) (()) ⟨rfl, rfl, rfl, rfl, rfl, rfl, trivial⟩ [0, 0] rfl
    · exact TC.brk1 ((a_1, x1)) (()) ⟨rfl, rfl, rfl, rfl, rfl, rfl, trivial⟩ [0, 0] rfl
  · rintro ⟨a_1, x1⟩ _
    refine TC.seq ?_
    refine TC.region ?_
    refine TL.loadM 0 4 (Src.box 1 rfl) Try.isAgg43 Try.sizeOf43 (mid := [.one (.int .i64 p1), .one (.int .i64 n_1), .arr 216 (enf u8v a_1), .arr 6 (enf u8v form1)]) rfl rfl rfl rfl rfl rfl ?_
    refine TL.stM (news := [.one (.int .i64 p1), .one (.int .i64 n_1), .arr 216 (enf u8v a_1), .arr 6 (enf u8v form1)]) 0 0 4 rfl Try.sizeOf43 (ones_one rfl (ones_one rfl (ones_arr (fun _ => rfl) (ones_arr (fun _ => rfl) ones_nil)))) rfl rfl rfl rfl rfl rfl ?_
    refine TL.done ?_
    exact TC.retF (Fin.body (fin1 (.inr rfl) rfl (.cellN rfl (Src.box 0 rfl) Try.isAgg43 Try.sizeOf43 rfl) [] rfl ⟨rfl, rfl⟩))

end Go.Proofs.Ytiiljfpbcanphaa.G

/- impl.NamedAlgebra$1, as a pure function. -/
set_option linter.unusedVariables false
namespace Go.Proofs.Ytiiljfpbcanphaa.G
open Go Go.Sx Go.Proofs

def impl_NamedAlgebra_1.f (x1 : Int) (x2 : Int) : Option Int := some 0

def impl_NamedAlgebra_1.R (r : Int) (v : Value) (L : List Asn) : Prop := v = .int .i64 r ∧ L = []

set_option maxRecDepth 100000 in
set_option maxHeartbeats 4000000 in
theorem impl_NamedAlgebra_1.calls (w : World) (x1 : Int) (x2 : Int) :
    ∀ r, impl_NamedAlgebra_1.f x1 x2 = some r → Calls Try.prog 93 #[.int .i64 x1, .int .i64 x2] w (Ret w (impl_NamedAlgebra_1.R r)) := by

  refine calls_T (n := 5) (Γ := [(0, .int .i64 x1), (1, .int .i64 x2)]) (R := impl_NamedAlgebra_1.R) Try.func93 rfl rfl (Nat.le_of_ble_eq_true rfl) ⟨rfl, rfl, trivial⟩ ?_
  unfold impl_NamedAlgebra_1.f
  refine TC.seq ?_
  refine TC.region ?_
  refine TL.assign rfl rfl (v := .int .i64 0) rfl ?_
  refine TL.done ?_
  refine TC.seq ?_
  refine TC.region ?_
  refine TL.assign rfl rfl (v := .int .i64 0) rfl ?_
  refine TL.done ?_
  exact TC.retF (Fin.body (fin1 (.inr rfl) rfl (.tmp rfl) [] rfl ⟨rfl, rfl⟩))

end Go.Proofs.Ytiiljfpbcanphaa.G

/- impl.NamedAlgebra$2, as a pure function. -/
set_option linter.unusedVariables false
namespace Go.Proofs.Ytiiljfpbcanphaa.G
open Go Go.Sx Go.Proofs

def impl_NamedAlgebra_2.f (i1 : Int) (j1 : Int) : Option Int := (bif (decide ((w64 (i1 + j1)) > 1)) then some (-1) else some (w64 (i1 + j1)))

def impl_NamedAlgebra_2.R (r : Int) (v : Value) (L : List Asn) : Prop := v = .int .i64 r ∧ L = []

set_option maxRecDepth 100000 in
set_option maxHeartbeats 4000000 in
theorem impl_NamedAlgebra_2.calls (w : World) (i1 : Int) (j1 : Int) :
    ∀ r, impl_NamedAlgebra_2.f i1 j1 = some r → Calls Try.prog 94 #[.int .i64 i1, .int .i64 j1] w (Ret w (impl_NamedAlgebra_2.R r)) := by

  refine calls_T (n := 12) (Γ := [(0, .int .i64 i1), (1, .int .i64 j1)]) (R := impl_NamedAlgebra_2.R) Try.func94 rfl rfl (Nat.le_of_ble_eq_true rfl) ⟨rfl, rfl, trivial⟩ ?_
  unfold impl_NamedAlgebra_2.f
  refine TC.seq ?_
  refine TC.region ?_
  refine TL.assign rfl rfl (v := .int .i64 0) rfl ?_
  refine TL.done ?_
  refine TC.seq ?_
  refine TC.seq ?_
  refine TC.region ?_
  refine TL.move rfl rfl (v := .int .i64 i1) rfl ?_
  refine TL.move rfl rfl (v := .int .i64 j1) rfl ?_
  refine TL.bin .i64 i1 j1 rfl rfl rfl rfl (v := .int .i64 (w64 (i1 + j1))) rfl ?_
  refine TL.bin .i64 (w64 (i1 + j1)) 1 rfl rfl rfl rfl (v := .bool (decide ((w64 (i1 + j1)) > 1))) rfl ?_
  refine TL.done ?_
  refine TC.cond (b := (decide ((w64 (i1 + j1)) > 1))) rfl (fun c1 => ?_) (fun c2 => ?_)
  · refine TC.seq ?_
    refine TC.region ?_
    refine TL.assign rfl rfl (v := .int .i64 (-1)) rfl ?_
    refine TL.done ?_
    exact TC.retF (Fin.body (fin1 (.inr rfl) rfl (.tmp rfl) [] rfl ⟨rfl, rfl⟩))
  · refine TC.skip ?_
    refine TC.seq ?_
    refine TC.region ?_
    refine TL.move rfl rfl (v := .int .i64 i1) rfl ?_
    refine TL.move rfl rfl (v := .int .i64 j1) rfl ?_
    refine TL.bin .i64 i1 j1 rfl rfl rfl rfl (v := .int .i64 (w64 (i1 + j1))) rfl ?_
    refine TL.assign rfl rfl (v := .int .i64 (w64 (i1 + j1))) rfl ?_
    refine TL.done ?_
    exact TC.retF (Fin.body (fin1 (.inr rfl) rfl (.tmp rfl) [] rfl ⟨rfl, rfl⟩))

end Go.Proofs.Ytiiljfpbcanphaa.G

/- impl.NamedAlgebra$3, as a pure function. -/
set_option linter.unusedVariables false
namespace Go.Proofs.Ytiiljfpbcanphaa.G
open Go Go.Sx Go.Proofs

def impl_NamedAlgebra_3.f (i1 : Int) (j1 : Int) : Option Int := (bif (i1 != j1) then some (-1) else some i1)

def impl_NamedAlgebra_3.R (r : Int) (v : Value) (L : List Asn) : Prop := v = .int .i64 r ∧ L = []

set_option maxRecDepth 100000 in
set_option maxHeartbeats 4000000 in
theorem impl_NamedAlgebra_3.calls (w : World) (i1 : Int) (j1 : Int) :
    ∀ r, impl_NamedAlgebra_3.f i1 j1 = some r → Calls Try.prog 95 #[.int .i64 i1, .int .i64 j1] w (Ret w (impl_NamedAlgebra_3.R r)) := by

  refine calls_T (n := 9) (Γ := [(0, .int .i64 i1), (1, .int .i64 j1)]) (R := impl_NamedAlgebra_3.R) Try.func95 rfl rfl (Nat.le_of_ble_eq_true rfl) ⟨rfl, rfl, trivial⟩ ?_
  unfold impl_NamedAlgebra_3.f
  refine TC.seq ?_
  refine TC.region ?_
  refine TL.assign rfl rfl (v := .int .i64 0) rfl ?_
  refine TL.done ?_
  refine TC.seq ?_
  refine TC.seq ?_
  refine TC.region ?_
  refine TL.move rfl rfl (v := .int .i64 i1) rfl ?_
  refine TL.move rfl rfl (v := .int .i64 j1) rfl ?_
  refine TL.bin .i64 i1 j1 rfl rfl rfl rfl (v := .bool (i1 != j1)) rfl ?_
  refine TL.done ?_
  refine TC.cond (b := (i1 != j1)) rfl (fun c1 => ?_) (fun c2 => ?_)
  · refine TC.seq ?_
    refine TC.region ?_
    refine TL.assign rfl rfl (v := .int .i64 (-1)) rfl ?_
    refine TL.done ?_
    exact TC.retF (Fin.body (fin1 (.inr rfl) rfl (.tmp rfl) [] rfl ⟨rfl, rfl⟩))
  · refine TC.skip ?_
    refine TC.seq ?_
    refine TC.region ?_
    refine TL.move rfl rfl (v := .int .i64 i1) rfl ?_
    refine TL.assign rfl rfl (v := .int .i64 i1) rfl ?_
    refine TL.done ?_
    exact TC.retF (Fin.body (fin1 (.inr rfl) rfl (.tmp rfl) [] rfl ⟨rfl, rfl⟩))

end Go.Proofs.Ytiiljfpbcanphaa.G

/- impl.NamedAlgebra$4, as a pure function. -/
set_option linter.unusedVariables false
namespace Go.Proofs.Ytiiljfpbcanphaa.G
open Go Go.Sx Go.Proofs

def impl_NamedAlgebra_4.f (i1 : Int) (j1 : Int) : Option Int := some (Int.tmod (w64 (i1 + j1)) 3)

def impl_NamedAlgebra_4.R (r : Int) (v : Value) (L : List Asn) : Prop := v = .int .i64 r ∧ L = []

set_option maxRecDepth 100000 in
set_option maxHeartbeats 4000000 in
theorem impl_NamedAlgebra_4.calls (w : World) (i1 : Int) (j1 : Int) :
    ∀ r, impl_NamedAlgebra_4.f i1 j1 = some r → Calls Try.prog 96 #[.int .i64 i1, .int .i64 j1] w (Ret w (impl_NamedAlgebra_4.R r)) := by

  refine calls_T (n := 9) (Γ := [(0, .int .i64 i1), (1, .int .i64 j1)]) (R := impl_NamedAlgebra_4.R) Try.func96 rfl rfl (Nat.le_of_ble_eq_true rfl) ⟨rfl, rfl, trivial⟩ ?_
  unfold impl_NamedAlgebra_4.f
  refine TC.seq ?_
  refine TC.region ?_
  refine TL.assign rfl rfl (v := .int .i64 0) rfl ?_
  refine TL.done ?_
  refine TC.seq ?_
  refine TC.region ?_
  refine TL.move rfl rfl (v := .int .i64 i1) rfl ?_
  refine TL.move rfl rfl (v := .int .i64 j1) rfl ?_
  refine TL.bin .i64 i1 j1 rfl rfl rfl rfl (v := .int .i64 (w64 (i1 + j1))) rfl ?_
  refine TL.rem .i64 (w64 (i1 + j1)) 3 (by decide) rfl rfl rfl rfl ?_
  refine TL.assign rfl rfl (v := .int .i64 (Int.tmod (w64 (i1 + j1)) 3)) rfl ?_
  refine TL.done ?_
  exact TC.retF (Fin.body (fin1 (.inr rfl) rfl (.tmp rfl) [] rfl ⟨rfl, rfl⟩))

end Go.Proofs.Ytiiljfpbcanphaa.G

/- impl.permutations, as a pure function. -/
set_option linter.unusedVariables false
namespace Go.Proofs.Ytiiljfpbcanphaa.G
open Go Go.Sx Go.Proofs

def impl_permutations.f : Option (List (Nat → Int)) := some ([(upd (upd (upd (fun _ => (0 : Int)) 0 0) 1 1) 2 2), (upd (upd (upd (fun _ => (0 : Int)) 0 0) 1 2) 2 1), (upd (upd (upd (fun _ => (0 : Int)) 0 1) 1 0) 2 2), (upd (upd (upd (fun _ => (0 : Int)) 0 1) 1 2) 2 0), (upd (upd (upd (fun _ => (0 : Int)) 0 2) 1 0) 2 1), (upd (upd (upd (fun _ => (0 : Int)) 0 2) 1 1) 2 0)] : List (Nat → Int))

def impl_permutations.R (r : List (Nat → Int)) (v : Value) (L : List Asn) : Prop := ∃ (s0 : SV), v = SV.v s0 ∧ L = [row (Evi 3) 122 s0 r]

set_option maxRecDepth 100000 in
set_option maxHeartbeats 4000000 in
theorem impl_permutations.calls (w : World) :
    ∀ r, impl_permutations.f = some r → Calls Try.prog 145 #[] w (Ret w (impl_permutations.R r)) := by

  refine calls_T (n := 8) (Γ := []) (R := impl_permutations.R) Try.func145 rfl rfl (Nat.le_of_ble_eq_true rfl) trivial ?_
  unfold impl_permutations.f
  refine TC.seq ?_
  refine TC.region ?_
  refine TL.assign rfl rfl (v := SV.v ⟨none, 0, 0⟩) rfl ?_
  refine TL.done ?_
  refine TC.seq ?_
  refine TC.region ?_
  refine TL.buildA (segs0 := [.arr 3 (enf i64v (fun _ => (0 : Int)))]) (segs := [.arr 3 (enf i64v (upd (upd (upd (fun _ => (0 : Int)) 0 0) 1 1) 2 2))]) Try.underlying122 Try.sizeOf3 Try.zeroValue122 rfl [(0, .int .i64 0), (1, .int .i64 1), (2, .int .i64 2)] rfl (fill_arr (e := i64v) (z := 0) (q := 0) (s := 0) 0 rfl rfl rfl rfl rfl rfl (fill_arr (e := i64v) (z := 1) (q := 1) (s := 0) 0 rfl rfl rfl rfl rfl rfl (fill_arr (e := i64v) (z := 2) (q := 2) (s := 0) 0 rfl rfl rfl rfl rfl rfl (rfl)))) rfl rfl ?_
  refine TL.buildA (segs0 := [.arr 3 (enf i64v (fun _ => (0 : Int)))]) (segs := [.arr 3 (enf i64v (upd (upd (upd (fun _ => (0 : Int)) 0 0) 1 2) 2 1))]) Try.underlying122 Try.sizeOf3 Try.zeroValue122 rfl [(0, .int .i64 0), (1, .int .i64 2), (2, .int .i64 1)] rfl (fill_arr (e := i64v) (z := 0) (q := 0) (s := 0) 0 rfl rfl rfl rfl rfl rfl (fill_arr (e := i64v) (z := 2) (q := 1) (s := 0) 0 rfl rfl rfl rfl rfl rfl (fill_arr (e := i64v) (z := 1) (q := 2) (s := 0) 0 rfl rfl rfl rfl rfl rfl (rfl)))) rfl rfl ?_
  refine TL.buildA (segs0 := [.arr 3 (enf i64v (fun _ => (0 : Int)))]) (segs := [.arr 3 (enf i64v (upd (upd (upd (fun _ => (0 : Int)) 0 1) 1 0) 2 2))]) Try.underlying122 Try.sizeOf3 Try.zeroValue122 rfl [(0, .int .i64 1), (1, .int .i64 0), (2, .int .i64 2)] rfl (fill_arr (e := i64v) (z := 1) (q := 0) (s := 0) 0 rfl rfl rfl rfl rfl rfl (fill_arr (e := i64v) (z := 0) (q := 1) (s := 0) 0 rfl rfl rfl rfl rfl rfl (fill_arr (e := i64v) (z := 2) (q := 2) (s := 0) 0 rfl rfl rfl rfl rfl rfl (rfl)))) rfl rfl ?_
  refine TL.buildA (segs0 := [.arr 3 (enf i64v (fun _ => (0 : Int)))]) (segs := [.arr 3 (enf i64v (upd (upd (upd (fun _ => (0 : Int)) 0 1) 1 2) 2 0))]) Try.underlying122 Try.sizeOf3 Try.zeroValue122 rfl [(0, .int .i64 1), (1, .int .i64 2), (2, .int .i64 0)] rfl (fill_arr (e := i64v) (z := 1) (q := 0) (s := 0) 0 rfl rfl rfl rfl rfl rfl (fill_arr (e := i64v) (z := 2) (q := 1) (s := 0) 0 rfl rfl rfl rfl rfl rfl (fill_arr (e := i64v) (z := 0) (q := 2) (s := 0) 0 rfl rfl rfl rfl rfl rfl (rfl)))) rfl rfl ?_
  refine TL.buildA (segs0 := [.arr 3 (enf i64v (fun _ => (0 : Int)))]) (segs := [.arr 3 (enf i64v (upd (upd (upd (fun _ => (0 : Int)) 0 2) 1 0) 2 1))]) Try.underlying122 Try.sizeOf3 Try.zeroValue122 rfl [(0, .int .i64 2), (1, .int .i64 0), (2, .int .i64 1)] rfl (fill_arr (e := i64v) (z := 2) (q := 0) (s := 0) 0 rfl rfl rfl rfl rfl rfl (fill_arr (e := i64v) (z := 0) (q := 1) (s := 0) 0 rfl rfl rfl rfl rfl rfl (fill_arr (e := i64v) (z := 1) (q := 2) (s := 0) 0 rfl rfl rfl rfl rfl rfl (rfl)))) rfl rfl ?_
  refine TL.buildA (segs0 := [.arr 3 (enf i64v (fun _ => (0 : Int)))]) (segs := [.arr 3 (enf i64v (upd (upd (upd (fun _ => (0 : Int)) 0 2) 1 1) 2 0))]) Try.underlying122 Try.sizeOf3 Try.zeroValue122 rfl [(0, .int .i64 2), (1, .int .i64 1), (2, .int .i64 0)] rfl (fill_arr (e := i64v) (z := 2) (q := 0) (s := 0) 0 rfl rfl rfl rfl rfl rfl (fill_arr (e := i64v) (z := 1) (q := 1) (s := 0) 0 rfl rfl rfl rfl rfl rfl (fill_arr (e := i64v) (z := 0) (q := 2) (s := 0) 0 rfl rfl rfl rfl rfl rfl (rfl)))) rfl rfl ?_
  refine TL.blit (Evi 3) ([(upd (upd (upd (fun _ => (0 : Int)) 0 0) 1 1) 2 2), (upd (upd (upd (fun _ => (0 : Int)) 0 0) 1 2) 2 1), (upd (upd (upd (fun _ => (0 : Int)) 0 1) 1 0) 2 2), (upd (upd (upd (fun _ => (0 : Int)) 0 1) 1 2) 2 0), (upd (upd (upd (fun _ => (0 : Int)) 0 2) 1 0) 2 1), (upd (upd (upd (fun _ => (0 : Int)) 0 2) 1 1) 2 0)] : List (Nat → Int)) Try.underlying120 Try.sizeOf122 Try.zeroValue122 rfl rfl rfl [(0, sval [.arr 3 (enf i64v (upd (upd (upd (fun _ => (0 : Int)) 0 0) 1 1) 2 2))]), (1, sval [.arr 3 (enf i64v (upd (upd (upd (fun _ => (0 : Int)) 0 0) 1 2) 2 1))]), (2, sval [.arr 3 (enf i64v (upd (upd (upd (fun _ => (0 : Int)) 0 1) 1 0) 2 2))]), (3, sval [.arr 3 (enf i64v (upd (upd (upd (fun _ => (0 : Int)) 0 1) 1 2) 2 0))]), (4, sval [.arr 3 (enf i64v (upd (upd (upd (fun _ => (0 : Int)) 0 2) 1 0) 2 1))]), (5, sval [.arr 3 (enf i64v (upd (upd (upd (fun _ => (0 : Int)) 0 2) 1 1) 2 0))])] rfl ⟨rfl, rfl, rfl, rfl, rfl, rfl, rfl, rfl, rfl, rfl, rfl, rfl, trivial⟩ rfl rfl fun s1 => ?_
  refine TL.assign rfl rfl (v := SV.v s1) rfl ?_
  refine TL.done ?_
  exact TC.retF (Fin.body (fin1 (.inr rfl) rfl (.tmp rfl) [0] rfl ⟨s1, rfl, rfl⟩))

end Go.Proofs.Ytiiljfpbcanphaa.G

/- slices.Index[[][3]int,[3]int], as a pure function. -/
set_option linter.unusedVariables false
namespace Go.Proofs.Ytiiljfpbcanphaa.G
open Go Go.Sx Go.Proofs

def slices_Index_3_int_3_int.b0 (s1 : List (Nat → Int)) (v_1 : Nat → Int) : Int → Option (LR Int Int) := fun x1 => (bif (decide (x1 < (s1.length : Int))) then chk x1 s1.length ((bif ((List.range 3).all fun i_ => v_1 i_ == (gt s1 x1) i_) then some (.ret (x1)) else some (.next (w64 (x1 + 1))))) else some (.brk x1))

def slices_Index_3_int_3_int.f (s1 : List (Nat → Int)) (v_1 : Nat → Int) : Option Int := (loop (slices_Index_3_int_3_int.b0 s1 v_1) 0).bind (ln (fun x1 => some (-1)))

def slices_Index_3_int_3_int.R (r : Int) (v : Value) (L : List Asn) : Prop := v = .int .i64 r ∧ L = []

set_option maxRecDepth 100000 in
set_option maxHeartbeats 4000000 in
theorem slices_Index_3_int_3_int.calls (w : World) (s2 : SV) (s1 : List (Nat → Int)) (v_1 : Nat → Int) (h1 : Reads (Evi 3) (hp w) s2 s1) :
    ∀ r, slices_Index_3_int_3_int.f s1 v_1 = some r → Calls Try.prog 146 #[SV.v s2, sval [.arr 3 (enf i64v v_1)]] w (Ret w (slices_Index_3_int_3_int.R r)) := by

  refine calls_T (n := 19) (Γ := [(0, SV.v s2), (1, sval [.arr 3 (enf i64v v_1)])]) (R := slices_Index_3_int_3_int.R) Try.func146 rfl rfl (Nat.le_of_ble_eq_true rfl) ⟨rfl, rfl, trivial⟩ ?_
  unfold slices_Index_3_int_3_int.f
  refine TC.seq ?_
  refine TC.region ?_
  refine TL.box [.arr 3 (enf i64v v_1)] rfl rfl rfl rfl fun b_1 => ?_
  refine TL.assign rfl rfl (v := .int .i64 0) rfl ?_
  refine TL.done ?_
  refine TC.seq ?_
  refine TC.seq ?_
  refine TC.region ?_
  refine TL.move rfl rfl (v := SV.v s2) rfl ?_
  refine TL.len (Rd.old h1) Try.underlying120 rfl rfl rfl ?_
  refine TL.move rfl rfl (v := .int .i64 0) rfl ?_
  refine TL.done ?_
  refine TC.loopK (σ := Int) (γ := Unit) (Γ' := (fun x1 _ => [(0, SV.v s2), (3, bp b_1 0), (7, .int .i64 (s1.length : Int)), (8, .int .i64 x1)])) (L' := (fun x1 _ => [box b_1 122 [.arr 3 (enf i64v v_1)]])) (Γb := (fun x1 _ => [(0, SV.v s2), (3, bp b_1 0), (7, .int .i64 (s1.length : Int)), (8, .int .i64 x1)])) (Lb := (fun x1 _ => [box b_1 122 [.arr 3 (enf i64v v_1)]])) (0) (()) ⟨rfl, rfl, rfl, rfl, trivial⟩ [0] rfl ?_ ?_
  · rintro x1 _
    refine TC.seq ?_
    refine TC.region ?_
    refine TL.bin .i64 x1 (s1.length : Int) rfl rfl rfl rfl (v := .bool (decide (x1 < (s1.length : Int)))) rfl ?_
    refine TL.done ?_
    refine TC.seq ?_
    refine TC.cond (b := (decide (x1 < (s1.length : Int)))) rfl (fun c1 => ?_) (fun c2 => ?_)
    · refine TC.skip ?_
      refine TC.seq ?_
      refine TC.block (NoEx.loop rfl NoEx.body) ?_
      refine TC.seq ?_
      refine TC.region ?_
      refine TL.move rfl rfl (v := .int .i64 x1) rfl ?_
      refine TL.assign rfl rfl (v := .int .i64 x1) rfl ?_
      refine TL.done ?_
      refine TC.seq ?_
      refine TC.wk (Γ' := [(0, SV.v s2), (3, bp b_1 0), (7, .int .i64 (s1.length : Int)), (8, .int .i64 x1), (9, .bool (decide (x1 < (s1.length : Int)))), (10, .int .i64 x1), (5, .int .i64 x1)]) ⟨rfl, rfl, rfl, rfl, rfl, rfl, rfl, trivial⟩ ?_
      refine TC.chk fun h2 => ?_
      refine TC.draw [sval [.arr 3 (enf i64v v_1)], SV.v s2, .int .i64 x1, ep s2 (x1.toNat * 3), sval [.arr 3 (enf i64v (gt s1 x1))], .bool ((List.range 3).all fun i_ => v_1 i_ == (gt s1 x1) i_)] 6 [box b_1 122 [.arr 3 (enf i64v v_1)]] (by kernel_rfl) rfl rfl rfl rfl ?_ ?_
      · refine ⟨?_, ?_, ?_, ?_, ?_, ?_, trivial⟩
        · refine TL.loadM 0 1 (Src.box 0 rfl) Try.isAgg122 Try.sizeOf122 (mid := [.arr 3 (enf i64v v_1)]) rfl rfl rfl rfl rfl rfl ?_
          refine TL.done ?_
          exact TC.nrm () () ⟨rfl, trivial⟩ [0] (by kernel_rfl)
        · refine TL.move rfl rfl (v := SV.v s2) rfl ?_
          refine TL.done ?_
          exact TC.nrm () () ⟨rfl, trivial⟩ [0] (by kernel_rfl)
        · refine TL.move rfl rfl (v := .int .i64 x1) rfl ?_
          refine TL.done ?_
          exact TC.nrm () () ⟨rfl, trivial⟩ [0] (by kernel_rfl)
        · refine TL.ixs x1 (x1.toNat * 3) (Rd.old h1) h2 Try.underlying120 Try.sizeOf122 rfl rfl rfl rfl (by omega) ?_
          refine TL.done ?_
          exact TC.nrm () () ⟨rfl, trivial⟩ [0] (by kernel_rfl)
        · refine TL.loadEA (Rd.old h1) Try.isAgg122 Try.sizeOf122 x1.toNat (gt_spec h2) (v := sval [.arr 3 (enf i64v (gt s1 x1))]) rfl (by simp only [show (Evi 3).sz = 3 from rfl] <;> omega) rfl rfl rfl ?_
          refine TL.done ?_
          exact TC.nrm () () ⟨rfl, trivial⟩ [0] (by kernel_rfl)
        · refine TL.eqA v_1 (gt s1 x1) Try.underlying122 (info_of Try.type3) (by kernel_rfl) Try.underlying3 Try.isAgg3 (by kernel_rfl) rfl rfl rfl rfl ?_
          refine TL.done ?_
          exact TC.nrm () () ⟨rfl, trivial⟩ [0] (by kernel_rfl)
      · refine TC.cond (b := ((List.range 3).all fun i_ => v_1 i_ == (gt s1 x1) i_)) rfl (fun c3 => ?_) (fun c4 => ?_)
        · refine TC.seq ?_
          refine TC.region ?_
          refine TL.move rfl rfl (v := .int .i64 x1) rfl ?_
          refine TL.assign rfl rfl (v := .int .i64 x1) rfl ?_
          refine TL.done ?_
          exact TC.retF (Fin.loop Far.ret (Fin.body (fin1 (.inr rfl) rfl (.tmp rfl) [] rfl ⟨rfl, rfl⟩)))
        · refine TC.skip ?_
          refine TC.region ?_
          refine TL.bin .i64 x1 1 rfl rfl rfl rfl (v := .int .i64 (w64 (x1 + 1))) rfl ?_
          refine TL.move rfl rfl (v := .int .i64 (w64 (x1 + 1))) rfl ?_
          refine TL.done ?_
          exact TC.next ((w64 (x1 + 1))) (()) ⟨rfl, rfl, rfl, rfl, trivial⟩ [0] rfl
    · exact TC.brk (x1) (()) ⟨rfl, rfl, rfl, rfl, trivial⟩ [0] rfl
  · rintro x1 _
    refine TC.seq ?_
    refine TC.region ?_
    refine TL.assign rfl rfl (v := .int .i64 (-1)) rfl ?_
    refine TL.done ?_
    exact TC.retF (Fin.body (fin1 (.inr rfl) rfl (.tmp rfl) [] rfl ⟨rfl, rfl⟩))

end Go.Proofs.Ytiiljfpbcanphaa.G

/- impl.composed, as a pure function. -/
set_option linter.unusedVariables false
namespace Go.Proofs.Ytiiljfpbcanphaa.G
open Go Go.Sx Go.Proofs

def impl_composed.b0 (j1 : Int) (r_1 : List (Nat → Int)) (i1 : Int) : (Nat → Int) × Int → Option (LB ((Nat → Int) × Int)) := fun p => match p with | (out1, x1) => (bif (decide (x1 < 3)) then chk j1 r_1.length (chk x1 3 (chk i1 r_1.length (chk ((gt r_1 j1) x1.toNat) 3 (some (.next ((upd out1 x1.toNat ((gt r_1 i1) (((gt r_1 j1) x1.toNat).toNat))), (w64 (x1 + 1)))))))) else some (.brk (out1, x1)))

def impl_composed.f (i1 : Int) (j1 : Int) : Option Int := (G.impl_permutations.f).bind (fun r_1 => (loop1 (impl_composed.b0 j1 r_1 i1) ((fun _ => (0 : Int)), 0)).bind (fun p => match p with | (out1, x1) => (G.slices_Index_3_int_3_int.f r_1 out1).bind (fun r_2 => some r_2)))

def impl_composed.R (r : Int) (v : Value) (L : List Asn) : Prop := v = .int .i64 r ∧ L = []

set_option maxRecDepth 100000 in
set_option maxHeartbeats 4000000 in
theorem impl_composed.calls (w : World) (i1 : Int) (j1 : Int) :
    ∀ r, impl_composed.f i1 j1 = some r → Calls Try.prog 97 #[.int .i64 i1, .int .i64 j1] w (Ret w (impl_composed.R r)) := by

  refine calls_T (n := 30) (Γ := [(0, .int .i64 i1), (1, .int .i64 j1)]) (R := impl_composed.R) Try.func97 rfl rfl (Nat.le_of_ble_eq_true rfl) ⟨rfl, rfl, trivial⟩ ?_
  unfold impl_composed.f
  refine TC.seq ?_
  refine TC.region ?_
  refine TL.assign rfl rfl (v := .int .i64 0) rfl ?_
  refine TL.done ?_
  refine TC.seq ?_
  refine TC.region ?_
  refine TL.call (R := G.impl_permutations.R) Try.call145 rfl rfl rfl (fun w hS => G.impl_permutations.calls w) ?_
  rintro r_1 _ _ ⟨s1, rfl, rfl⟩
  refine TL.assign rfl rfl (v := SV.v s1) rfl ?_
  refine TL.done ?_
  refine TC.seq ?_
  refine TC.region ?_
  refine TL.buildA (segs0 := [.arr 3 (enf i64v (fun _ => (0 : Int)))]) (segs := [.arr 3 (enf i64v (fun _ => (0 : Int)))]) Try.underlying122 Try.sizeOf3 Try.zeroValue122 rfl [] rfl rfl rfl rfl ?_
  refine TL.alloc [.arr 3 (enf i64v (fun _ => (0 : Int)))] rfl rfl Try.zeroValue122 rfl fun b_1 => ?_
  refine TL.stM (news := [.arr 3 (enf i64v (fun _ => (0 : Int)))]) 0 0 1 rfl Try.sizeOf122 (ones_arr (fun _ => rfl) ones_nil) rfl rfl rfl rfl rfl rfl ?_
  refine TL.done ?_
  refine TC.seq ?_
  refine TC.seq ?_
  refine TC.region ?_
  refine TL.move rfl rfl (v := .int .i64 0) rfl ?_
  refine TL.done ?_
  refine TC.loop1 (σ := (Nat → Int) × Int) (γ := Unit) (Γ' := (fun p q => match p, q with | (out1, x1), _ => [(0, .int .i64 i1), (1, .int .i64 j1), (5, SV.v s1), (6, bp b_1 0), (10, .int .i64 x1)])) (L' := (fun p q => match p, q with | (out1, x1), _ => [row (Evi 3) 122 s1 r_1, box b_1 122 [.arr 3 (enf i64v out1)]])) (Γb := (fun p q => match p, q with | (out1, x1), _ => [(0, .int .i64 i1), (1, .int .i64 j1), (5, SV.v s1), (6, bp b_1 0), (10, .int .i64 x1)])) (Lb := (fun p q => match p, q with | (out1, x1), _ => [row (Evi 3) 122 s1 r_1, box b_1 122 [.arr 3 (enf i64v out1)]])) (((fun _ => (0 : Int)), 0)) (()) ⟨rfl, rfl, rfl, rfl, rfl, trivial⟩ [1, 0] rfl ?_ ?_
  · rintro ⟨out1, x1⟩ _
    refine TC.seq ?_
    refine TC.region ?_
    refine TL.bin .i64 x1 3 rfl rfl rfl rfl (v := .bool (decide (x1 < 3))) rfl ?_
    refine TL.done ?_
    refine TC.seq ?_
    refine TC.cond (b := (decide (x1 < 3))) rfl (fun c1 => ?_) (fun c2 => ?_)
    · refine TC.skip ?_
      refine TC.seq ?_
      refine TC.block (NoEx.loop1 rfl) ?_
      refine TC.seq ?_
      refine TC.region ?_
      refine TL.move rfl rfl (v := .int .i64 x1) rfl ?_
      refine TL.assign rfl rfl (v := .int .i64 x1) rfl ?_
      refine TL.done ?_
      refine TC.wk (Γ' := [(0, .int .i64 i1), (1, .int .i64 j1), (5, SV.v s1), (6, bp b_1 0), (10, .int .i64 x1), (11, .bool (decide (x1 < 3))), (12, .int .i64 x1), (7, .int .i64 x1)]) ⟨rfl, rfl, rfl, rfl, rfl, rfl, rfl, rfl, trivial⟩ ?_
      refine TC.chk fun h1 => ?_
      refine TC.chk fun h2 => ?_
      refine TC.chk fun h3 => ?_
      refine TC.chk fun h4 => ?_
      refine TC.draw [.int .i64 x1, SV.v s1, .int .i64 i1, SV.v s1, .int .i64 j1, .int .i64 x1, ep s1 (j1.toNat * 3), ep s1 (j1.toNat * 3 + x1.toNat), .int .i64 ((gt r_1 j1) x1.toNat), ep s1 (i1.toNat * 3), ep s1 (i1.toNat * 3 + ((gt r_1 j1) x1.toNat).toNat), .int .i64 ((gt r_1 i1) (((gt r_1 j1) x1.toNat).toNat)), bp b_1 x1.toNat, undef] 13 [row (Evi 3) 122 s1 r_1, box b_1 122 [.arr 3 (enf i64v (upd out1 x1.toNat ((gt r_1 i1) (((gt r_1 j1) x1.toNat).toNat))))]] (by kernel_rfl) rfl rfl rfl rfl ?_ ?_
      · refine ⟨?_, ?_, ?_, ?_, ?_, ?_, ?_, ?_, ?_, ?_, ?_, ?_, ?_, ?_, trivial⟩
        · refine TL.move rfl rfl (v := .int .i64 x1) rfl ?_
          refine TL.done ?_
          exact TC.nrm () () ⟨rfl, trivial⟩ [0, 0] (by kernel_rfl)
        · refine TL.move rfl rfl (v := SV.v s1) rfl ?_
          refine TL.done ?_
          exact TC.nrm () () ⟨rfl, trivial⟩ [0, 0] (by kernel_rfl)
        · refine TL.move rfl rfl (v := .int .i64 i1) rfl ?_
          refine TL.done ?_
          exact TC.nrm () () ⟨rfl, trivial⟩ [0, 0] (by kernel_rfl)
        · refine TL.move rfl rfl (v := SV.v s1) rfl ?_
          refine TL.done ?_
          exact TC.nrm () () ⟨rfl, trivial⟩ [0, 0] (by kernel_rfl)
        · refine TL.move rfl rfl (v := .int .i64 j1) rfl ?_
          refine TL.done ?_
          exact TC.nrm () () ⟨rfl, trivial⟩ [0, 0] (by kernel_rfl)
        · refine TL.move rfl rfl (v := .int .i64 x1) rfl ?_
          refine TL.done ?_
          exact TC.nrm () () ⟨rfl, trivial⟩ [0, 0] (by kernel_rfl)
        · refine TL.ixs j1 (j1.toNat * 3) (Rd.row 0 rfl) h1 Try.underlying120 Try.sizeOf122 rfl rfl rfl rfl (by omega) ?_
          refine TL.done ?_
          exact TC.nrm () () ⟨rfl, trivial⟩ [0, 0] (by kernel_rfl)
        · refine TL.ixe x1 (j1.toNat * 3 + x1.toNat) (Rd.row 0 rfl) (by have h_ := h1; omega) h2 Try.underlying122 Try.sizeOf3 rfl rfl rfl rfl (by omega) ?_
          refine TL.done ?_
          exact TC.nrm () () ⟨rfl, trivial⟩ [0, 0] (by kernel_rfl)
        · refine TL.loadE (Rd.row 0 rfl) Try.isAgg3 j1.toNat x1.toNat (gt_spec h1) (v := .int .i64 ((gt r_1 j1) x1.toNat)) (Evi_at _ (by have h_ := h2; omega)) (by simp only [show (Evi 3).sz = 3 from rfl] <;> omega) rfl rfl rfl ?_
          refine TL.done ?_
          exact TC.nrm () () ⟨rfl, trivial⟩ [0, 0] (by kernel_rfl)
        · refine TL.ixs i1 (i1.toNat * 3) (Rd.row 0 rfl) h3 Try.underlying120 Try.sizeOf122 rfl rfl rfl rfl (by omega) ?_
          refine TL.done ?_
          exact TC.nrm () () ⟨rfl, trivial⟩ [0, 0] (by kernel_rfl)
        · refine TL.ixe ((gt r_1 j1) x1.toNat) (i1.toNat * 3 + ((gt r_1 j1) x1.toNat).toNat) (Rd.row 0 rfl) (by have h_ := h3; omega) h4 Try.underlying122 Try.sizeOf3 rfl rfl rfl rfl (by omega) ?_
          refine TL.done ?_
          exact TC.nrm () () ⟨rfl, trivial⟩ [0, 0] (by kernel_rfl)
        · refine TL.loadE (Rd.row 0 rfl) Try.isAgg3 i1.toNat (((gt r_1 j1) x1.toNat).toNat) (gt_spec h3) (v := .int .i64 ((gt r_1 i1) (((gt r_1 j1) x1.toNat).toNat))) (Evi_at _ (by have h_ := h4; omega)) (by simp only [show (Evi 3).sz = 3 from rfl] <;> omega) rfl rfl rfl ?_
          refine TL.done ?_
          exact TC.nrm () () ⟨rfl, trivial⟩ [0, 0] (by kernel_rfl)
        · refine TL.ixa x1 x1.toNat h2 Try.underlying122 Try.sizeOf3 rfl rfl rfl rfl (by omega) ?_
          refine TL.done ?_
          exact TC.nrm () () ⟨rfl, trivial⟩ [0, 0] (by kernel_rfl)
        · refine TL.stA (e := i64v) (z := ((gt r_1 i1) (((gt r_1 j1) x1.toNat).toNat))) 1 0 x1.toNat rfl Try.sizeOf3 rfl (by omega) (s := 0) rfl (by omega) rfl rfl rfl rfl rfl ?_
          refine TL.done ?_
          exact TC.nrm () () trivial [0, 0] (by kernel_rfl)
      · refine TC.region ?_
        refine TL.bin .i64 x1 1 rfl rfl rfl rfl (v := .int .i64 (w64 (x1 + 1))) rfl ?_
        refine TL.move rfl rfl (v := .int .i64 (w64 (x1 + 1))) rfl ?_
        refine TL.done ?_
        exact TC.next1 (((upd out1 x1.toNat ((gt r_1 i1) (((gt r_1 j1) x1.toNat).toNat))), (w64 (x1 + 1)))) (()) ⟨rfl, rfl, rfl, rfl, rfl, trivial⟩ [0, 0] rfl
    · exact TC.brk1 ((out1, x1)) (()) ⟨rfl, rfl, rfl, rfl, rfl, trivial⟩ [0, 0] rfl
  · rintro ⟨out1, x1⟩ _
    refine TC.seq ?_
    refine TC.region ?_
    refine TL.move rfl rfl (v := SV.v s1) rfl ?_
    refine TL.loadM 0 1 (Src.box 1 rfl) Try.isAgg122 Try.sizeOf122 (mid := [.arr 3 (enf i64v out1)]) rfl rfl rfl rfl rfl rfl ?_
    refine TL.call (R := G.slices_Index_3_int_3_int.R) Try.call146 rfl rfl rfl (fun w hS => G.slices_Index_3_int_3_int.calls w s1 r_1 out1 ((Rd.row 0 rfl) w hS)) ?_
    rintro r_2 _ _ ⟨rfl, rfl⟩
    refine TL.assign rfl rfl (v := .int .i64 r_2) rfl ?_
    refine TL.done ?_
    exact TC.retF (Fin.body (fin1 (.inr rfl) rfl (.tmp rfl) [] rfl ⟨rfl, rfl⟩))

end Go.Proofs.Ytiiljfpbcanphaa.G

/- impl.NamedAlgebra$5, as a pure function. -/
set_option linter.unusedVariables false
namespace Go.Proofs.Ytiiljfpbcanphaa.G
open Go Go.Sx Go.Proofs

def impl_NamedAlgebra_5.f (i1 : Int) (j1 : Int) : Option Int := (bif ((Int.tmod i1 2) != (w64 (Int.tdiv j1 2))) then some (-1) else some (w64 ((w64 ((w64 (Int.tdiv i1 2)) * 2)) + (Int.tmod j1 2))))

def impl_NamedAlgebra_5.R (r : Int) (v : Value) (L : List Asn) : Prop := v = .int .i64 r ∧ L = []

set_option maxRecDepth 100000 in
set_option maxHeartbeats 4000000 in
theorem impl_NamedAlgebra_5.calls (w : World) (i1 : Int) (j1 : Int) :
    ∀ r, impl_NamedAlgebra_5.f i1 j1 = some r → Calls Try.prog 98 #[.int .i64 i1, .int .i64 j1] w (Ret w (impl_NamedAlgebra_5.R r)) := by

  refine calls_T (n := 16) (Γ := [(0, .int .i64 i1), (1, .int .i64 j1)]) (R := impl_NamedAlgebra_5.R) Try.func98 rfl rfl (Nat.le_of_ble_eq_true rfl) ⟨rfl, rfl, trivial⟩ ?_
  unfold impl_NamedAlgebra_5.f
  refine TC.seq ?_
  refine TC.region ?_
  refine TL.assign rfl rfl (v := .int .i64 0) rfl ?_
  refine TL.done ?_
  refine TC.seq ?_
  refine TC.seq ?_
  refine TC.region ?_
  refine TL.move rfl rfl (v := .int .i64 i1) rfl ?_
  refine TL.rem .i64 i1 2 (by decide) rfl rfl rfl rfl ?_
  refine TL.move rfl rfl (v := .int .i64 j1) rfl ?_
  refine TL.quo .i64 j1 2 (by decide) rfl rfl rfl rfl ?_
  refine TL.bin .i64 (Int.tmod i1 2) (w64 (Int.tdiv j1 2)) rfl rfl rfl rfl (v := .bool ((Int.tmod i1 2) != (w64 (Int.tdiv j1 2)))) rfl ?_
  refine TL.done ?_
  refine TC.cond (b := ((Int.tmod i1 2) != (w64 (Int.tdiv j1 2)))) rfl (fun c1 => ?_) (fun c2 => ?_)
  · refine TC.seq ?_
    refine TC.region ?_
    refine TL.assign rfl rfl (v := .int .i64 (-1)) rfl ?_
    refine TL.done ?_
    exact TC.retF (Fin.body (fin1 (.inr rfl) rfl (.tmp rfl) [] rfl ⟨rfl, rfl⟩))
  · refine TC.skip ?_
    refine TC.seq ?_
    refine TC.region ?_
    refine TL.move rfl rfl (v := .int .i64 i1) rfl ?_
    refine TL.quo .i64 i1 2 (by decide) rfl rfl rfl rfl ?_
    refine TL.bin .i64 (w64 (Int.tdiv i1 2)) 2 rfl rfl rfl rfl (v := .int .i64 (w64 ((w64 (Int.tdiv i1 2)) * 2))) rfl ?_
    refine TL.move rfl rfl (v := .int .i64 j1) rfl ?_
    refine TL.rem .i64 j1 2 (by decide) rfl rfl rfl rfl ?_
    refine TL.bin .i64 (w64 ((w64 (Int.tdiv i1 2)) * 2)) (Int.tmod j1 2) rfl rfl rfl rfl (v := .int .i64 (w64 ((w64 ((w64 (Int.tdiv i1 2)) * 2)) + (Int.tmod j1 2)))) rfl ?_
    refine TL.assign rfl rfl (v := .int .i64 (w64 ((w64 ((w64 (Int.tdiv i1 2)) * 2)) + (Int.tmod j1 2)))) rfl ?_
    refine TL.done ?_
    exact TC.retF (Fin.body (fin1 (.inr rfl) rfl (.tmp rfl) [] rfl ⟨rfl, rfl⟩))

end Go.Proofs.Ytiiljfpbcanphaa.G
